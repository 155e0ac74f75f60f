/- Several texts in one, in build order. What they prove, each by its own first remark:
Written by our own copy of a printing program (a twelfth state) out of the translation. Not trusted: Lean checks it.
The sponge of the layer, told in natural numbers: a round, the permutation, the constants.
'==' of arrays as one Bool. -/
import Derived.Test.YtjfekjblnoagkaaDoorM2
import Derived.ChangeKeysEq
section
namespace Go.Proofs.YtjfekjblnoagkaaDoor.Q
open Go.RowKit Go.Proofs.YtjfekjblnoagkaaDoorW.PrintWords Go.Proofs.YtjfekjblnoagkaaDoorW.PrintLast Go.Proofs.YtjfekjblnoagkaaDoorW.PrintMore
attribute [local go_sem] max2_int min2_int max_two min_two max_three min_three max_four min_four   -- for this text's walks alone
set_option linter.unusedVariables false
set_option linter.unusedSimpArgs false

abbrev z14_0_ : Array Bool := #[false, false, false, false, false, false, false, false, false, false, false, false, false, false, false, false, false, false]
abbrev z14_1_ : Array Bool := #[false, true, false, false, false, false, false, false, false, false, false, false, false, false, false, false, false, false]
abbrev z14_2_ : Array Bool := #[false, true, true, false, false, false, false, false, false, false, false, false, false, false, false, false, false, false]
abbrev z14_3_ : Array Bool := #[false, true, true, false, true, false, false, false, false, false, false, false, false, false, false, false, false, false]
abbrev z14_4_ : Array Bool := #[false, true, true, false, true, true, false, false, false, false, false, false, false, false, false, false, false, false]
abbrev z14_5_ : Array Bool := #[false, true, true, false, true, true, true, false, false, false, false, false, false, false, false, false, false, false]
abbrev z14_6_ : Array Bool := #[true, true, true, false, true, true, true, false, false, false, false, false, false, false, false, false, false, false]
abbrev z14_7_ : Array Bool := #[true, true, true, true, true, true, true, false, false, false, false, false, false, false, false, false, false, false]
abbrev z14_8_ : Array Bool := #[true, true, true, true, true, true, true, false, true, false, false, false, false, false, false, false, false, false]
abbrev z14_9_ : Array Bool := #[true, true, true, true, true, true, true, false, true, true, false, false, false, false, false, false, false, false]
abbrev z14_10_ : Array Bool := #[true, true, true, true, true, true, true, true, true, true, true, true, true, true, true, true, false, false]
abbrev z14_11_ : Array Bool := #[true, true, true, true, true, true, true, true, true, true, false, false, false, false, false, false, false, false]
abbrev z14_12_ : Array Bool := #[true, true, true, true, true, true, true, false, true, true, false, false, false, false, false, true, false, false]
abbrev z14_13_ : Array Bool := #[true, true, true, true, true, true, true, true, true, true, true, false, false, false, false, false, false, false]
abbrev z14_14_ : Array Bool := #[true, true, true, true, true, true, true, true, true, true, false, false, false, false, false, true, false, false]
abbrev z14_15_ : Array Bool := #[true, true, true, true, true, true, true, true, true, true, true, true, false, false, false, false, false, false]
abbrev z14_16_ : Array Bool := #[true, true, true, true, true, true, true, true, true, true, true, false, false, false, false, true, false, false]
abbrev z14_17_ : Array Bool := #[true, true, true, true, true, true, true, true, true, true, true, true, true, false, false, false, false, false]
abbrev z14_18_ : Array Bool := #[true, true, true, true, true, true, true, true, true, true, true, true, true, true, false, false, false, false]
abbrev z14_19_ : Array Bool := #[true, true, true, true, true, true, true, true, true, true, true, true, true, true, true, false, false, false]
abbrev z14_20_ : Array Bool := #[true, true, true, true, true, true, true, true, true, true, true, true, false, false, false, true, false, false]
abbrev z14_21_ : Array Bool := #[true, true, true, true, true, true, true, true, true, true, true, true, true, false, false, true, false, false]
abbrev z14_22_ : Array Bool := #[true, true, true, true, true, true, true, true, true, true, true, true, true, true, false, true, false, false]
abbrev z14_23_ : Array Bool := #[true, true, true, true, true, true, true, true, true, true, true, true, true, true, true, true, true, false]
abbrev z14_24_ : Array Bool := #[true, true, true, true, true, true, true, true, true, true, true, true, true, true, true, true, true, true]
/-! ### sponge_Round: function 14 -/
def sponge_Round.f (k : Nat) (a0 : Int) (a1 : Int) (a2_0 : Int) (a2_1 : Int) (a2_2 : Int) (a2_3 : Int) : Option (Int × Int × Int × Int) := (sponge_known.f a0 a1).bind fun t131 => (if t131 = true then ((sponge_in.f a0).bind fun bt132 => ((field_Pow.f k a0 bt132.2.1 (IntKind.u64.wrap (wrap64 (4 * a1)))).bind fun t136 => ((sponge_mixer_reduced.f bt132.1 bt132.2.1 bt132.2.2 a2_0 a2_1 a2_2 a2_3).bind fun bt137 => ((sponge_mixer_round.f bt132.1 bt132.2.1 bt132.2.2 t136 bt137.1 bt137.2.1 bt137.2.2.1 bt137.2.2.2).bind fun bt141 => (some (bt141.2.1, bt141.2.2.1, bt141.2.2.2.1, bt141.2.2.2.2)))))) else (some (0, 0, 0, 0)))
theorem sponge_Round.mono : ∀ a0 a1 a2 a3 a4 a5 k, LeO (sponge_Round.f k a0 a1 a2 a3 a4 a5) (sponge_Round.f (k + 1) a0 a1 a2 a3 a4 a5) := by
  intro a0 a1 a2 a3 a4 a5 k
  unfold sponge_Round.f
  repeat' first
      | (with_reducible exact field_Pow.mono _ _ _ _)
      | (with_reducible exact LeO.refl _)
      | (with_reducible exact LeO.none _)
      | (with_reducible refine LeO.ite ?_ ?_)
      | (with_reducible refine LeO.bind ?_ (fun _ => ?_))
      | exact field_Pow.mono _ _ _ _
      | exact LeO.none _
      | refine LeO.ite ?_ ?_
      | refine LeO.bind ?_ (fun _ => ?_)
def sponge_Round.T4 : Bool × List (List Nat × List Nat) := (true, [([], []), ([], []), ([], []), ([2], [2]), ([], []), ([4], [4]), ([5], [5]), ([1, 3, 6], [1, 3, 6]), ([], []), ([], []), ([8, 9, 7], [8, 9]), ([0, 7, 10, 10], [0, 7, 10]), ([11], [11]), ([12], [12]), ([12], [12]), ([], []), ([13, 11, 0, 1, 2, 3, 4, 5, 6, 7, 8, 9, 10, 11, 12, 13, 15], [13]), ([15, 14, 16, 0, 1, 2, 3, 4, 5, 6, 7, 8, 9, 10, 11, 12, 13, 14, 15, 16], [14, 15])])
def sponge_Round.B4 : List Nat := [0, 0, 0, 4, 0, 16, 48, 126, 0, 0, 1022, 2047, 4095, 8191, 8191, 0, 49151, 131071]
theorem sponge_Round.tab4 : rtab .any (opsOf Tryd.f14 4) = sponge_Round.T4 := by kernel_rfl
theorem sponge_Round.bits4 : waitsOk sponge_Round.T4.2 sponge_Round.B4 = true := by kernel_rfl
set_option maxHeartbeats 8000000 in
set_option maxRecDepth 100000 in
theorem sponge_Round.calls (k : Nat) (a0 : Int) (a1 : Int) (a2_0 : Int) (a2_1 : Int) (a2_2 : Int) (a2_3 : Int) (r1 : Int) (r2 : Int) (r3 : Int) (r4 : Int) (w : World) (hrG : GL w) (h : sponge_Round.f k a0 a1 a2_0 a2_1 a2_2 a2_3 = some (r1, r2, r3, r4)) :
  Calls Tryd.prog 14 #[.int .i64 a0, .int .i64 a1, .agg #[.int .u64 a2_0, .int .u64 a2_1, .int .u64 a2_2, .int .u64 a2_3]] w fun e w' => e = .returned (.agg #[.int .u64 r1, .int .u64 r2, .int .u64 r3, .int .u64 r4]) ∧ Below w.heap.size w w' := by
 have hu23 := Tryd.underlying23
 have hu45 := Tryd.underlying45
 have HRG := Aside0.mk hrG
 clear hrG
 have HB := Aside0.mk (Below.refl w.heap.size w)
 have H : ((sponge_known.f a0 a1).bind fun t131 => (if t131 = true then ((sponge_in.f a0).bind fun bt132 => ((field_Pow.f k a0 bt132.2.1 (IntKind.u64.wrap (wrap64 (4 * a1)))).bind fun t136 => ((sponge_mixer_reduced.f bt132.1 bt132.2.1 bt132.2.2 a2_0 a2_1 a2_2 a2_3).bind fun bt137 => ((sponge_mixer_round.f bt132.1 bt132.2.1 bt132.2.2 t136 bt137.1 bt137.2.1 bt137.2.2.1 bt137.2.2.2).bind fun bt141 => (some (bt141.2.1, bt141.2.2.1, bt141.2.2.2.1, bt141.2.2.2.2)))))) else (some (0, 0, 0, 0)))) = some (r1, r2, r3, r4) := h
 clear h
 replace H := Option.bind_eq_some_iff.mp H
 obtain ⟨t131, A40, H⟩ := H
 replace H : (if t131 = true then ((sponge_in.f a0).bind fun bt132 => ((field_Pow.f k a0 bt132.2.1 (IntKind.u64.wrap (wrap64 (4 * a1)))).bind fun t136 => ((sponge_mixer_reduced.f bt132.1 bt132.2.1 bt132.2.2 a2_0 a2_1 a2_2 a2_3).bind fun bt137 => ((sponge_mixer_round.f bt132.1 bt132.2.1 bt132.2.2 t136 bt137.1 bt137.2.1 bt137.2.2.1 bt137.2.2.2).bind fun bt141 => (some (bt141.2.1, bt141.2.2.1, bt141.2.2.2.1, bt141.2.2.2.2)))))) else (some (0, 0, 0, 0))) = some (r1, r2, r3, r4) := H
 have A4 := Aside0.mk A40
 clear A40
 by_cases c5 : t131 = true
 ·subst c5
  have H1 : ((sponge_in.f a0).bind fun bt132 => ((field_Pow.f k a0 bt132.2.1 (IntKind.u64.wrap (wrap64 (4 * a1)))).bind fun t136 => ((sponge_mixer_reduced.f bt132.1 bt132.2.1 bt132.2.2 a2_0 a2_1 a2_2 a2_3).bind fun bt137 => ((sponge_mixer_round.f bt132.1 bt132.2.1 bt132.2.2 t136 bt137.1 bt137.2.1 bt137.2.2.1 bt137.2.2.2).bind fun bt141 => (some (bt141.2.1, bt141.2.2.1, bt141.2.2.2.1, bt141.2.2.2.2)))))) = some (r1, r2, r3, r4) := by rw [if_pos rfl] at H; exact H
  clear H
  have H := H1
  clear H1
  replace H := Option.bind_eq_some_iff.mp H
  obtain ⟨⟨t132, t133, t134⟩, A60, H⟩ := H
  replace H : ((field_Pow.f k a0 t133 (IntKind.u64.wrap (wrap64 (4 * a1)))).bind fun t136 => ((sponge_mixer_reduced.f t132 t133 t134 a2_0 a2_1 a2_2 a2_3).bind fun bt137 => ((sponge_mixer_round.f t132 t133 t134 t136 bt137.1 bt137.2.1 bt137.2.2.1 bt137.2.2.2).bind fun bt141 => (some (bt141.2.1, bt141.2.2.1, bt141.2.2.2.1, bt141.2.2.2.2))))) = some (r1, r2, r3, r4) := H
  have A6 := Aside0.mk A60
  clear A60
  replace H := Option.bind_eq_some_iff.mp H
  obtain ⟨t136, A70, H⟩ := H
  replace H : ((sponge_mixer_reduced.f t132 t133 t134 a2_0 a2_1 a2_2 a2_3).bind fun bt137 => ((sponge_mixer_round.f t132 t133 t134 t136 bt137.1 bt137.2.1 bt137.2.2.1 bt137.2.2.2).bind fun bt141 => (some (bt141.2.1, bt141.2.2.1, bt141.2.2.2.1, bt141.2.2.2.2)))) = some (r1, r2, r3, r4) := H
  have A7 := Aside0.mk A70
  clear A70
  replace H := Option.bind_eq_some_iff.mp H
  obtain ⟨⟨t137, t138, t139, t140⟩, A80, H⟩ := H
  replace H : ((sponge_mixer_round.f t132 t133 t134 t136 t137 t138 t139 t140).bind fun bt141 => (some (bt141.2.1, bt141.2.2.1, bt141.2.2.2.1, bt141.2.2.2.2))) = some (r1, r2, r3, r4) := H
  have A8 := Aside0.mk A80
  clear A80
  replace H := Option.bind_eq_some_iff.mp H
  obtain ⟨⟨t141, t142, t143, t144, t145⟩, A90, H⟩ := H
  replace H : (some (t142, t143, t144, t145)) = some (r1, r2, r3, r4) := H
  have A9 := Aside0.mk A90
  clear A90
  simp only [Option.some.injEq, Prod.mk.injEq] at H
  obtain ⟨rfl, rfl, rfl, rfl⟩ := H
  go_enter Tryd.func14, Tryd.ntmps14
  try go_wp2_with (first | ((with_reducible refine gate_dst (N := 5) rfl ?_); refine box_event ?hg (N := 5) ?hd (cs := #[.int .u64 a2_0, .int .u64 a2_1, .int .u64 a2_2, .int .u64 a2_3]) (t := 23) ?hr ?_; (case hd => rfl); (case hg => rfl); (case hr => first | (go_simp; done) | (go_simp; rfl)); intro g129 hg w10 hbox hb; have n0_ := Aside0.mk (below_step (by repeat (first | (with_reducible first | exact HB.out | apply below_alloc | apply pw_below_drewN | apply below_drew1) | exact HB.out)) hb); have n1_ := Aside0.mk (hbox); have n2_ := Aside0.mk ((by rw [hg]; exact (below_size (by repeat (first | (with_reducible first | exact HB.out | apply below_alloc | apply pw_below_drewN | apply below_drew1) | exact HB.out))) : w.heap.size ≤ g129)); have n3_ := Aside0.mk ((by rw [hg]; exact (below_size (by repeat (first | (with_reducible first | exact HB.out | apply below_alloc | apply pw_below_drewN | apply below_drew1) | exact HB.out))) : w.heap.size ≤ g129)); clear HB; have HB := n0_; have B129 := n1_; have GW129 := n2_; have GE129 := n3_; clear n0_ n1_ n2_ n3_; clear hb hbox hg) | ((with_reducible refine gate_dst (N := 6) rfl ?_); refine box_event ?hg (N := 6) ?hd (cs := #[.int .u64 0, .int .u64 0, .int .u64 0, .int .u64 0]) (t := 23) ?hr ?_; (case hd => rfl); (case hg => rfl); (case hr => first | (go_simp; done) | (go_simp; rfl)); intro g130 hg w11 hbox hb; have n0_ := Aside0.mk (blk_below (g := g129) (o := .cells #[.int .u64 a2_0, .int .u64 a2_1, .int .u64 a2_2, .int .u64 a2_3] 23 (0, 0)) (by (with_reducible repeat first | refine blk_drewN ?_ _ | refine blk_drew ?_ | refine blk_alloc ?_ _); exact B129.out) hb); have n1_ := Aside0.mk (below_step (by repeat (first | (with_reducible first | exact HB.out | apply below_alloc | apply pw_below_drewN | apply below_drew1 | refine below_set ?_ GE129.out) | exact HB.out)) hb); have n2_ := Aside0.mk (hbox); have n3_ := Aside0.mk ((by rw [hg]; exact (below_size (by repeat (first | (with_reducible first | exact HB.out | apply below_alloc | apply pw_below_drewN | apply below_drew1 | refine below_set ?_ GE129.out) | exact HB.out))) : w.heap.size ≤ g130)); have n4_ := Aside0.mk ((by rw [hg]; exact (below_size (by repeat (first | (with_reducible first | exact HB.out | apply below_alloc | apply pw_below_drewN | apply below_drew1 | refine below_set ?_ GE129.out) | exact HB.out))) : w.heap.size ≤ g130)); have n5_ := Aside0.mk ((by rw [hg]; exact Nat.ne_of_lt (blk_lt (g := g129) (o := .cells #[.int .u64 a2_0, .int .u64 a2_1, .int .u64 a2_2, .int .u64 a2_3] 23 (0, 0)) (by (with_reducible repeat first | refine blk_drewN ?_ _ | refine blk_drew ?_ | refine blk_alloc ?_ _); exact B129.out)) : g129 ≠ g130)); have n6_ := Aside0.mk ((by rw [hg]; exact Nat.ne_of_gt (blk_lt (g := g129) (o := .cells #[.int .u64 a2_0, .int .u64 a2_1, .int .u64 a2_2, .int .u64 a2_3] 23 (0, 0)) (by (with_reducible repeat first | refine blk_drewN ?_ _ | refine blk_drew ?_ | refine blk_alloc ?_ _); exact B129.out)) : g130 ≠ g129)); clear B129; clear HB; have B129 := n0_; have HB := n1_; have B130 := n2_; have GW130 := n3_; have GE130 := n4_; have NB129_130 := n5_; have NB130_129 := n6_; clear n0_ n1_ n2_ n3_ n4_ n5_ n6_; clear hb hbox hg) | ((with_reducible refine gate_callee (f := 28) rfl ?_); refine goesL_ (some 12) rfl rfl Tryd.func28 (by kernel_rfl) rfl #[.int .i64 a0, .int .i64 a1] rfl (by (try simp only [List.map_toArray, List.map_cons, List.map_nil]); first | done | rfl) ?_; (with_reducible refine (sponge_known.calls a0 a1 true _ A4.out).mono ?_); rintro e w' ⟨rfl, ⟨nd, rfl⟩⟩; refine ⟨_, rfl, ?_⟩; (try (rw [drewN_self w11]; generalize q_ : World.drewN w11 _ = w11; have n0_ : Aside0 (w11.heap[g129]? = some (.cells #[.int .u64 a2_0, .int .u64 a2_1, .int .u64 a2_2, .int .u64 a2_3] 23 (0, 0))) := ⟨by rw [← q_]; exact (by (with_reducible repeat first | refine blk_drewN ?_ _ | refine blk_drew ?_ | refine blk_alloc ?_ _); exact B129.out)⟩; have n1_ : Aside0 (w11.heap[g130]? = some (.cells #[.int .u64 0, .int .u64 0, .int .u64 0, .int .u64 0] 23 (0, 0))) := ⟨by rw [← q_]; exact (by (with_reducible repeat first | refine blk_drewN ?_ _ | refine blk_drew ?_ | refine blk_alloc ?_ _); exact B130.out)⟩; have n2_ : Aside0 (Below w.heap.size w w11) := ⟨by rw [← q_]; exact (by repeat (first | (with_reducible first | exact HB.out | apply below_alloc | apply pw_below_drewN | apply below_drew1 | refine below_set ?_ GE129.out | refine below_set ?_ GE130.out) | exact HB.out))⟩; clear B129 B130 HB q_; have B129 := n0_; have B130 := n1_; have HB := n2_; clear n0_ n1_ n2_))) | ((with_reducible refine gate_callee (f := 35) rfl ?_); refine goesL_ (some 16) rfl rfl Tryd.func35 (by kernel_rfl) rfl #[.int .i64 a0] rfl (by (try simp only [List.map_toArray, List.map_cons, List.map_nil]); first | done | rfl) ?_; (with_reducible refine (sponge_in.calls a0 t132 t133 t134 _ ?side1 A6.out).mono ?_); (case side1 => repeat (first | exact (GL.below HRG.out HB.out) | (with_reducible refine GL.alloc ?_ _) | (with_reducible refine GL.drewN ?_ _) | (with_reducible refine GL.drew ?_))); rintro e w12 ⟨rfl, hb⟩; refine ⟨_, rfl, ?_⟩; have n0_ := Aside0.mk (blk_below (g := g129) (o := .cells #[.int .u64 a2_0, .int .u64 a2_1, .int .u64 a2_2, .int .u64 a2_3] 23 (0, 0)) (by (with_reducible repeat first | refine blk_drewN ?_ _ | refine blk_drew ?_ | refine blk_alloc ?_ _); exact B129.out) hb); have n1_ := Aside0.mk (blk_below (g := g130) (o := .cells #[.int .u64 0, .int .u64 0, .int .u64 0, .int .u64 0] 23 (0, 0)) (by (with_reducible repeat first | refine blk_drewN ?_ _ | refine blk_drew ?_ | refine blk_alloc ?_ _); exact B130.out) hb); have n2_ := Aside0.mk (below_step (by repeat (first | (with_reducible first | exact HB.out | apply below_alloc | apply pw_below_drewN | apply below_drew1 | refine below_set ?_ GE129.out | refine below_set ?_ GE130.out) | exact HB.out)) hb); clear B129; clear B130; clear HB; have B129 := n0_; have B130 := n1_; have HB := n2_; clear n0_ n1_ n2_; (try clear hb); (try clear hb2); (try clear hk); (try clear hi)) | ((with_reducible refine gate_dst (N := 7) rfl ?_); refine box_event ?hg (N := 7) ?hd (cs := #[.int .u64 0, .int .u64 0, .bool false]) (t := 45) ?hr ?_; (case hd => rfl); (case hg => rfl); (case hr => first | (go_simp; done) | (go_simp; rfl)); intro g135 hg w13 hbox hb; have n0_ := Aside0.mk (blk_below (g := g129) (o := .cells #[.int .u64 a2_0, .int .u64 a2_1, .int .u64 a2_2, .int .u64 a2_3] 23 (0, 0)) (by (with_reducible repeat first | refine blk_drewN ?_ _ | refine blk_drew ?_ | refine blk_alloc ?_ _); exact B129.out) hb); have n1_ := Aside0.mk (blk_below (g := g130) (o := .cells #[.int .u64 0, .int .u64 0, .int .u64 0, .int .u64 0] 23 (0, 0)) (by (with_reducible repeat first | refine blk_drewN ?_ _ | refine blk_drew ?_ | refine blk_alloc ?_ _); exact B130.out) hb); have n2_ := Aside0.mk (below_step (by repeat (first | (with_reducible first | exact HB.out | apply below_alloc | apply pw_below_drewN | apply below_drew1 | refine below_set ?_ GE129.out | refine below_set ?_ GE130.out) | exact HB.out)) hb); have n3_ := Aside0.mk (hbox); have n4_ := Aside0.mk ((by rw [hg]; exact (below_size (by repeat (first | (with_reducible first | exact HB.out | apply below_alloc | apply pw_below_drewN | apply below_drew1 | refine below_set ?_ GE129.out | refine below_set ?_ GE130.out) | exact HB.out))) : w.heap.size ≤ g135)); have n5_ := Aside0.mk ((by rw [hg]; exact (below_size (by repeat (first | (with_reducible first | exact HB.out | apply below_alloc | apply pw_below_drewN | apply below_drew1 | refine below_set ?_ GE129.out | refine below_set ?_ GE130.out) | exact HB.out))) : w.heap.size ≤ g135)); have n6_ := Aside0.mk ((by rw [hg]; exact Nat.ne_of_lt (blk_lt (g := g129) (o := .cells #[.int .u64 a2_0, .int .u64 a2_1, .int .u64 a2_2, .int .u64 a2_3] 23 (0, 0)) (by (with_reducible repeat first | refine blk_drewN ?_ _ | refine blk_drew ?_ | refine blk_alloc ?_ _); exact B129.out)) : g129 ≠ g135)); have n7_ := Aside0.mk ((by rw [hg]; exact Nat.ne_of_gt (blk_lt (g := g129) (o := .cells #[.int .u64 a2_0, .int .u64 a2_1, .int .u64 a2_2, .int .u64 a2_3] 23 (0, 0)) (by (with_reducible repeat first | refine blk_drewN ?_ _ | refine blk_drew ?_ | refine blk_alloc ?_ _); exact B129.out)) : g135 ≠ g129)); have n8_ := Aside0.mk ((by rw [hg]; exact Nat.ne_of_lt (blk_lt (g := g130) (o := .cells #[.int .u64 0, .int .u64 0, .int .u64 0, .int .u64 0] 23 (0, 0)) (by (with_reducible repeat first | refine blk_drewN ?_ _ | refine blk_drew ?_ | refine blk_alloc ?_ _); exact B130.out)) : g130 ≠ g135)); have n9_ := Aside0.mk ((by rw [hg]; exact Nat.ne_of_gt (blk_lt (g := g130) (o := .cells #[.int .u64 0, .int .u64 0, .int .u64 0, .int .u64 0] 23 (0, 0)) (by (with_reducible repeat first | refine blk_drewN ?_ _ | refine blk_drew ?_ | refine blk_alloc ?_ _); exact B130.out)) : g135 ≠ g130)); clear B129; clear B130; clear HB; have B129 := n0_; have B130 := n1_; have HB := n2_; have B135 := n3_; have GW135 := n4_; have GE135 := n5_; have NB129_135 := n6_; have NB135_129 := n7_; have NB130_135 := n8_; have NB135_130 := n9_; clear n0_ n1_ n2_ n3_ n4_ n5_ n6_ n7_ n8_ n9_; clear hb hbox hg; have hnb14 := NB135_129.out; have hnc14 := NB129_135.out; have hnb15 := NB135_130.out; have hnc15 := NB130_135.out; have hcz16_0 : w13.cell? ⟨g135, 0, none⟩ = some (.int .u64 0) := bq_ B135 0; have hcz16_1 : w13.cell? ⟨g135, 1, none⟩ = some (.int .u64 0) := bq_ B135 1; have hcz16_2 : w13.cell? ⟨g135, 2, none⟩ = some (.bool false) := bq_ B135 2; have hfz16_0 := blk_frozen B135.out 0; have hfz16_1 := blk_frozen B135.out 1; have hfz16_2 := blk_frozen B135.out 2))
  have n0_ : Aside0 ((((w13.setCell ⟨g135, 0, none⟩ (.int .u64 t132)).setCell ⟨g135, 1, none⟩ (.int .u64 t133)).setCell ⟨g135, 2, none⟩ (.bool t134)).heap[g129]? = some (.cells #[.int .u64 a2_0, .int .u64 a2_1, .int .u64 a2_2, .int .u64 a2_3] 23 (0, 0))) := ⟨by (with_reducible repeat first | refine blk_drewN ?_ _ | refine blk_drew ?_ | refine blk_alloc ?_ _); refine blk_far ?_ NB129_135.out _; (with_reducible repeat first | refine blk_drewN ?_ _ | refine blk_drew ?_ | refine blk_alloc ?_ _); refine blk_far ?_ NB129_135.out _; (with_reducible repeat first | refine blk_drewN ?_ _ | refine blk_drew ?_ | refine blk_alloc ?_ _); refine blk_far ?_ NB129_135.out _; (with_reducible repeat first | refine blk_drewN ?_ _ | refine blk_drew ?_ | refine blk_alloc ?_ _); exact B129.out⟩
  have n1_ : Aside0 ((((w13.setCell ⟨g135, 0, none⟩ (.int .u64 t132)).setCell ⟨g135, 1, none⟩ (.int .u64 t133)).setCell ⟨g135, 2, none⟩ (.bool t134)).heap[g130]? = some (.cells #[.int .u64 0, .int .u64 0, .int .u64 0, .int .u64 0] 23 (0, 0))) := ⟨by (with_reducible repeat first | refine blk_drewN ?_ _ | refine blk_drew ?_ | refine blk_alloc ?_ _); refine blk_far ?_ NB130_135.out _; (with_reducible repeat first | refine blk_drewN ?_ _ | refine blk_drew ?_ | refine blk_alloc ?_ _); refine blk_far ?_ NB130_135.out _; (with_reducible repeat first | refine blk_drewN ?_ _ | refine blk_drew ?_ | refine blk_alloc ?_ _); refine blk_far ?_ NB130_135.out _; (with_reducible repeat first | refine blk_drewN ?_ _ | refine blk_drew ?_ | refine blk_alloc ?_ _); exact B130.out⟩
  have n2_ : Aside0 ((((w13.setCell ⟨g135, 0, none⟩ (.int .u64 t132)).setCell ⟨g135, 1, none⟩ (.int .u64 t133)).setCell ⟨g135, 2, none⟩ (.bool t134)).heap[g135]? = some (.cells #[.int .u64 t132, .int .u64 t133, .bool t134] 45 (0, 0))) := ⟨by (with_reducible repeat first | refine blk_drewN ?_ _ | refine blk_drew ?_ | refine blk_alloc ?_ _); refine blk_put (cs := #[.int .u64 t132, .int .u64 t133, .bool false]) ?_ 2 _ rfl; (with_reducible repeat first | refine blk_drewN ?_ _ | refine blk_drew ?_ | refine blk_alloc ?_ _); refine blk_put (cs := #[.int .u64 t132, .int .u64 0, .bool false]) ?_ 1 _ rfl; (with_reducible repeat first | refine blk_drewN ?_ _ | refine blk_drew ?_ | refine blk_alloc ?_ _); refine blk_put (cs := #[.int .u64 0, .int .u64 0, .bool false]) ?_ 0 _ rfl; (with_reducible repeat first | refine blk_drewN ?_ _ | refine blk_drew ?_ | refine blk_alloc ?_ _); exact B135.out⟩
  have n3_ : Aside0 (Below w.heap.size w (((w13.setCell ⟨g135, 0, none⟩ (.int .u64 t132)).setCell ⟨g135, 1, none⟩ (.int .u64 t133)).setCell ⟨g135, 2, none⟩ (.bool t134))) := ⟨by repeat (first | (with_reducible first | exact HB.out | apply below_alloc | apply pw_below_drewN | apply below_drew1 | refine below_set ?_ GE129.out | refine below_set ?_ GE130.out | refine below_set ?_ GE135.out) | exact HB.out)⟩
  (try clear B129)
  (try clear B130)
  (try clear B135)
  (try clear HB)
  generalize (((w13.setCell ⟨g135, 0, none⟩ (.int .u64 t132)).setCell ⟨g135, 1, none⟩ (.int .u64 t133)).setCell ⟨g135, 2, none⟩ (.bool t134)) = w17 at n0_ n1_ n2_ n3_ ⊢
  have B129 := n0_
  have B130 := n1_
  have B135 := n2_
  have HB := n3_
  clear n0_ n1_ n2_ n3_
  have n0_ := Aside0.mk (blk_drew B129.out)
  have n1_ := Aside0.mk (blk_drew B130.out)
  have n2_ := Aside0.mk (blk_drew B135.out)
  have n3_ := Aside0.mk (below_drew1 HB.out)
  clear B129
  clear B130
  clear B135
  clear HB
  have B129 := n0_
  have B130 := n1_
  have B135 := n2_
  have HB := n3_
  clear n0_ n1_ n2_ n3_
  refine start_ (n := 18) (S := fun w' => w'.cell? ⟨g135, 0, none⟩ = some (.int .u64 t132) ∧ w'.cell? ⟨g135, 1, none⟩ = some (.int .u64 t133) ∧ w'.cell? ⟨g135, 2, none⟩ = some (.bool t134) ∧ w'.cell? ⟨g129, 0, none⟩ = some (.int .u64 a2_0) ∧ w'.cell? ⟨g129, 1, none⟩ = some (.int .u64 a2_1) ∧ w'.cell? ⟨g129, 2, none⟩ = some (.int .u64 a2_2) ∧ w'.cell? ⟨g129, 3, none⟩ = some (.int .u64 a2_3)) (ds := []) z14_0_ (by kernel_rfl) rfl rfl ⟨bq_ B135 0, bq_ B135 1, bq_ B135 2, bq_ B129 0, bq_ B129 1, bq_ B129 2, bq_ B129 3⟩ (fun hL => ?_); refine with_tabW sponge_Round.tab4 sponge_Round.bits4 (fun T_ W_ => ?_)
  generalize w17.drew = w18 at B129 B130 B135 HB hL ⊢
  refine pure_ (i := 1) (N := some 19) (v := ?_) (a' := ?_) z14_1_ rfl rfl (an_ T_) (fun _ _ _ h => h) (Or.inl ⟨by rfl, ?_⟩) ?_ ?_
  rotate_left; · intro w'; go_simp; with_reducible rfl
  rotate_left; · simp only [Act.put, sa_, sb_, sc_, i64_w, i32_w]; rfl
  refine pure_ (i := 2) (N := some 20) (v := ?_) (a' := ?_) z14_2_ rfl rfl (an_ T_) (fun _ _ _ h => h) (Or.inl ⟨by rfl, ?_⟩) ?_ ?_
  rotate_left; · intro w'; go_simp; with_reducible rfl
  rotate_left; · simp only [Act.put, sa_, sb_, sc_, i64_w, i32_w]; rfl
  refine pure_ (i := 4) (N := some 22) (v := ?_) (a' := ?_) z14_3_ rfl rfl (an_ T_) (fun _ _ _ h => h) (Or.inl ⟨by rfl, ?_⟩) ?_ ?_
  rotate_left; · intro w'; go_simp; with_reducible rfl
  rotate_left; · simp only [Act.put, sa_, sb_, sc_, i64_w, i32_w]; rfl
  refine pure_ (i := 5) (N := some 23) (v := ?_) (a' := ?_) z14_4_ rfl rfl (an_ T_) (fun _ _ _ h => h) (Or.inl ⟨by rfl, ?_⟩) ?_ ?_
  rotate_left; · intro w'; go_simp; with_reducible rfl
  rotate_left; · simp only [Act.put, sa_, sb_, sc_, i64_w, i32_w]; rfl
  refine pure_ (i := 6) (N := some 24) (v := ?_) (a' := ?_) z14_5_ rfl rfl (an_ T_) (fun _ _ _ h => h) (Or.inl ⟨by rfl, ?_⟩) ?_ ?_
  rotate_left; · intro w'; go_simp; with_reducible rfl
  rotate_left; · simp only [Act.put, sa_, sb_, sc_, i64_w, i32_w]; rfl
  refine take_ (i := 0) (N := some 18) (v := ?_) (a' := ?_) z14_6_ rfl rfl (tk_ T_ W_) (fun _ _ _ h => h) (Or.inl ⟨by rfl, ?_⟩) hL ?_ ?_
  rotate_left
  ·rintro w' ⟨s0, s1, s2, s3, s4, s5, s6⟩
   go_simp
   with_reducible rfl
  rotate_left
  ·simp only [Act.put, sa_, sb_, sc_, i64_w, i32_w]
   rfl
  refine take_ (i := 3) (N := some 21) (v := ?_) (a' := ?_) z14_7_ rfl rfl (tk_ T_ W_) (fun _ _ _ h => h) (Or.inl ⟨by rfl, ?_⟩) hL ?_ ?_
  rotate_left
  ·rintro w' ⟨s0, s1, s2, s3, s4, s5, s6⟩
   go_simp
   with_reducible rfl
  rotate_left
  ·simp only [Act.put, sa_, sb_, sc_, i64_w, i32_w]
   rfl
  refine take_ (i := 8) (N := some 26) (v := ?_) (a' := ?_) z14_8_ rfl rfl (tk_ T_ W_) (fun _ _ _ h => h) (Or.inl ⟨by rfl, ?_⟩) hL ?_ ?_
  rotate_left
  ·rintro w' ⟨s0, s1, s2, s3, s4, s5, s6⟩
   go_simp
   with_reducible rfl
  rotate_left
  ·simp only [Act.put, sa_, sb_, sc_, i64_w, i32_w]
   rfl
  refine take_ (i := 9) (N := some 27) (v := ?_) (a' := ?_) z14_9_ rfl rfl (tk_ T_ W_) (fun _ _ _ h => h) (Or.inl ⟨by rfl, ?_⟩) hL ?_ ?_
  rotate_left
  ·rintro w' ⟨s0, s1, s2, s3, s4, s5, s6⟩
   go_simp
   with_reducible rfl
  rotate_left
  ·simp only [Act.put, sa_, sb_, sc_, i64_w, i32_w]
   rfl
  refine join_ (σ := Nat) 2 z14_10_ (fun s_ => [(25, .int .u64 t136), (28, .agg #[.int .u64 t137, .int .u64 t138, .int .u64 t139, .int .u64 t140]), (29, .tuple #[.int .u64 t141, .agg #[.int .u64 t142, .int .u64 t143, .int .u64 t144, .int .u64 t145]]), (9, .pointer (some ⟨s_, 0, none⟩)), (17, .tuple #[.int .u64 t141, .agg #[.int .u64 t142, .int .u64 t143, .int .u64 t144, .int .u64 t145]]), (30, .int .u64 t141), (31, .agg #[.int .u64 t142, .int .u64 t143, .int .u64 t144, .int .u64 t145])]) (fun s_ w' => (w'.cell? ⟨g135, 0, none⟩ = some (.int .u64 t132) ∧ w'.cell? ⟨g135, 1, none⟩ = some (.int .u64 t133) ∧ w'.cell? ⟨g135, 2, none⟩ = some (.bool t134) ∧ w'.cell? ⟨g129, 0, none⟩ = some (.int .u64 a2_0) ∧ w'.cell? ⟨g129, 1, none⟩ = some (.int .u64 a2_1) ∧ w'.cell? ⟨g129, 2, none⟩ = some (.int .u64 a2_2) ∧ w'.cell? ⟨g129, 3, none⟩ = some (.int .u64 a2_3)) ∧ (w'.heap[g129]? = some (.cells #[.int .u64 a2_0, .int .u64 a2_1, .int .u64 a2_2, .int .u64 a2_3] 23 (0, 0))) ∧ (w'.heap[g130]? = some (.cells #[.int .u64 0, .int .u64 0, .int .u64 0, .int .u64 0] 23 (0, 0))) ∧ (w'.heap[g135]? = some (.cells #[.int .u64 t132, .int .u64 t133, .bool t134] 45 (0, 0))) ∧ (w'.heap[s_]? = some (.cells #[.int .u64 0, .int .u64 0, .int .u64 0, .int .u64 0] 23 (0, 0))) ∧ (w.heap.size ≤ s_) ∧ (w.heap.size ≤ s_) ∧ (g129 ≠ s_) ∧ (s_ ≠ g129) ∧ (g130 ≠ s_) ∧ (s_ ≠ g130) ∧ (g135 ≠ s_) ∧ (s_ ≠ g135) ∧ (Below w.heap.size w w')) ?_ ?_
  rotate_left
  ·intro hCont
   refine two_ (i := 7) (j := 15) (Ni := some 25) (Nj := some 9) z14_11_ z14_12_ rfl rfl rfl rfl (two_of T_.out (by kernel_rfl)) (by decide) (by decide) (fun K hK => ?_) (fun K hK => ?_)
   ·skip
    refine goes_ Tryd.func29 (by kernel_rfl) rfl #[.int .i64 a0, .int .u64 t133, .int .u64 (IntKind.u64.wrap (wrap64 (4 * a1)))] (by rfl) rfl rfl (by (try simp only [List.map_toArray, List.map_cons, List.map_nil]); first | done | rfl) ?_
    with_reducible refine (field_Pow.calls k a0 t133 (IntKind.u64.wrap (wrap64 (4 * a1))) t136 _ ?side1 A7.out).mono ?_
    (case side1 => repeat (first | exact (GL.below HRG.out HB.out) | (with_reducible refine GL.alloc ?_ _) | (with_reducible refine GL.drewN ?_ _) | (with_reducible refine GL.drew ?_)))
    rintro e w19 ⟨rfl, hb⟩
    refine ⟨_, rfl, ?_⟩
    have n0_ := Aside0.mk (blk_below (g := g129) (o := .cells #[.int .u64 a2_0, .int .u64 a2_1, .int .u64 a2_2, .int .u64 a2_3] 23 (0, 0)) (by (with_reducible repeat first | refine blk_drewN ?_ _ | refine blk_drew ?_ | refine blk_alloc ?_ _); exact B129.out) hb)
    have n1_ := Aside0.mk (blk_below (g := g130) (o := .cells #[.int .u64 0, .int .u64 0, .int .u64 0, .int .u64 0] 23 (0, 0)) (by (with_reducible repeat first | refine blk_drewN ?_ _ | refine blk_drew ?_ | refine blk_alloc ?_ _); exact B130.out) hb)
    have n2_ := Aside0.mk (blk_below (g := g135) (o := .cells #[.int .u64 t132, .int .u64 t133, .bool t134] 45 (0, 0)) (by (with_reducible repeat first | refine blk_drewN ?_ _ | refine blk_drew ?_ | refine blk_alloc ?_ _); exact B135.out) hb)
    have n3_ := Aside0.mk (below_step (by repeat (first | (with_reducible first | exact HB.out | apply below_alloc | apply pw_below_drewN | apply below_drew1 | refine below_set ?_ GE129.out | refine below_set ?_ GE130.out | refine below_set ?_ GE135.out) | exact HB.out)) hb)
    clear B129
    clear B130
    clear B135
    clear HB
    have B129 := n0_
    have B130 := n1_
    have B135 := n2_
    have HB := n3_
    clear n0_ n1_ n2_ n3_
    (try clear hb)
    (try clear hb2)
    (try clear hk)
    (try clear hi)
    refine hK.out _ _ ⟨bq_ B135 0, bq_ B135 1, bq_ B135 2, bq_ B129 0, bq_ B129 1, bq_ B129 2, bq_ B129 3⟩ (fun hL => ?_)
    clear hK K
    refine norm_ (a' := ?_) ?_ ?_
    rotate_left
    ·show Act.put _ (some 25) _ = _
     simp only [Act.put, sa_, sb_, sc_, i64_w, i32_w]
     rfl
    refine two_ (i := 10) (j := 15) (Ni := some 28) (Nj := some 9) z14_13_ z14_14_ rfl rfl rfl rfl (two_of T_.out (by kernel_rfl)) (by decide) (by decide) (fun K hK => ?_) (fun K hK => ?_)
    ·skip
     refine goes_ Tryd.func37 (by kernel_rfl) rfl #[.agg #[.int .u64 t132, .int .u64 t133, .bool t134], .agg #[.int .u64 a2_0, .int .u64 a2_1, .int .u64 a2_2, .int .u64 a2_3]] (by rfl) rfl rfl (by (try simp only [List.map_toArray, List.map_cons, List.map_nil]); first | done | rfl) ?_
     with_reducible refine (sponge_mixer_reduced.calls t132 t133 t134 a2_0 a2_1 a2_2 a2_3 t137 t138 t139 t140 _ A8.out).mono ?_
     rintro e w20 ⟨rfl, hb⟩
     refine ⟨_, rfl, ?_⟩
     have n0_ := Aside0.mk (blk_below (g := g129) (o := .cells #[.int .u64 a2_0, .int .u64 a2_1, .int .u64 a2_2, .int .u64 a2_3] 23 (0, 0)) (by (with_reducible repeat first | refine blk_drewN ?_ _ | refine blk_drew ?_ | refine blk_alloc ?_ _); exact B129.out) hb)
     have n1_ := Aside0.mk (blk_below (g := g130) (o := .cells #[.int .u64 0, .int .u64 0, .int .u64 0, .int .u64 0] 23 (0, 0)) (by (with_reducible repeat first | refine blk_drewN ?_ _ | refine blk_drew ?_ | refine blk_alloc ?_ _); exact B130.out) hb)
     have n2_ := Aside0.mk (blk_below (g := g135) (o := .cells #[.int .u64 t132, .int .u64 t133, .bool t134] 45 (0, 0)) (by (with_reducible repeat first | refine blk_drewN ?_ _ | refine blk_drew ?_ | refine blk_alloc ?_ _); exact B135.out) hb)
     have n3_ := Aside0.mk (below_step (by repeat (first | (with_reducible first | exact HB.out | apply below_alloc | apply pw_below_drewN | apply below_drew1 | refine below_set ?_ GE129.out | refine below_set ?_ GE130.out | refine below_set ?_ GE135.out) | exact HB.out)) hb)
     clear B129
     clear B130
     clear B135
     clear HB
     have B129 := n0_
     have B130 := n1_
     have B135 := n2_
     have HB := n3_
     clear n0_ n1_ n2_ n3_
     (try clear hb)
     (try clear hb2)
     (try clear hk)
     (try clear hi)
     refine hK.out _ _ ⟨bq_ B135 0, bq_ B135 1, bq_ B135 2, bq_ B129 0, bq_ B129 1, bq_ B129 2, bq_ B129 3⟩ (fun hL => ?_)
     clear hK K
     refine norm_ (a' := ?_) ?_ ?_
     rotate_left
     ·show Act.put _ (some 28) _ = _
      simp only [Act.put, sa_, sb_, sc_, i64_w, i32_w]
      rfl
     refine two_ (i := 11) (j := 15) (Ni := some 29) (Nj := some 9) z14_15_ z14_16_ rfl rfl rfl rfl (two_of T_.out (by kernel_rfl)) (by decide) (by decide) (fun K hK => ?_) (fun K hK => ?_)
     ·skip
      refine goes_ Tryd.func36 (by kernel_rfl) rfl #[.agg #[.int .u64 t132, .int .u64 t133, .bool t134], .int .u64 t136, .agg #[.int .u64 t137, .int .u64 t138, .int .u64 t139, .int .u64 t140]] (by rfl) rfl rfl (by (try simp only [List.map_toArray, List.map_cons, List.map_nil]); first | done | rfl) ?_
      with_reducible refine (sponge_mixer_round.calls t132 t133 t134 t136 t137 t138 t139 t140 t141 t142 t143 t144 t145 _ A9.out).mono ?_
      rintro e w21 ⟨rfl, hb⟩
      refine ⟨_, rfl, ?_⟩
      have n0_ := Aside0.mk (blk_below (g := g129) (o := .cells #[.int .u64 a2_0, .int .u64 a2_1, .int .u64 a2_2, .int .u64 a2_3] 23 (0, 0)) (by (with_reducible repeat first | refine blk_drewN ?_ _ | refine blk_drew ?_ | refine blk_alloc ?_ _); exact B129.out) hb)
      have n1_ := Aside0.mk (blk_below (g := g130) (o := .cells #[.int .u64 0, .int .u64 0, .int .u64 0, .int .u64 0] 23 (0, 0)) (by (with_reducible repeat first | refine blk_drewN ?_ _ | refine blk_drew ?_ | refine blk_alloc ?_ _); exact B130.out) hb)
      have n2_ := Aside0.mk (blk_below (g := g135) (o := .cells #[.int .u64 t132, .int .u64 t133, .bool t134] 45 (0, 0)) (by (with_reducible repeat first | refine blk_drewN ?_ _ | refine blk_drew ?_ | refine blk_alloc ?_ _); exact B135.out) hb)
      have n3_ := Aside0.mk (below_step (by repeat (first | (with_reducible first | exact HB.out | apply below_alloc | apply pw_below_drewN | apply below_drew1 | refine below_set ?_ GE129.out | refine below_set ?_ GE130.out | refine below_set ?_ GE135.out) | exact HB.out)) hb)
      clear B129
      clear B130
      clear B135
      clear HB
      have B129 := n0_
      have B130 := n1_
      have B135 := n2_
      have HB := n3_
      clear n0_ n1_ n2_ n3_
      (try clear hb)
      (try clear hb2)
      (try clear hk)
      (try clear hi)
      refine hK.out _ _ ⟨bq_ B135 0, bq_ B135 1, bq_ B135 2, bq_ B129 0, bq_ B129 1, bq_ B129 2, bq_ B129 3⟩ (fun hL => ?_)
      clear hK K
      refine norm_ (a' := ?_) ?_ ?_
      rotate_left
      ·show Act.put _ (some 29) _ = _
       simp only [Act.put, sa_, sb_, sc_, i64_w, i32_w]
       rfl
      refine pure_ (i := 12) (N := some 17) (v := ?_) (a' := ?_) z14_17_ rfl rfl (an_ T_) (fun _ _ _ h => h) (Or.inl ⟨by rfl, ?_⟩) ?_ ?_
      rotate_left; · intro w'; go_simp; with_reducible rfl
      rotate_left; · simp only [Act.put, sa_, sb_, sc_, i64_w, i32_w]; rfl
      refine pure_ (i := 13) (N := some 30) (v := ?_) (a' := ?_) z14_18_ rfl rfl (an_ T_) (fun _ _ _ h => h) (Or.inl ⟨by rfl, ?_⟩) ?_ ?_
      rotate_left; · intro w'; go_simp; with_reducible rfl
      rotate_left; · simp only [Act.put, sa_, sb_, sc_, i64_w, i32_w]; rfl
      refine pure_ (i := 14) (N := some 31) (v := ?_) (a' := ?_) z14_19_ rfl rfl (an_ T_) (fun _ _ _ h => h) (Or.inl ⟨by rfl, ?_⟩) ?_ ?_
      rotate_left; · intro w'; go_simp; with_reducible rfl
      rotate_left; · simp only [Act.put, sa_, sb_, sc_, i64_w, i32_w]; rfl
      refine one_ (i := 15) (N := some 9) z14_10_ rfl rfl (on_ T_) (by decide) (fun K hK => ?_)
      refine box_step ?hg (N := 9) ?hd (cs := #[.int .u64 0, .int .u64 0, .int .u64 0, .int .u64 0]) (t := 23) ?hr ?_; (case hd => rfl); (case hg => rfl); (case hr => first | (go_simp; done) | (go_simp; rfl))
      intro g146 hg w22 hbox hb
      have n0_ := Aside0.mk (blk_below (g := g129) (o := .cells #[.int .u64 a2_0, .int .u64 a2_1, .int .u64 a2_2, .int .u64 a2_3] 23 (0, 0)) (by (with_reducible repeat first | refine blk_drewN ?_ _ | refine blk_drew ?_ | refine blk_alloc ?_ _); exact B129.out) hb)
      have n1_ := Aside0.mk (blk_below (g := g130) (o := .cells #[.int .u64 0, .int .u64 0, .int .u64 0, .int .u64 0] 23 (0, 0)) (by (with_reducible repeat first | refine blk_drewN ?_ _ | refine blk_drew ?_ | refine blk_alloc ?_ _); exact B130.out) hb)
      have n2_ := Aside0.mk (blk_below (g := g135) (o := .cells #[.int .u64 t132, .int .u64 t133, .bool t134] 45 (0, 0)) (by (with_reducible repeat first | refine blk_drewN ?_ _ | refine blk_drew ?_ | refine blk_alloc ?_ _); exact B135.out) hb)
      have n3_ := Aside0.mk (below_step (by repeat (first | (with_reducible first | exact HB.out | apply below_alloc | apply pw_below_drewN | apply below_drew1 | refine below_set ?_ GE129.out | refine below_set ?_ GE130.out | refine below_set ?_ GE135.out) | exact HB.out)) hb)
      have n4_ := Aside0.mk (hbox)
      have n5_ := Aside0.mk ((by rw [hg]; exact (below_size (by repeat (first | (with_reducible first | exact HB.out | apply below_alloc | apply pw_below_drewN | apply below_drew1 | refine below_set ?_ GE129.out | refine below_set ?_ GE130.out | refine below_set ?_ GE135.out) | exact HB.out))) : w.heap.size ≤ g146))
      have n6_ := Aside0.mk ((by rw [hg]; exact (below_size (by repeat (first | (with_reducible first | exact HB.out | apply below_alloc | apply pw_below_drewN | apply below_drew1 | refine below_set ?_ GE129.out | refine below_set ?_ GE130.out | refine below_set ?_ GE135.out) | exact HB.out))) : w.heap.size ≤ g146))
      have n7_ := Aside0.mk ((by rw [hg]; exact Nat.ne_of_lt (blk_lt (g := g129) (o := .cells #[.int .u64 a2_0, .int .u64 a2_1, .int .u64 a2_2, .int .u64 a2_3] 23 (0, 0)) (by (with_reducible repeat first | refine blk_drewN ?_ _ | refine blk_drew ?_ | refine blk_alloc ?_ _); exact B129.out)) : g129 ≠ g146))
      have n8_ := Aside0.mk ((by rw [hg]; exact Nat.ne_of_gt (blk_lt (g := g129) (o := .cells #[.int .u64 a2_0, .int .u64 a2_1, .int .u64 a2_2, .int .u64 a2_3] 23 (0, 0)) (by (with_reducible repeat first | refine blk_drewN ?_ _ | refine blk_drew ?_ | refine blk_alloc ?_ _); exact B129.out)) : g146 ≠ g129))
      have n9_ := Aside0.mk ((by rw [hg]; exact Nat.ne_of_lt (blk_lt (g := g130) (o := .cells #[.int .u64 0, .int .u64 0, .int .u64 0, .int .u64 0] 23 (0, 0)) (by (with_reducible repeat first | refine blk_drewN ?_ _ | refine blk_drew ?_ | refine blk_alloc ?_ _); exact B130.out)) : g130 ≠ g146))
      have n10_ := Aside0.mk ((by rw [hg]; exact Nat.ne_of_gt (blk_lt (g := g130) (o := .cells #[.int .u64 0, .int .u64 0, .int .u64 0, .int .u64 0] 23 (0, 0)) (by (with_reducible repeat first | refine blk_drewN ?_ _ | refine blk_drew ?_ | refine blk_alloc ?_ _); exact B130.out)) : g146 ≠ g130))
      have n11_ := Aside0.mk ((by rw [hg]; exact Nat.ne_of_lt (blk_lt (g := g135) (o := .cells #[.int .u64 t132, .int .u64 t133, .bool t134] 45 (0, 0)) (by (with_reducible repeat first | refine blk_drewN ?_ _ | refine blk_drew ?_ | refine blk_alloc ?_ _); exact B135.out)) : g135 ≠ g146))
      have n12_ := Aside0.mk ((by rw [hg]; exact Nat.ne_of_gt (blk_lt (g := g135) (o := .cells #[.int .u64 t132, .int .u64 t133, .bool t134] 45 (0, 0)) (by (with_reducible repeat first | refine blk_drewN ?_ _ | refine blk_drew ?_ | refine blk_alloc ?_ _); exact B135.out)) : g146 ≠ g135))
      clear B129
      clear B130
      clear B135
      clear HB
      have B129 := n0_
      have B130 := n1_
      have B135 := n2_
      have HB := n3_
      have B146 := n4_
      have GW146 := n5_
      have GE146 := n6_
      have NB129_146 := n7_
      have NB146_129 := n8_
      have NB130_146 := n9_
      have NB146_130 := n10_
      have NB135_146 := n11_
      have NB146_135 := n12_
      clear n0_ n1_ n2_ n3_ n4_ n5_ n6_ n7_ n8_ n9_ n10_ n11_ n12_
      clear hb hbox hg
      refine hK.out _ _ ⟨bq_ B135 0, bq_ B135 1, bq_ B135 2, bq_ B129 0, bq_ B129 1, bq_ B129 2, bq_ B129 3⟩ (fun hL => ?_)
      clear hK K
      refine norm_ (a' := ?_) ?_ ?_
      rotate_left
      ·show Act.put _ (some 9) _ = _
       simp only [Act.put, sa_, sb_, sc_, i64_w, i32_w]
       rfl
      exact norm_ (by simp only [putAll, Act.put, List.setIfInBounds_toArray, List.set_cons_zero, List.set_cons_succ]) (hCont (g146) _ ⟨hL, (by (with_reducible repeat first | refine blk_drewN ?_ _ | refine blk_drew ?_ | refine blk_alloc ?_ _); exact B129.out), (by (with_reducible repeat first | refine blk_drewN ?_ _ | refine blk_drew ?_ | refine blk_alloc ?_ _); exact B130.out), (by (with_reducible repeat first | refine blk_drewN ?_ _ | refine blk_drew ?_ | refine blk_alloc ?_ _); exact B135.out), (by (with_reducible repeat first | refine blk_drewN ?_ _ | refine blk_drew ?_ | refine blk_alloc ?_ _); exact B146.out), GW146.out, GE146.out, NB129_146.out, NB146_129.out, NB130_146.out, NB146_130.out, NB135_146.out, NB146_135.out, (by repeat (first | (with_reducible first | exact HB.out | apply below_alloc | apply pw_below_drewN | apply below_drew1 | refine below_set ?_ GE129.out | refine below_set ?_ GE130.out | refine below_set ?_ GE135.out | refine below_set ?_ GE146.out) | exact HB.out))⟩)
     ·skip
      refine box_step ?hg (N := 9) ?hd (cs := #[.int .u64 0, .int .u64 0, .int .u64 0, .int .u64 0]) (t := 23) ?hr ?_; (case hd => rfl); (case hg => rfl); (case hr => first | (go_simp; done) | (go_simp; rfl))
      intro g146 hg w21 hbox hb
      have n0_ := Aside0.mk (blk_below (g := g129) (o := .cells #[.int .u64 a2_0, .int .u64 a2_1, .int .u64 a2_2, .int .u64 a2_3] 23 (0, 0)) (by (with_reducible repeat first | refine blk_drewN ?_ _ | refine blk_drew ?_ | refine blk_alloc ?_ _); exact B129.out) hb)
      have n1_ := Aside0.mk (blk_below (g := g130) (o := .cells #[.int .u64 0, .int .u64 0, .int .u64 0, .int .u64 0] 23 (0, 0)) (by (with_reducible repeat first | refine blk_drewN ?_ _ | refine blk_drew ?_ | refine blk_alloc ?_ _); exact B130.out) hb)
      have n2_ := Aside0.mk (blk_below (g := g135) (o := .cells #[.int .u64 t132, .int .u64 t133, .bool t134] 45 (0, 0)) (by (with_reducible repeat first | refine blk_drewN ?_ _ | refine blk_drew ?_ | refine blk_alloc ?_ _); exact B135.out) hb)
      have n3_ := Aside0.mk (below_step (by repeat (first | (with_reducible first | exact HB.out | apply below_alloc | apply pw_below_drewN | apply below_drew1 | refine below_set ?_ GE129.out | refine below_set ?_ GE130.out | refine below_set ?_ GE135.out) | exact HB.out)) hb)
      have n4_ := Aside0.mk (hbox)
      have n5_ := Aside0.mk ((by rw [hg]; exact (below_size (by repeat (first | (with_reducible first | exact HB.out | apply below_alloc | apply pw_below_drewN | apply below_drew1 | refine below_set ?_ GE129.out | refine below_set ?_ GE130.out | refine below_set ?_ GE135.out) | exact HB.out))) : w.heap.size ≤ g146))
      have n6_ := Aside0.mk ((by rw [hg]; exact (below_size (by repeat (first | (with_reducible first | exact HB.out | apply below_alloc | apply pw_below_drewN | apply below_drew1 | refine below_set ?_ GE129.out | refine below_set ?_ GE130.out | refine below_set ?_ GE135.out) | exact HB.out))) : w.heap.size ≤ g146))
      have n7_ := Aside0.mk ((by rw [hg]; exact Nat.ne_of_lt (blk_lt (g := g129) (o := .cells #[.int .u64 a2_0, .int .u64 a2_1, .int .u64 a2_2, .int .u64 a2_3] 23 (0, 0)) (by (with_reducible repeat first | refine blk_drewN ?_ _ | refine blk_drew ?_ | refine blk_alloc ?_ _); exact B129.out)) : g129 ≠ g146))
      have n8_ := Aside0.mk ((by rw [hg]; exact Nat.ne_of_gt (blk_lt (g := g129) (o := .cells #[.int .u64 a2_0, .int .u64 a2_1, .int .u64 a2_2, .int .u64 a2_3] 23 (0, 0)) (by (with_reducible repeat first | refine blk_drewN ?_ _ | refine blk_drew ?_ | refine blk_alloc ?_ _); exact B129.out)) : g146 ≠ g129))
      have n9_ := Aside0.mk ((by rw [hg]; exact Nat.ne_of_lt (blk_lt (g := g130) (o := .cells #[.int .u64 0, .int .u64 0, .int .u64 0, .int .u64 0] 23 (0, 0)) (by (with_reducible repeat first | refine blk_drewN ?_ _ | refine blk_drew ?_ | refine blk_alloc ?_ _); exact B130.out)) : g130 ≠ g146))
      have n10_ := Aside0.mk ((by rw [hg]; exact Nat.ne_of_gt (blk_lt (g := g130) (o := .cells #[.int .u64 0, .int .u64 0, .int .u64 0, .int .u64 0] 23 (0, 0)) (by (with_reducible repeat first | refine blk_drewN ?_ _ | refine blk_drew ?_ | refine blk_alloc ?_ _); exact B130.out)) : g146 ≠ g130))
      have n11_ := Aside0.mk ((by rw [hg]; exact Nat.ne_of_lt (blk_lt (g := g135) (o := .cells #[.int .u64 t132, .int .u64 t133, .bool t134] 45 (0, 0)) (by (with_reducible repeat first | refine blk_drewN ?_ _ | refine blk_drew ?_ | refine blk_alloc ?_ _); exact B135.out)) : g135 ≠ g146))
      have n12_ := Aside0.mk ((by rw [hg]; exact Nat.ne_of_gt (blk_lt (g := g135) (o := .cells #[.int .u64 t132, .int .u64 t133, .bool t134] 45 (0, 0)) (by (with_reducible repeat first | refine blk_drewN ?_ _ | refine blk_drew ?_ | refine blk_alloc ?_ _); exact B135.out)) : g146 ≠ g135))
      clear B129
      clear B130
      clear B135
      clear HB
      have B129 := n0_
      have B130 := n1_
      have B135 := n2_
      have HB := n3_
      have B146 := n4_
      have GW146 := n5_
      have GE146 := n6_
      have NB129_146 := n7_
      have NB146_129 := n8_
      have NB130_146 := n9_
      have NB146_130 := n10_
      have NB135_146 := n11_
      have NB146_135 := n12_
      clear n0_ n1_ n2_ n3_ n4_ n5_ n6_ n7_ n8_ n9_ n10_ n11_ n12_
      clear hb hbox hg
      refine hK.out _ _ ⟨bq_ B135 0, bq_ B135 1, bq_ B135 2, bq_ B129 0, bq_ B129 1, bq_ B129 2, bq_ B129 3⟩ (fun hL => ?_)
      clear hK K
      refine norm_ (a' := ?_) ?_ ?_
      rotate_left
      ·show Act.put _ (some 9) _ = _
       simp only [Act.put, sa_, sb_, sc_, i64_w, i32_w]
       rfl
      refine one_ (i := 11) (N := some 29) z14_20_ rfl rfl (on_ T_) (by decide) (fun K hK => ?_)
      refine goes_ Tryd.func36 (by kernel_rfl) rfl #[.agg #[.int .u64 t132, .int .u64 t133, .bool t134], .int .u64 t136, .agg #[.int .u64 t137, .int .u64 t138, .int .u64 t139, .int .u64 t140]] (by rfl) rfl rfl (by (try simp only [List.map_toArray, List.map_cons, List.map_nil]); first | done | rfl) ?_
      with_reducible refine (sponge_mixer_round.calls t132 t133 t134 t136 t137 t138 t139 t140 t141 t142 t143 t144 t145 _ A9.out).mono ?_
      rintro e w22 ⟨rfl, hb⟩
      refine ⟨_, rfl, ?_⟩
      have n0_ := Aside0.mk (blk_below (g := g129) (o := .cells #[.int .u64 a2_0, .int .u64 a2_1, .int .u64 a2_2, .int .u64 a2_3] 23 (0, 0)) (by (with_reducible repeat first | refine blk_drewN ?_ _ | refine blk_drew ?_ | refine blk_alloc ?_ _); exact B129.out) hb)
      have n1_ := Aside0.mk (blk_below (g := g130) (o := .cells #[.int .u64 0, .int .u64 0, .int .u64 0, .int .u64 0] 23 (0, 0)) (by (with_reducible repeat first | refine blk_drewN ?_ _ | refine blk_drew ?_ | refine blk_alloc ?_ _); exact B130.out) hb)
      have n2_ := Aside0.mk (blk_below (g := g135) (o := .cells #[.int .u64 t132, .int .u64 t133, .bool t134] 45 (0, 0)) (by (with_reducible repeat first | refine blk_drewN ?_ _ | refine blk_drew ?_ | refine blk_alloc ?_ _); exact B135.out) hb)
      have n3_ := Aside0.mk (blk_below (g := g146) (o := .cells #[.int .u64 0, .int .u64 0, .int .u64 0, .int .u64 0] 23 (0, 0)) (by (with_reducible repeat first | refine blk_drewN ?_ _ | refine blk_drew ?_ | refine blk_alloc ?_ _); exact B146.out) hb)
      have n4_ := Aside0.mk (below_step (by repeat (first | (with_reducible first | exact HB.out | apply below_alloc | apply pw_below_drewN | apply below_drew1 | refine below_set ?_ GE129.out | refine below_set ?_ GE130.out | refine below_set ?_ GE135.out | refine below_set ?_ GE146.out) | exact HB.out)) hb)
      clear B129
      clear B130
      clear B135
      clear B146
      clear HB
      have B129 := n0_
      have B130 := n1_
      have B135 := n2_
      have B146 := n3_
      have HB := n4_
      clear n0_ n1_ n2_ n3_ n4_
      (try clear hb)
      (try clear hb2)
      (try clear hk)
      (try clear hi)
      refine hK.out _ _ ⟨bq_ B135 0, bq_ B135 1, bq_ B135 2, bq_ B129 0, bq_ B129 1, bq_ B129 2, bq_ B129 3⟩ (fun hL => ?_)
      clear hK K
      refine norm_ (a' := ?_) ?_ ?_
      rotate_left
      ·show Act.put _ (some 29) _ = _
       simp only [Act.put, sa_, sb_, sc_, i64_w, i32_w]
       rfl
      refine pure_ (i := 12) (N := some 17) (v := ?_) (a' := ?_) z14_21_ rfl rfl (an_ T_) (fun _ _ _ h => h) (Or.inl ⟨by rfl, ?_⟩) ?_ ?_
      rotate_left; · intro w'; go_simp; with_reducible rfl
      rotate_left; · simp only [Act.put, sa_, sb_, sc_, i64_w, i32_w]; rfl
      refine pure_ (i := 13) (N := some 30) (v := ?_) (a' := ?_) z14_22_ rfl rfl (an_ T_) (fun _ _ _ h => h) (Or.inl ⟨by rfl, ?_⟩) ?_ ?_
      rotate_left; · intro w'; go_simp; with_reducible rfl
      rotate_left; · simp only [Act.put, sa_, sb_, sc_, i64_w, i32_w]; rfl
      refine pure_ (i := 14) (N := some 31) (v := ?_) (a' := ?_) z14_10_ rfl rfl (an_ T_) (fun _ _ _ h => h) (Or.inl ⟨by rfl, ?_⟩) ?_ ?_
      rotate_left; · intro w'; go_simp; with_reducible rfl
      rotate_left; · simp only [Act.put, sa_, sb_, sc_, i64_w, i32_w]; rfl
      exact norm_ (by simp only [putAll, Act.put, List.setIfInBounds_toArray, List.set_cons_zero, List.set_cons_succ]) (hCont (g146) _ ⟨hL, (by (with_reducible repeat first | refine blk_drewN ?_ _ | refine blk_drew ?_ | refine blk_alloc ?_ _); exact B129.out), (by (with_reducible repeat first | refine blk_drewN ?_ _ | refine blk_drew ?_ | refine blk_alloc ?_ _); exact B130.out), (by (with_reducible repeat first | refine blk_drewN ?_ _ | refine blk_drew ?_ | refine blk_alloc ?_ _); exact B135.out), (by (with_reducible repeat first | refine blk_drewN ?_ _ | refine blk_drew ?_ | refine blk_alloc ?_ _); exact B146.out), GW146.out, GE146.out, NB129_146.out, NB146_129.out, NB130_146.out, NB146_130.out, NB135_146.out, NB146_135.out, (by repeat (first | (with_reducible first | exact HB.out | apply below_alloc | apply pw_below_drewN | apply below_drew1 | refine below_set ?_ GE129.out | refine below_set ?_ GE130.out | refine below_set ?_ GE135.out | refine below_set ?_ GE146.out) | exact HB.out))⟩)
    ·skip
     refine box_step ?hg (N := 9) ?hd (cs := #[.int .u64 0, .int .u64 0, .int .u64 0, .int .u64 0]) (t := 23) ?hr ?_; (case hd => rfl); (case hg => rfl); (case hr => first | (go_simp; done) | (go_simp; rfl))
     intro g146 hg w20 hbox hb
     have n0_ := Aside0.mk (blk_below (g := g129) (o := .cells #[.int .u64 a2_0, .int .u64 a2_1, .int .u64 a2_2, .int .u64 a2_3] 23 (0, 0)) (by (with_reducible repeat first | refine blk_drewN ?_ _ | refine blk_drew ?_ | refine blk_alloc ?_ _); exact B129.out) hb)
     have n1_ := Aside0.mk (blk_below (g := g130) (o := .cells #[.int .u64 0, .int .u64 0, .int .u64 0, .int .u64 0] 23 (0, 0)) (by (with_reducible repeat first | refine blk_drewN ?_ _ | refine blk_drew ?_ | refine blk_alloc ?_ _); exact B130.out) hb)
     have n2_ := Aside0.mk (blk_below (g := g135) (o := .cells #[.int .u64 t132, .int .u64 t133, .bool t134] 45 (0, 0)) (by (with_reducible repeat first | refine blk_drewN ?_ _ | refine blk_drew ?_ | refine blk_alloc ?_ _); exact B135.out) hb)
     have n3_ := Aside0.mk (below_step (by repeat (first | (with_reducible first | exact HB.out | apply below_alloc | apply pw_below_drewN | apply below_drew1 | refine below_set ?_ GE129.out | refine below_set ?_ GE130.out | refine below_set ?_ GE135.out) | exact HB.out)) hb)
     have n4_ := Aside0.mk (hbox)
     have n5_ := Aside0.mk ((by rw [hg]; exact (below_size (by repeat (first | (with_reducible first | exact HB.out | apply below_alloc | apply pw_below_drewN | apply below_drew1 | refine below_set ?_ GE129.out | refine below_set ?_ GE130.out | refine below_set ?_ GE135.out) | exact HB.out))) : w.heap.size ≤ g146))
     have n6_ := Aside0.mk ((by rw [hg]; exact (below_size (by repeat (first | (with_reducible first | exact HB.out | apply below_alloc | apply pw_below_drewN | apply below_drew1 | refine below_set ?_ GE129.out | refine below_set ?_ GE130.out | refine below_set ?_ GE135.out) | exact HB.out))) : w.heap.size ≤ g146))
     have n7_ := Aside0.mk ((by rw [hg]; exact Nat.ne_of_lt (blk_lt (g := g129) (o := .cells #[.int .u64 a2_0, .int .u64 a2_1, .int .u64 a2_2, .int .u64 a2_3] 23 (0, 0)) (by (with_reducible repeat first | refine blk_drewN ?_ _ | refine blk_drew ?_ | refine blk_alloc ?_ _); exact B129.out)) : g129 ≠ g146))
     have n8_ := Aside0.mk ((by rw [hg]; exact Nat.ne_of_gt (blk_lt (g := g129) (o := .cells #[.int .u64 a2_0, .int .u64 a2_1, .int .u64 a2_2, .int .u64 a2_3] 23 (0, 0)) (by (with_reducible repeat first | refine blk_drewN ?_ _ | refine blk_drew ?_ | refine blk_alloc ?_ _); exact B129.out)) : g146 ≠ g129))
     have n9_ := Aside0.mk ((by rw [hg]; exact Nat.ne_of_lt (blk_lt (g := g130) (o := .cells #[.int .u64 0, .int .u64 0, .int .u64 0, .int .u64 0] 23 (0, 0)) (by (with_reducible repeat first | refine blk_drewN ?_ _ | refine blk_drew ?_ | refine blk_alloc ?_ _); exact B130.out)) : g130 ≠ g146))
     have n10_ := Aside0.mk ((by rw [hg]; exact Nat.ne_of_gt (blk_lt (g := g130) (o := .cells #[.int .u64 0, .int .u64 0, .int .u64 0, .int .u64 0] 23 (0, 0)) (by (with_reducible repeat first | refine blk_drewN ?_ _ | refine blk_drew ?_ | refine blk_alloc ?_ _); exact B130.out)) : g146 ≠ g130))
     have n11_ := Aside0.mk ((by rw [hg]; exact Nat.ne_of_lt (blk_lt (g := g135) (o := .cells #[.int .u64 t132, .int .u64 t133, .bool t134] 45 (0, 0)) (by (with_reducible repeat first | refine blk_drewN ?_ _ | refine blk_drew ?_ | refine blk_alloc ?_ _); exact B135.out)) : g135 ≠ g146))
     have n12_ := Aside0.mk ((by rw [hg]; exact Nat.ne_of_gt (blk_lt (g := g135) (o := .cells #[.int .u64 t132, .int .u64 t133, .bool t134] 45 (0, 0)) (by (with_reducible repeat first | refine blk_drewN ?_ _ | refine blk_drew ?_ | refine blk_alloc ?_ _); exact B135.out)) : g146 ≠ g135))
     clear B129
     clear B130
     clear B135
     clear HB
     have B129 := n0_
     have B130 := n1_
     have B135 := n2_
     have HB := n3_
     have B146 := n4_
     have GW146 := n5_
     have GE146 := n6_
     have NB129_146 := n7_
     have NB146_129 := n8_
     have NB130_146 := n9_
     have NB146_130 := n10_
     have NB135_146 := n11_
     have NB146_135 := n12_
     clear n0_ n1_ n2_ n3_ n4_ n5_ n6_ n7_ n8_ n9_ n10_ n11_ n12_
     clear hb hbox hg
     refine hK.out _ _ ⟨bq_ B135 0, bq_ B135 1, bq_ B135 2, bq_ B129 0, bq_ B129 1, bq_ B129 2, bq_ B129 3⟩ (fun hL => ?_)
     clear hK K
     refine norm_ (a' := ?_) ?_ ?_
     rotate_left
     ·show Act.put _ (some 9) _ = _
      simp only [Act.put, sa_, sb_, sc_, i64_w, i32_w]
      rfl
     refine one_ (i := 10) (N := some 28) z14_16_ rfl rfl (on_ T_) (by decide) (fun K hK => ?_)
     refine goes_ Tryd.func37 (by kernel_rfl) rfl #[.agg #[.int .u64 t132, .int .u64 t133, .bool t134], .agg #[.int .u64 a2_0, .int .u64 a2_1, .int .u64 a2_2, .int .u64 a2_3]] (by rfl) rfl rfl (by (try simp only [List.map_toArray, List.map_cons, List.map_nil]); first | done | rfl) ?_
     with_reducible refine (sponge_mixer_reduced.calls t132 t133 t134 a2_0 a2_1 a2_2 a2_3 t137 t138 t139 t140 _ A8.out).mono ?_
     rintro e w21 ⟨rfl, hb⟩
     refine ⟨_, rfl, ?_⟩
     have n0_ := Aside0.mk (blk_below (g := g129) (o := .cells #[.int .u64 a2_0, .int .u64 a2_1, .int .u64 a2_2, .int .u64 a2_3] 23 (0, 0)) (by (with_reducible repeat first | refine blk_drewN ?_ _ | refine blk_drew ?_ | refine blk_alloc ?_ _); exact B129.out) hb)
     have n1_ := Aside0.mk (blk_below (g := g130) (o := .cells #[.int .u64 0, .int .u64 0, .int .u64 0, .int .u64 0] 23 (0, 0)) (by (with_reducible repeat first | refine blk_drewN ?_ _ | refine blk_drew ?_ | refine blk_alloc ?_ _); exact B130.out) hb)
     have n2_ := Aside0.mk (blk_below (g := g135) (o := .cells #[.int .u64 t132, .int .u64 t133, .bool t134] 45 (0, 0)) (by (with_reducible repeat first | refine blk_drewN ?_ _ | refine blk_drew ?_ | refine blk_alloc ?_ _); exact B135.out) hb)
     have n3_ := Aside0.mk (blk_below (g := g146) (o := .cells #[.int .u64 0, .int .u64 0, .int .u64 0, .int .u64 0] 23 (0, 0)) (by (with_reducible repeat first | refine blk_drewN ?_ _ | refine blk_drew ?_ | refine blk_alloc ?_ _); exact B146.out) hb)
     have n4_ := Aside0.mk (below_step (by repeat (first | (with_reducible first | exact HB.out | apply below_alloc | apply pw_below_drewN | apply below_drew1 | refine below_set ?_ GE129.out | refine below_set ?_ GE130.out | refine below_set ?_ GE135.out | refine below_set ?_ GE146.out) | exact HB.out)) hb)
     clear B129
     clear B130
     clear B135
     clear B146
     clear HB
     have B129 := n0_
     have B130 := n1_
     have B135 := n2_
     have B146 := n3_
     have HB := n4_
     clear n0_ n1_ n2_ n3_ n4_
     (try clear hb)
     (try clear hb2)
     (try clear hk)
     (try clear hi)
     refine hK.out _ _ ⟨bq_ B135 0, bq_ B135 1, bq_ B135 2, bq_ B129 0, bq_ B129 1, bq_ B129 2, bq_ B129 3⟩ (fun hL => ?_)
     clear hK K
     refine norm_ (a' := ?_) ?_ ?_
     rotate_left
     ·show Act.put _ (some 28) _ = _
      simp only [Act.put, sa_, sb_, sc_, i64_w, i32_w]
      rfl
     refine one_ (i := 11) (N := some 29) z14_20_ rfl rfl (on_ T_) (by decide) (fun K hK => ?_)
     refine goes_ Tryd.func36 (by kernel_rfl) rfl #[.agg #[.int .u64 t132, .int .u64 t133, .bool t134], .int .u64 t136, .agg #[.int .u64 t137, .int .u64 t138, .int .u64 t139, .int .u64 t140]] (by rfl) rfl rfl (by (try simp only [List.map_toArray, List.map_cons, List.map_nil]); first | done | rfl) ?_
     with_reducible refine (sponge_mixer_round.calls t132 t133 t134 t136 t137 t138 t139 t140 t141 t142 t143 t144 t145 _ A9.out).mono ?_
     rintro e w22 ⟨rfl, hb⟩
     refine ⟨_, rfl, ?_⟩
     have n0_ := Aside0.mk (blk_below (g := g129) (o := .cells #[.int .u64 a2_0, .int .u64 a2_1, .int .u64 a2_2, .int .u64 a2_3] 23 (0, 0)) (by (with_reducible repeat first | refine blk_drewN ?_ _ | refine blk_drew ?_ | refine blk_alloc ?_ _); exact B129.out) hb)
     have n1_ := Aside0.mk (blk_below (g := g130) (o := .cells #[.int .u64 0, .int .u64 0, .int .u64 0, .int .u64 0] 23 (0, 0)) (by (with_reducible repeat first | refine blk_drewN ?_ _ | refine blk_drew ?_ | refine blk_alloc ?_ _); exact B130.out) hb)
     have n2_ := Aside0.mk (blk_below (g := g135) (o := .cells #[.int .u64 t132, .int .u64 t133, .bool t134] 45 (0, 0)) (by (with_reducible repeat first | refine blk_drewN ?_ _ | refine blk_drew ?_ | refine blk_alloc ?_ _); exact B135.out) hb)
     have n3_ := Aside0.mk (blk_below (g := g146) (o := .cells #[.int .u64 0, .int .u64 0, .int .u64 0, .int .u64 0] 23 (0, 0)) (by (with_reducible repeat first | refine blk_drewN ?_ _ | refine blk_drew ?_ | refine blk_alloc ?_ _); exact B146.out) hb)
     have n4_ := Aside0.mk (below_step (by repeat (first | (with_reducible first | exact HB.out | apply below_alloc | apply pw_below_drewN | apply below_drew1 | refine below_set ?_ GE129.out | refine below_set ?_ GE130.out | refine below_set ?_ GE135.out | refine below_set ?_ GE146.out) | exact HB.out)) hb)
     clear B129
     clear B130
     clear B135
     clear B146
     clear HB
     have B129 := n0_
     have B130 := n1_
     have B135 := n2_
     have B146 := n3_
     have HB := n4_
     clear n0_ n1_ n2_ n3_ n4_
     (try clear hb)
     (try clear hb2)
     (try clear hk)
     (try clear hi)
     refine hK.out _ _ ⟨bq_ B135 0, bq_ B135 1, bq_ B135 2, bq_ B129 0, bq_ B129 1, bq_ B129 2, bq_ B129 3⟩ (fun hL => ?_)
     clear hK K
     refine norm_ (a' := ?_) ?_ ?_
     rotate_left
     ·show Act.put _ (some 29) _ = _
      simp only [Act.put, sa_, sb_, sc_, i64_w, i32_w]
      rfl
     refine pure_ (i := 12) (N := some 17) (v := ?_) (a' := ?_) z14_21_ rfl rfl (an_ T_) (fun _ _ _ h => h) (Or.inl ⟨by rfl, ?_⟩) ?_ ?_
     rotate_left; · intro w'; go_simp; with_reducible rfl
     rotate_left; · simp only [Act.put, sa_, sb_, sc_, i64_w, i32_w]; rfl
     refine pure_ (i := 13) (N := some 30) (v := ?_) (a' := ?_) z14_22_ rfl rfl (an_ T_) (fun _ _ _ h => h) (Or.inl ⟨by rfl, ?_⟩) ?_ ?_
     rotate_left; · intro w'; go_simp; with_reducible rfl
     rotate_left; · simp only [Act.put, sa_, sb_, sc_, i64_w, i32_w]; rfl
     refine pure_ (i := 14) (N := some 31) (v := ?_) (a' := ?_) z14_10_ rfl rfl (an_ T_) (fun _ _ _ h => h) (Or.inl ⟨by rfl, ?_⟩) ?_ ?_
     rotate_left; · intro w'; go_simp; with_reducible rfl
     rotate_left; · simp only [Act.put, sa_, sb_, sc_, i64_w, i32_w]; rfl
     exact norm_ (by simp only [putAll, Act.put, List.setIfInBounds_toArray, List.set_cons_zero, List.set_cons_succ]) (hCont (g146) _ ⟨hL, (by (with_reducible repeat first | refine blk_drewN ?_ _ | refine blk_drew ?_ | refine blk_alloc ?_ _); exact B129.out), (by (with_reducible repeat first | refine blk_drewN ?_ _ | refine blk_drew ?_ | refine blk_alloc ?_ _); exact B130.out), (by (with_reducible repeat first | refine blk_drewN ?_ _ | refine blk_drew ?_ | refine blk_alloc ?_ _); exact B135.out), (by (with_reducible repeat first | refine blk_drewN ?_ _ | refine blk_drew ?_ | refine blk_alloc ?_ _); exact B146.out), GW146.out, GE146.out, NB129_146.out, NB146_129.out, NB130_146.out, NB146_130.out, NB135_146.out, NB146_135.out, (by repeat (first | (with_reducible first | exact HB.out | apply below_alloc | apply pw_below_drewN | apply below_drew1 | refine below_set ?_ GE129.out | refine below_set ?_ GE130.out | refine below_set ?_ GE135.out | refine below_set ?_ GE146.out) | exact HB.out))⟩)
   ·skip
    refine box_step ?hg (N := 9) ?hd (cs := #[.int .u64 0, .int .u64 0, .int .u64 0, .int .u64 0]) (t := 23) ?hr ?_; (case hd => rfl); (case hg => rfl); (case hr => first | (go_simp; done) | (go_simp; rfl))
    intro g146 hg w19 hbox hb
    have n0_ := Aside0.mk (blk_below (g := g129) (o := .cells #[.int .u64 a2_0, .int .u64 a2_1, .int .u64 a2_2, .int .u64 a2_3] 23 (0, 0)) (by (with_reducible repeat first | refine blk_drewN ?_ _ | refine blk_drew ?_ | refine blk_alloc ?_ _); exact B129.out) hb)
    have n1_ := Aside0.mk (blk_below (g := g130) (o := .cells #[.int .u64 0, .int .u64 0, .int .u64 0, .int .u64 0] 23 (0, 0)) (by (with_reducible repeat first | refine blk_drewN ?_ _ | refine blk_drew ?_ | refine blk_alloc ?_ _); exact B130.out) hb)
    have n2_ := Aside0.mk (blk_below (g := g135) (o := .cells #[.int .u64 t132, .int .u64 t133, .bool t134] 45 (0, 0)) (by (with_reducible repeat first | refine blk_drewN ?_ _ | refine blk_drew ?_ | refine blk_alloc ?_ _); exact B135.out) hb)
    have n3_ := Aside0.mk (below_step (by repeat (first | (with_reducible first | exact HB.out | apply below_alloc | apply pw_below_drewN | apply below_drew1 | refine below_set ?_ GE129.out | refine below_set ?_ GE130.out | refine below_set ?_ GE135.out) | exact HB.out)) hb)
    have n4_ := Aside0.mk (hbox)
    have n5_ := Aside0.mk ((by rw [hg]; exact (below_size (by repeat (first | (with_reducible first | exact HB.out | apply below_alloc | apply pw_below_drewN | apply below_drew1 | refine below_set ?_ GE129.out | refine below_set ?_ GE130.out | refine below_set ?_ GE135.out) | exact HB.out))) : w.heap.size ≤ g146))
    have n6_ := Aside0.mk ((by rw [hg]; exact (below_size (by repeat (first | (with_reducible first | exact HB.out | apply below_alloc | apply pw_below_drewN | apply below_drew1 | refine below_set ?_ GE129.out | refine below_set ?_ GE130.out | refine below_set ?_ GE135.out) | exact HB.out))) : w.heap.size ≤ g146))
    have n7_ := Aside0.mk ((by rw [hg]; exact Nat.ne_of_lt (blk_lt (g := g129) (o := .cells #[.int .u64 a2_0, .int .u64 a2_1, .int .u64 a2_2, .int .u64 a2_3] 23 (0, 0)) (by (with_reducible repeat first | refine blk_drewN ?_ _ | refine blk_drew ?_ | refine blk_alloc ?_ _); exact B129.out)) : g129 ≠ g146))
    have n8_ := Aside0.mk ((by rw [hg]; exact Nat.ne_of_gt (blk_lt (g := g129) (o := .cells #[.int .u64 a2_0, .int .u64 a2_1, .int .u64 a2_2, .int .u64 a2_3] 23 (0, 0)) (by (with_reducible repeat first | refine blk_drewN ?_ _ | refine blk_drew ?_ | refine blk_alloc ?_ _); exact B129.out)) : g146 ≠ g129))
    have n9_ := Aside0.mk ((by rw [hg]; exact Nat.ne_of_lt (blk_lt (g := g130) (o := .cells #[.int .u64 0, .int .u64 0, .int .u64 0, .int .u64 0] 23 (0, 0)) (by (with_reducible repeat first | refine blk_drewN ?_ _ | refine blk_drew ?_ | refine blk_alloc ?_ _); exact B130.out)) : g130 ≠ g146))
    have n10_ := Aside0.mk ((by rw [hg]; exact Nat.ne_of_gt (blk_lt (g := g130) (o := .cells #[.int .u64 0, .int .u64 0, .int .u64 0, .int .u64 0] 23 (0, 0)) (by (with_reducible repeat first | refine blk_drewN ?_ _ | refine blk_drew ?_ | refine blk_alloc ?_ _); exact B130.out)) : g146 ≠ g130))
    have n11_ := Aside0.mk ((by rw [hg]; exact Nat.ne_of_lt (blk_lt (g := g135) (o := .cells #[.int .u64 t132, .int .u64 t133, .bool t134] 45 (0, 0)) (by (with_reducible repeat first | refine blk_drewN ?_ _ | refine blk_drew ?_ | refine blk_alloc ?_ _); exact B135.out)) : g135 ≠ g146))
    have n12_ := Aside0.mk ((by rw [hg]; exact Nat.ne_of_gt (blk_lt (g := g135) (o := .cells #[.int .u64 t132, .int .u64 t133, .bool t134] 45 (0, 0)) (by (with_reducible repeat first | refine blk_drewN ?_ _ | refine blk_drew ?_ | refine blk_alloc ?_ _); exact B135.out)) : g146 ≠ g135))
    clear B129
    clear B130
    clear B135
    clear HB
    have B129 := n0_
    have B130 := n1_
    have B135 := n2_
    have HB := n3_
    have B146 := n4_
    have GW146 := n5_
    have GE146 := n6_
    have NB129_146 := n7_
    have NB146_129 := n8_
    have NB130_146 := n9_
    have NB146_130 := n10_
    have NB135_146 := n11_
    have NB146_135 := n12_
    clear n0_ n1_ n2_ n3_ n4_ n5_ n6_ n7_ n8_ n9_ n10_ n11_ n12_
    clear hb hbox hg
    refine hK.out _ _ ⟨bq_ B135 0, bq_ B135 1, bq_ B135 2, bq_ B129 0, bq_ B129 1, bq_ B129 2, bq_ B129 3⟩ (fun hL => ?_)
    clear hK K
    refine norm_ (a' := ?_) ?_ ?_
    rotate_left
    ·show Act.put _ (some 9) _ = _
     simp only [Act.put, sa_, sb_, sc_, i64_w, i32_w]
     rfl
    refine one_ (i := 7) (N := some 25) z14_14_ rfl rfl (on_ T_) (by decide) (fun K hK => ?_)
    refine goes_ Tryd.func29 (by kernel_rfl) rfl #[.int .i64 a0, .int .u64 t133, .int .u64 (IntKind.u64.wrap (wrap64 (4 * a1)))] (by rfl) rfl rfl (by (try simp only [List.map_toArray, List.map_cons, List.map_nil]); first | done | rfl) ?_
    with_reducible refine (field_Pow.calls k a0 t133 (IntKind.u64.wrap (wrap64 (4 * a1))) t136 _ ?side1 A7.out).mono ?_
    (case side1 => repeat (first | exact (GL.below HRG.out HB.out) | (with_reducible refine GL.alloc ?_ _) | (with_reducible refine GL.drewN ?_ _) | (with_reducible refine GL.drew ?_)))
    rintro e w20 ⟨rfl, hb⟩
    refine ⟨_, rfl, ?_⟩
    have n0_ := Aside0.mk (blk_below (g := g129) (o := .cells #[.int .u64 a2_0, .int .u64 a2_1, .int .u64 a2_2, .int .u64 a2_3] 23 (0, 0)) (by (with_reducible repeat first | refine blk_drewN ?_ _ | refine blk_drew ?_ | refine blk_alloc ?_ _); exact B129.out) hb)
    have n1_ := Aside0.mk (blk_below (g := g130) (o := .cells #[.int .u64 0, .int .u64 0, .int .u64 0, .int .u64 0] 23 (0, 0)) (by (with_reducible repeat first | refine blk_drewN ?_ _ | refine blk_drew ?_ | refine blk_alloc ?_ _); exact B130.out) hb)
    have n2_ := Aside0.mk (blk_below (g := g135) (o := .cells #[.int .u64 t132, .int .u64 t133, .bool t134] 45 (0, 0)) (by (with_reducible repeat first | refine blk_drewN ?_ _ | refine blk_drew ?_ | refine blk_alloc ?_ _); exact B135.out) hb)
    have n3_ := Aside0.mk (blk_below (g := g146) (o := .cells #[.int .u64 0, .int .u64 0, .int .u64 0, .int .u64 0] 23 (0, 0)) (by (with_reducible repeat first | refine blk_drewN ?_ _ | refine blk_drew ?_ | refine blk_alloc ?_ _); exact B146.out) hb)
    have n4_ := Aside0.mk (below_step (by repeat (first | (with_reducible first | exact HB.out | apply below_alloc | apply pw_below_drewN | apply below_drew1 | refine below_set ?_ GE129.out | refine below_set ?_ GE130.out | refine below_set ?_ GE135.out | refine below_set ?_ GE146.out) | exact HB.out)) hb)
    clear B129
    clear B130
    clear B135
    clear B146
    clear HB
    have B129 := n0_
    have B130 := n1_
    have B135 := n2_
    have B146 := n3_
    have HB := n4_
    clear n0_ n1_ n2_ n3_ n4_
    (try clear hb)
    (try clear hb2)
    (try clear hk)
    (try clear hi)
    refine hK.out _ _ ⟨bq_ B135 0, bq_ B135 1, bq_ B135 2, bq_ B129 0, bq_ B129 1, bq_ B129 2, bq_ B129 3⟩ (fun hL => ?_)
    clear hK K
    refine norm_ (a' := ?_) ?_ ?_
    rotate_left
    ·show Act.put _ (some 25) _ = _
     simp only [Act.put, sa_, sb_, sc_, i64_w, i32_w]
     rfl
    refine one_ (i := 10) (N := some 28) z14_16_ rfl rfl (on_ T_) (by decide) (fun K hK => ?_)
    refine goes_ Tryd.func37 (by kernel_rfl) rfl #[.agg #[.int .u64 t132, .int .u64 t133, .bool t134], .agg #[.int .u64 a2_0, .int .u64 a2_1, .int .u64 a2_2, .int .u64 a2_3]] (by rfl) rfl rfl (by (try simp only [List.map_toArray, List.map_cons, List.map_nil]); first | done | rfl) ?_
    with_reducible refine (sponge_mixer_reduced.calls t132 t133 t134 a2_0 a2_1 a2_2 a2_3 t137 t138 t139 t140 _ A8.out).mono ?_
    rintro e w21 ⟨rfl, hb⟩
    refine ⟨_, rfl, ?_⟩
    have n0_ := Aside0.mk (blk_below (g := g129) (o := .cells #[.int .u64 a2_0, .int .u64 a2_1, .int .u64 a2_2, .int .u64 a2_3] 23 (0, 0)) (by (with_reducible repeat first | refine blk_drewN ?_ _ | refine blk_drew ?_ | refine blk_alloc ?_ _); exact B129.out) hb)
    have n1_ := Aside0.mk (blk_below (g := g130) (o := .cells #[.int .u64 0, .int .u64 0, .int .u64 0, .int .u64 0] 23 (0, 0)) (by (with_reducible repeat first | refine blk_drewN ?_ _ | refine blk_drew ?_ | refine blk_alloc ?_ _); exact B130.out) hb)
    have n2_ := Aside0.mk (blk_below (g := g135) (o := .cells #[.int .u64 t132, .int .u64 t133, .bool t134] 45 (0, 0)) (by (with_reducible repeat first | refine blk_drewN ?_ _ | refine blk_drew ?_ | refine blk_alloc ?_ _); exact B135.out) hb)
    have n3_ := Aside0.mk (blk_below (g := g146) (o := .cells #[.int .u64 0, .int .u64 0, .int .u64 0, .int .u64 0] 23 (0, 0)) (by (with_reducible repeat first | refine blk_drewN ?_ _ | refine blk_drew ?_ | refine blk_alloc ?_ _); exact B146.out) hb)
    have n4_ := Aside0.mk (below_step (by repeat (first | (with_reducible first | exact HB.out | apply below_alloc | apply pw_below_drewN | apply below_drew1 | refine below_set ?_ GE129.out | refine below_set ?_ GE130.out | refine below_set ?_ GE135.out | refine below_set ?_ GE146.out) | exact HB.out)) hb)
    clear B129
    clear B130
    clear B135
    clear B146
    clear HB
    have B129 := n0_
    have B130 := n1_
    have B135 := n2_
    have B146 := n3_
    have HB := n4_
    clear n0_ n1_ n2_ n3_ n4_
    (try clear hb)
    (try clear hb2)
    (try clear hk)
    (try clear hi)
    refine hK.out _ _ ⟨bq_ B135 0, bq_ B135 1, bq_ B135 2, bq_ B129 0, bq_ B129 1, bq_ B129 2, bq_ B129 3⟩ (fun hL => ?_)
    clear hK K
    refine norm_ (a' := ?_) ?_ ?_
    rotate_left
    ·show Act.put _ (some 28) _ = _
     simp only [Act.put, sa_, sb_, sc_, i64_w, i32_w]
     rfl
    refine one_ (i := 11) (N := some 29) z14_20_ rfl rfl (on_ T_) (by decide) (fun K hK => ?_)
    refine goes_ Tryd.func36 (by kernel_rfl) rfl #[.agg #[.int .u64 t132, .int .u64 t133, .bool t134], .int .u64 t136, .agg #[.int .u64 t137, .int .u64 t138, .int .u64 t139, .int .u64 t140]] (by rfl) rfl rfl (by (try simp only [List.map_toArray, List.map_cons, List.map_nil]); first | done | rfl) ?_
    with_reducible refine (sponge_mixer_round.calls t132 t133 t134 t136 t137 t138 t139 t140 t141 t142 t143 t144 t145 _ A9.out).mono ?_
    rintro e w22 ⟨rfl, hb⟩
    refine ⟨_, rfl, ?_⟩
    have n0_ := Aside0.mk (blk_below (g := g129) (o := .cells #[.int .u64 a2_0, .int .u64 a2_1, .int .u64 a2_2, .int .u64 a2_3] 23 (0, 0)) (by (with_reducible repeat first | refine blk_drewN ?_ _ | refine blk_drew ?_ | refine blk_alloc ?_ _); exact B129.out) hb)
    have n1_ := Aside0.mk (blk_below (g := g130) (o := .cells #[.int .u64 0, .int .u64 0, .int .u64 0, .int .u64 0] 23 (0, 0)) (by (with_reducible repeat first | refine blk_drewN ?_ _ | refine blk_drew ?_ | refine blk_alloc ?_ _); exact B130.out) hb)
    have n2_ := Aside0.mk (blk_below (g := g135) (o := .cells #[.int .u64 t132, .int .u64 t133, .bool t134] 45 (0, 0)) (by (with_reducible repeat first | refine blk_drewN ?_ _ | refine blk_drew ?_ | refine blk_alloc ?_ _); exact B135.out) hb)
    have n3_ := Aside0.mk (blk_below (g := g146) (o := .cells #[.int .u64 0, .int .u64 0, .int .u64 0, .int .u64 0] 23 (0, 0)) (by (with_reducible repeat first | refine blk_drewN ?_ _ | refine blk_drew ?_ | refine blk_alloc ?_ _); exact B146.out) hb)
    have n4_ := Aside0.mk (below_step (by repeat (first | (with_reducible first | exact HB.out | apply below_alloc | apply pw_below_drewN | apply below_drew1 | refine below_set ?_ GE129.out | refine below_set ?_ GE130.out | refine below_set ?_ GE135.out | refine below_set ?_ GE146.out) | exact HB.out)) hb)
    clear B129
    clear B130
    clear B135
    clear B146
    clear HB
    have B129 := n0_
    have B130 := n1_
    have B135 := n2_
    have B146 := n3_
    have HB := n4_
    clear n0_ n1_ n2_ n3_ n4_
    (try clear hb)
    (try clear hb2)
    (try clear hk)
    (try clear hi)
    refine hK.out _ _ ⟨bq_ B135 0, bq_ B135 1, bq_ B135 2, bq_ B129 0, bq_ B129 1, bq_ B129 2, bq_ B129 3⟩ (fun hL => ?_)
    clear hK K
    refine norm_ (a' := ?_) ?_ ?_
    rotate_left
    ·show Act.put _ (some 29) _ = _
     simp only [Act.put, sa_, sb_, sc_, i64_w, i32_w]
     rfl
    refine pure_ (i := 12) (N := some 17) (v := ?_) (a' := ?_) z14_21_ rfl rfl (an_ T_) (fun _ _ _ h => h) (Or.inl ⟨by rfl, ?_⟩) ?_ ?_
    rotate_left; · intro w'; go_simp; with_reducible rfl
    rotate_left; · simp only [Act.put, sa_, sb_, sc_, i64_w, i32_w]; rfl
    refine pure_ (i := 13) (N := some 30) (v := ?_) (a' := ?_) z14_22_ rfl rfl (an_ T_) (fun _ _ _ h => h) (Or.inl ⟨by rfl, ?_⟩) ?_ ?_
    rotate_left; · intro w'; go_simp; with_reducible rfl
    rotate_left; · simp only [Act.put, sa_, sb_, sc_, i64_w, i32_w]; rfl
    refine pure_ (i := 14) (N := some 31) (v := ?_) (a' := ?_) z14_10_ rfl rfl (an_ T_) (fun _ _ _ h => h) (Or.inl ⟨by rfl, ?_⟩) ?_ ?_
    rotate_left; · intro w'; go_simp; with_reducible rfl
    rotate_left; · simp only [Act.put, sa_, sb_, sc_, i64_w, i32_w]; rfl
    exact norm_ (by simp only [putAll, Act.put, List.setIfInBounds_toArray, List.set_cons_zero, List.set_cons_succ]) (hCont (g146) _ ⟨hL, (by (with_reducible repeat first | refine blk_drewN ?_ _ | refine blk_drew ?_ | refine blk_alloc ?_ _); exact B129.out), (by (with_reducible repeat first | refine blk_drewN ?_ _ | refine blk_drew ?_ | refine blk_alloc ?_ _); exact B130.out), (by (with_reducible repeat first | refine blk_drewN ?_ _ | refine blk_drew ?_ | refine blk_alloc ?_ _); exact B135.out), (by (with_reducible repeat first | refine blk_drewN ?_ _ | refine blk_drew ?_ | refine blk_alloc ?_ _); exact B146.out), GW146.out, GE146.out, NB129_146.out, NB146_129.out, NB130_146.out, NB146_130.out, NB135_146.out, NB146_135.out, (by repeat (first | (with_reducible first | exact HB.out | apply below_alloc | apply pw_below_drewN | apply below_drew1 | refine below_set ?_ GE129.out | refine below_set ?_ GE130.out | refine below_set ?_ GE135.out | refine below_set ?_ GE146.out) | exact HB.out))⟩)
  rintro g146 w23 ⟨hS_, h0_, h1_, h2_, h3_, h4_, h5_, h6_, h7_, h8_, h9_, h10_, h11_, h12_⟩
  have n0_ : Aside0 (w23.heap[g129]? = some (.cells #[.int .u64 a2_0, .int .u64 a2_1, .int .u64 a2_2, .int .u64 a2_3] 23 (0, 0))) := ⟨h0_⟩
  have n1_ : Aside0 (w23.heap[g130]? = some (.cells #[.int .u64 0, .int .u64 0, .int .u64 0, .int .u64 0] 23 (0, 0))) := ⟨h1_⟩
  have n2_ : Aside0 (w23.heap[g135]? = some (.cells #[.int .u64 t132, .int .u64 t133, .bool t134] 45 (0, 0))) := ⟨h2_⟩
  have n3_ : Aside0 (w23.heap[g146]? = some (.cells #[.int .u64 0, .int .u64 0, .int .u64 0, .int .u64 0] 23 (0, 0))) := ⟨h3_⟩
  have n4_ : Aside0 (w.heap.size ≤ g146) := ⟨h4_⟩
  have n5_ : Aside0 (w.heap.size ≤ g146) := ⟨h5_⟩
  have n6_ : Aside0 (g129 ≠ g146) := ⟨h6_⟩
  have n7_ : Aside0 (g146 ≠ g129) := ⟨h7_⟩
  have n8_ : Aside0 (g130 ≠ g146) := ⟨h8_⟩
  have n9_ : Aside0 (g146 ≠ g130) := ⟨h9_⟩
  have n10_ : Aside0 (g135 ≠ g146) := ⟨h10_⟩
  have n11_ : Aside0 (g146 ≠ g135) := ⟨h11_⟩
  have n12_ : Aside0 (Below w.heap.size w w23) := ⟨h12_⟩
  clear B129
  clear B130
  clear B135
  clear HB
  clear h0_ h1_ h2_ h3_ h4_ h5_ h6_ h7_ h8_ h9_ h10_ h11_ h12_
  have B129 := n0_
  have B130 := n1_
  have B135 := n2_
  have B146 := n3_
  have GW146 := n4_
  have GE146 := n5_
  have NB129_146 := n6_
  have NB146_129 := n7_
  have NB130_146 := n8_
  have NB146_130 := n9_
  have NB135_146 := n10_
  have NB146_135 := n11_
  have HB := n12_
  clear n0_ n1_ n2_ n3_ n4_ n5_ n6_ n7_ n8_ n9_ n10_ n11_ n12_
  have hL : w23.cell? ⟨g135, 0, none⟩ = some (.int .u64 t132) ∧ w23.cell? ⟨g135, 1, none⟩ = some (.int .u64 t133) ∧ w23.cell? ⟨g135, 2, none⟩ = some (.bool t134) ∧ w23.cell? ⟨g129, 0, none⟩ = some (.int .u64 a2_0) ∧ w23.cell? ⟨g129, 1, none⟩ = some (.int .u64 a2_1) ∧ w23.cell? ⟨g129, 2, none⟩ = some (.int .u64 a2_2) ∧ w23.cell? ⟨g129, 3, none⟩ = some (.int .u64 a2_3) := hS_
  refine norm_ (a' := ?_) ?_ ?_
  rotate_left
  ·simp only [putAll, Act.put, List.setIfInBounds_toArray, List.set_cons_zero, List.set_cons_succ]
   rfl
  refine pure_ (i := 16) (N := some 8) (v := ?_) (a' := ?_) z14_23_ rfl rfl (an_ T_) (fun _ _ _ h => h) (Or.inl ⟨by rfl, ?_⟩) ?_ ?_
  rotate_left; · intro w'; go_simp; with_reducible rfl
  rotate_left; · simp only [Act.put, sa_, sb_, sc_, i64_w, i32_w]; rfl
  refine one_ (i := 17) (N := none) z14_24_ rfl rfl (on_ T_) (by decide) (fun K hK => ?_)
  have hs24 : w23.cell? ⟨g146, 0, none⟩ = some (.int .u64 0) := bq_ B146 0
  have hfs24 := blk_frozen B146.out 0
  have hns24_0 := NB129_146.out
  have hns24_1 := NB130_146.out
  have hns24_2 := NB135_146.out
  have hms24_0 := NB146_129.out
  have hms24_1 := NB146_130.out
  have hms24_2 := NB146_135.out
  have hs25 : w23.cell? ⟨g146, 1, none⟩ = some (.int .u64 0) := bq_ B146 1
  have hfs25 := blk_frozen B146.out 1
  have hns25_0 := NB129_146.out
  have hns25_1 := NB130_146.out
  have hns25_2 := NB135_146.out
  have hms25_0 := NB146_129.out
  have hms25_1 := NB146_130.out
  have hms25_2 := NB146_135.out
  have hs26 : w23.cell? ⟨g146, 2, none⟩ = some (.int .u64 0) := bq_ B146 2
  have hfs26 := blk_frozen B146.out 2
  have hns26_0 := NB129_146.out
  have hns26_1 := NB130_146.out
  have hns26_2 := NB135_146.out
  have hms26_0 := NB146_129.out
  have hms26_1 := NB146_130.out
  have hms26_2 := NB146_135.out
  have hs27 : w23.cell? ⟨g146, 3, none⟩ = some (.int .u64 0) := bq_ B146 3
  have hfs27 := blk_frozen B146.out 3
  have hns27_0 := NB129_146.out
  have hns27_1 := NB130_146.out
  have hns27_2 := NB135_146.out
  have hms27_0 := NB146_129.out
  have hms27_1 := NB146_130.out
  have hms27_2 := NB146_135.out
  refine skip_ (w1 := ?_) (by rfl) rfl ?_ ?_
  rotate_left
  ·go_simp
   rfl
  refine hK.out _ _ ⟨((cell_far (p := ⟨g146, _, none⟩) NB135_146.out _).trans (((cell_far (p := ⟨g146, _, none⟩) NB135_146.out _).trans (((cell_far (p := ⟨g146, _, none⟩) NB135_146.out _).trans (((cell_far (p := ⟨g146, _, none⟩) NB135_146.out _).trans (hL.1)))))))), ((cell_far (p := ⟨g146, _, none⟩) NB135_146.out _).trans (((cell_far (p := ⟨g146, _, none⟩) NB135_146.out _).trans (((cell_far (p := ⟨g146, _, none⟩) NB135_146.out _).trans (((cell_far (p := ⟨g146, _, none⟩) NB135_146.out _).trans (hL.2.1)))))))), ((cell_far (p := ⟨g146, _, none⟩) NB135_146.out _).trans (((cell_far (p := ⟨g146, _, none⟩) NB135_146.out _).trans (((cell_far (p := ⟨g146, _, none⟩) NB135_146.out _).trans (((cell_far (p := ⟨g146, _, none⟩) NB135_146.out _).trans (hL.2.2.1)))))))), ((cell_far (p := ⟨g146, _, none⟩) NB129_146.out _).trans (((cell_far (p := ⟨g146, _, none⟩) NB129_146.out _).trans (((cell_far (p := ⟨g146, _, none⟩) NB129_146.out _).trans (((cell_far (p := ⟨g146, _, none⟩) NB129_146.out _).trans (hL.2.2.2.1)))))))), ((cell_far (p := ⟨g146, _, none⟩) NB129_146.out _).trans (((cell_far (p := ⟨g146, _, none⟩) NB129_146.out _).trans (((cell_far (p := ⟨g146, _, none⟩) NB129_146.out _).trans (((cell_far (p := ⟨g146, _, none⟩) NB129_146.out _).trans (hL.2.2.2.2.1)))))))), ((cell_far (p := ⟨g146, _, none⟩) NB129_146.out _).trans (((cell_far (p := ⟨g146, _, none⟩) NB129_146.out _).trans (((cell_far (p := ⟨g146, _, none⟩) NB129_146.out _).trans (((cell_far (p := ⟨g146, _, none⟩) NB129_146.out _).trans (hL.2.2.2.2.2.1)))))))), ((cell_far (p := ⟨g146, _, none⟩) NB129_146.out _).trans (((cell_far (p := ⟨g146, _, none⟩) NB129_146.out _).trans (((cell_far (p := ⟨g146, _, none⟩) NB129_146.out _).trans (((cell_far (p := ⟨g146, _, none⟩) NB129_146.out _).trans (hL.2.2.2.2.2.2))))))))⟩ (fun hL => ?_)
  clear hK K
  refine done_ (done_of T_.out (by kernel_rfl)) ?_
  have hnb28 := NB146_129.out
  have hnc28 := NB129_146.out
  have hnb29 := NB146_130.out
  have hnc29 := NB130_146.out
  have hnb30 := NB146_135.out
  have hnc30 := NB135_146.out
  have hcz31_0 : w23.cell? ⟨g146, 0, none⟩ = some (.int .u64 0) := bq_ B146 0
  have hcz31_1 : w23.cell? ⟨g146, 1, none⟩ = some (.int .u64 0) := bq_ B146 1
  have hcz31_2 : w23.cell? ⟨g146, 2, none⟩ = some (.int .u64 0) := bq_ B146 2
  have hcz31_3 : w23.cell? ⟨g146, 3, none⟩ = some (.int .u64 0) := bq_ B146 3
  have hfz31_0 := blk_frozen B146.out 0
  have hfz31_1 := blk_frozen B146.out 1
  have hfz31_2 := blk_frozen B146.out 2
  have hfz31_3 := blk_frozen B146.out 3
  have hnb32 := NB130_129.out
  have hnc32 := NB129_130.out
  have hcz33_0 : w23.cell? ⟨g130, 0, none⟩ = some (.int .u64 0) := bq_ B130 0
  have hcz33_1 : w23.cell? ⟨g130, 1, none⟩ = some (.int .u64 0) := bq_ B130 1
  have hcz33_2 : w23.cell? ⟨g130, 2, none⟩ = some (.int .u64 0) := bq_ B130 2
  have hcz33_3 : w23.cell? ⟨g130, 3, none⟩ = some (.int .u64 0) := bq_ B130 3
  have hfz33_0 := blk_frozen B130.out 0
  have hfz33_1 := blk_frozen B130.out 1
  have hfz33_2 := blk_frozen B130.out 2
  have hfz33_3 := blk_frozen B130.out 3
  try go_wp2
  refine bodyPost_ret (results_cell_row rfl _ _ g130 23 #[.int .u64 t142, .int .u64 t143, .int .u64 t144, .int .u64 t145] (0, 0) _ rfl (by (with_reducible repeat first | refine blk_drewN ?_ _ | refine blk_drew ?_ | refine blk_alloc ?_ _); refine blk_put (cs := #[.int .u64 t142, .int .u64 t143, .int .u64 t144, .int .u64 0]) ?_ 3 _ rfl; (with_reducible repeat first | refine blk_drewN ?_ _ | refine blk_drew ?_ | refine blk_alloc ?_ _); refine blk_put (cs := #[.int .u64 t142, .int .u64 t143, .int .u64 0, .int .u64 0]) ?_ 2 _ rfl; (with_reducible repeat first | refine blk_drewN ?_ _ | refine blk_drew ?_ | refine blk_alloc ?_ _); refine blk_put (cs := #[.int .u64 t142, .int .u64 0, .int .u64 0, .int .u64 0]) ?_ 1 _ rfl; (with_reducible repeat first | refine blk_drewN ?_ _ | refine blk_drew ?_ | refine blk_alloc ?_ _); refine blk_put (cs := #[.int .u64 0, .int .u64 0, .int .u64 0, .int .u64 0]) ?_ 0 _ rfl; (with_reducible repeat first | refine blk_drewN ?_ _ | refine blk_drew ?_ | refine blk_alloc ?_ _); refine blk_far ?_ NB130_146.out _; (with_reducible repeat first | refine blk_drewN ?_ _ | refine blk_drew ?_ | refine blk_alloc ?_ _); refine blk_far ?_ NB130_146.out _; (with_reducible repeat first | refine blk_drewN ?_ _ | refine blk_drew ?_ | refine blk_alloc ?_ _); refine blk_far ?_ NB130_146.out _; (with_reducible repeat first | refine blk_drewN ?_ _ | refine blk_drew ?_ | refine blk_alloc ?_ _); refine blk_far ?_ NB130_146.out _; (with_reducible repeat first | refine blk_drewN ?_ _ | refine blk_drew ?_ | refine blk_alloc ?_ _); exact B130.out) Tryd.underlying23 rfl (by kernel_rfl)) rfl ?_
  exact ⟨by first | rfl | (simp [errW_none, errW_some] <;> rfl) | (simp [*, errW_none, errW_some] <;> rfl), by repeat (first | (with_reducible first | exact HB.out | apply below_alloc | apply pw_below_drewN | apply below_drew1 | refine below_set ?_ GE129.out | refine below_set ?_ GE130.out | refine below_set ?_ GE135.out | refine below_set ?_ GE146.out) | exact HB.out)⟩
 ·replace c5 := Bool.eq_false_iff.mpr c5
  subst c5
  have H1 : (some (0, 0, 0, 0)) = some (r1, r2, r3, r4) := by rw [if_neg (show ¬ (false = true) by decide)] at H; exact H
  clear H
  have H := H1
  clear H1
  simp only [Option.some.injEq, Prod.mk.injEq] at H
  obtain ⟨rfl, rfl, rfl, rfl⟩ := H
  go_enter Tryd.func14, Tryd.ntmps14
  go_wp2_with (first | ((with_reducible refine gate_dst (N := 5) rfl ?_); refine box_event ?hg (N := 5) ?hd (cs := #[.int .u64 a2_0, .int .u64 a2_1, .int .u64 a2_2, .int .u64 a2_3]) (t := 23) ?hr ?_; (case hd => rfl); (case hg => rfl); (case hr => first | (go_simp; done) | (go_simp; rfl)); intro g129 hg w34 hbox hb; have n0_ := Aside0.mk (below_step (by repeat (first | (with_reducible first | exact HB.out | apply below_alloc | apply pw_below_drewN | apply below_drew1) | exact HB.out)) hb); have n1_ := Aside0.mk (hbox); have n2_ := Aside0.mk ((by rw [hg]; exact (below_size (by repeat (first | (with_reducible first | exact HB.out | apply below_alloc | apply pw_below_drewN | apply below_drew1) | exact HB.out))) : w.heap.size ≤ g129)); have n3_ := Aside0.mk ((by rw [hg]; exact (below_size (by repeat (first | (with_reducible first | exact HB.out | apply below_alloc | apply pw_below_drewN | apply below_drew1) | exact HB.out))) : w.heap.size ≤ g129)); clear HB; have HB := n0_; have B129 := n1_; have GW129 := n2_; have GE129 := n3_; clear n0_ n1_ n2_ n3_; clear hb hbox hg) | ((with_reducible refine gate_dst (N := 6) rfl ?_); refine box_event ?hg (N := 6) ?hd (cs := #[.int .u64 0, .int .u64 0, .int .u64 0, .int .u64 0]) (t := 23) ?hr ?_; (case hd => rfl); (case hg => rfl); (case hr => first | (go_simp; done) | (go_simp; rfl)); intro g130 hg w35 hbox hb; have n0_ := Aside0.mk (blk_below (g := g129) (o := .cells #[.int .u64 a2_0, .int .u64 a2_1, .int .u64 a2_2, .int .u64 a2_3] 23 (0, 0)) (by (with_reducible repeat first | refine blk_drewN ?_ _ | refine blk_drew ?_ | refine blk_alloc ?_ _); exact B129.out) hb); have n1_ := Aside0.mk (below_step (by repeat (first | (with_reducible first | exact HB.out | apply below_alloc | apply pw_below_drewN | apply below_drew1 | refine below_set ?_ GE129.out) | exact HB.out)) hb); have n2_ := Aside0.mk (hbox); have n3_ := Aside0.mk ((by rw [hg]; exact (below_size (by repeat (first | (with_reducible first | exact HB.out | apply below_alloc | apply pw_below_drewN | apply below_drew1 | refine below_set ?_ GE129.out) | exact HB.out))) : w.heap.size ≤ g130)); have n4_ := Aside0.mk ((by rw [hg]; exact (below_size (by repeat (first | (with_reducible first | exact HB.out | apply below_alloc | apply pw_below_drewN | apply below_drew1 | refine below_set ?_ GE129.out) | exact HB.out))) : w.heap.size ≤ g130)); have n5_ := Aside0.mk ((by rw [hg]; exact Nat.ne_of_lt (blk_lt (g := g129) (o := .cells #[.int .u64 a2_0, .int .u64 a2_1, .int .u64 a2_2, .int .u64 a2_3] 23 (0, 0)) (by (with_reducible repeat first | refine blk_drewN ?_ _ | refine blk_drew ?_ | refine blk_alloc ?_ _); exact B129.out)) : g129 ≠ g130)); have n6_ := Aside0.mk ((by rw [hg]; exact Nat.ne_of_gt (blk_lt (g := g129) (o := .cells #[.int .u64 a2_0, .int .u64 a2_1, .int .u64 a2_2, .int .u64 a2_3] 23 (0, 0)) (by (with_reducible repeat first | refine blk_drewN ?_ _ | refine blk_drew ?_ | refine blk_alloc ?_ _); exact B129.out)) : g130 ≠ g129)); clear B129; clear HB; have B129 := n0_; have HB := n1_; have B130 := n2_; have GW130 := n3_; have GE130 := n4_; have NB129_130 := n5_; have NB130_129 := n6_; clear n0_ n1_ n2_ n3_ n4_ n5_ n6_; clear hb hbox hg) | ((with_reducible refine gate_callee (f := 28) rfl ?_); refine goesL_ (some 12) rfl rfl Tryd.func28 (by kernel_rfl) rfl #[.int .i64 a0, .int .i64 a1] rfl (by (try simp only [List.map_toArray, List.map_cons, List.map_nil]); first | done | rfl) ?_; (with_reducible refine (sponge_known.calls a0 a1 false _ A4.out).mono ?_); rintro e w' ⟨rfl, ⟨nd, rfl⟩⟩; refine ⟨_, rfl, ?_⟩; (try (rw [drewN_self w35]; generalize q_ : World.drewN w35 _ = w35; have n0_ : Aside0 (w35.heap[g129]? = some (.cells #[.int .u64 a2_0, .int .u64 a2_1, .int .u64 a2_2, .int .u64 a2_3] 23 (0, 0))) := ⟨by rw [← q_]; exact (by (with_reducible repeat first | refine blk_drewN ?_ _ | refine blk_drew ?_ | refine blk_alloc ?_ _); exact B129.out)⟩; have n1_ : Aside0 (w35.heap[g130]? = some (.cells #[.int .u64 0, .int .u64 0, .int .u64 0, .int .u64 0] 23 (0, 0))) := ⟨by rw [← q_]; exact (by (with_reducible repeat first | refine blk_drewN ?_ _ | refine blk_drew ?_ | refine blk_alloc ?_ _); exact B130.out)⟩; have n2_ : Aside0 (Below w.heap.size w w35) := ⟨by rw [← q_]; exact (by repeat (first | (with_reducible first | exact HB.out | apply below_alloc | apply pw_below_drewN | apply below_drew1 | refine below_set ?_ GE129.out | refine below_set ?_ GE130.out) | exact HB.out))⟩; clear B129 B130 HB q_; have B129 := n0_; have B130 := n1_; have HB := n2_; clear n0_ n1_ n2_)); have hnb36 := NB130_129.out; have hnc36 := NB129_130.out; have hcz37_0 : w35.cell? ⟨g130, 0, none⟩ = some (.int .u64 0) := bq_ B130 0; have hcz37_1 : w35.cell? ⟨g130, 1, none⟩ = some (.int .u64 0) := bq_ B130 1; have hcz37_2 : w35.cell? ⟨g130, 2, none⟩ = some (.int .u64 0) := bq_ B130 2; have hcz37_3 : w35.cell? ⟨g130, 3, none⟩ = some (.int .u64 0) := bq_ B130 3; have hfz37_0 := blk_frozen B130.out 0; have hfz37_1 := blk_frozen B130.out 1; have hfz37_2 := blk_frozen B130.out 2; have hfz37_3 := blk_frozen B130.out 3))
  refine bodyPost_ret (results_cell_row rfl _ _ g130 23 #[.int .u64 0, .int .u64 0, .int .u64 0, .int .u64 0] (0, 0) _ rfl (by (with_reducible repeat first | refine blk_drewN ?_ _ | refine blk_drew ?_ | refine blk_alloc ?_ _); refine blk_put (cs := #[.int .u64 0, .int .u64 0, .int .u64 0, .int .u64 0]) ?_ 3 _ rfl; (with_reducible repeat first | refine blk_drewN ?_ _ | refine blk_drew ?_ | refine blk_alloc ?_ _); refine blk_put (cs := #[.int .u64 0, .int .u64 0, .int .u64 0, .int .u64 0]) ?_ 2 _ rfl; (with_reducible repeat first | refine blk_drewN ?_ _ | refine blk_drew ?_ | refine blk_alloc ?_ _); refine blk_put (cs := #[.int .u64 0, .int .u64 0, .int .u64 0, .int .u64 0]) ?_ 1 _ rfl; (with_reducible repeat first | refine blk_drewN ?_ _ | refine blk_drew ?_ | refine blk_alloc ?_ _); refine blk_put (cs := #[.int .u64 0, .int .u64 0, .int .u64 0, .int .u64 0]) ?_ 0 _ rfl; (with_reducible repeat first | refine blk_drewN ?_ _ | refine blk_drew ?_ | refine blk_alloc ?_ _); exact B130.out) Tryd.underlying23 rfl (by kernel_rfl)) rfl ?_
  exact ⟨by first | rfl | (simp [errW_none, errW_some] <;> rfl) | (simp [*, errW_none, errW_some] <;> rfl), by repeat (first | (with_reducible first | exact HB.out | apply below_alloc | apply pw_below_drewN | apply below_drew1 | refine below_set ?_ GE129.out | refine below_set ?_ GE130.out) | exact HB.out)⟩

end Go.Proofs.YtjfekjblnoagkaaDoor.Q
end
section
namespace Go.Proofs.YtjfekjblnoagkaaDoor.Q
open Go.RowKit Go.Proofs.YtjfekjblnoagkaaDoorW.PrintWords Go.Proofs.YtjfekjblnoagkaaDoorW.PrintLast Go.Proofs.YtjfekjblnoagkaaDoorW.PrintMore
attribute [local go_sem] max2_int min2_int max_two min_two max_three min_three max_four min_four   -- for this text's walks alone
set_option linter.unusedVariables false
set_option linter.unusedSimpArgs false

/-! ### sponge_mixer_perm: function 42 -/
def sponge_mixer_perm.f (a0_0 : Int) (a0_1 : Int) (a0_2 : Bool) (a1_0 : Int) (a1_1 : Int) (a1_2 : Int) (a1_3 : Int) : Option (Int × Int × Int × Int) := (sponge_mixer_round.f a0_0 a0_1 a0_2 1 a1_0 a1_1 a1_2 a1_3).bind fun bt150 => ((sponge_mixer_round.f a0_0 a0_1 a0_2 bt150.1 bt150.2.1 bt150.2.2.1 bt150.2.2.2.1 bt150.2.2.2.2).bind fun bt155 => ((sponge_mixer_round.f a0_0 a0_1 a0_2 bt155.1 bt155.2.1 bt155.2.2.1 bt155.2.2.2.1 bt155.2.2.2.2).bind fun bt160 => ((sponge_mixer_round.f a0_0 a0_1 a0_2 bt160.1 bt160.2.1 bt160.2.2.1 bt160.2.2.2.1 bt160.2.2.2.2).bind fun bt165 => ((sponge_mixer_round.f a0_0 a0_1 a0_2 bt165.1 bt165.2.1 bt165.2.2.1 bt165.2.2.2.1 bt165.2.2.2.2).bind fun bt170 => ((sponge_mixer_round.f a0_0 a0_1 a0_2 bt170.1 bt170.2.1 bt170.2.2.1 bt170.2.2.2.1 bt170.2.2.2.2).bind fun bt175 => ((sponge_mixer_round.f a0_0 a0_1 a0_2 bt175.1 bt175.2.1 bt175.2.2.1 bt175.2.2.2.1 bt175.2.2.2.2).bind fun bt180 => ((sponge_mixer_round.f a0_0 a0_1 a0_2 bt180.1 bt180.2.1 bt180.2.2.1 bt180.2.2.2.1 bt180.2.2.2.2).bind fun bt185 => (some (bt185.2.1, bt185.2.2.1, bt185.2.2.2.1, bt185.2.2.2.2)))))))))
set_option maxHeartbeats 8000000 in
set_option maxRecDepth 100000 in
theorem sponge_mixer_perm.calls (a0_0 : Int) (a0_1 : Int) (a0_2 : Bool) (a1_0 : Int) (a1_1 : Int) (a1_2 : Int) (a1_3 : Int) (r1 : Int) (r2 : Int) (r3 : Int) (r4 : Int) (w : World) (h : sponge_mixer_perm.f a0_0 a0_1 a0_2 a1_0 a1_1 a1_2 a1_3 = some (r1, r2, r3, r4)) :
  Calls Tryd.prog 42 #[.agg #[.int .u64 a0_0, .int .u64 a0_1, .bool a0_2], .agg #[.int .u64 a1_0, .int .u64 a1_1, .int .u64 a1_2, .int .u64 a1_3]] w fun e w' => e = .returned (.agg #[.int .u64 r1, .int .u64 r2, .int .u64 r3, .int .u64 r4]) ∧ Below w.heap.size w w' := by
 have hu45 := Tryd.underlying45
 have hu23 := Tryd.underlying23
 have HB := Aside0.mk (Below.refl w.heap.size w)
 have H : ((sponge_mixer_round.f a0_0 a0_1 a0_2 1 a1_0 a1_1 a1_2 a1_3).bind fun bt150 => ((sponge_mixer_round.f a0_0 a0_1 a0_2 bt150.1 bt150.2.1 bt150.2.2.1 bt150.2.2.2.1 bt150.2.2.2.2).bind fun bt155 => ((sponge_mixer_round.f a0_0 a0_1 a0_2 bt155.1 bt155.2.1 bt155.2.2.1 bt155.2.2.2.1 bt155.2.2.2.2).bind fun bt160 => ((sponge_mixer_round.f a0_0 a0_1 a0_2 bt160.1 bt160.2.1 bt160.2.2.1 bt160.2.2.2.1 bt160.2.2.2.2).bind fun bt165 => ((sponge_mixer_round.f a0_0 a0_1 a0_2 bt165.1 bt165.2.1 bt165.2.2.1 bt165.2.2.2.1 bt165.2.2.2.2).bind fun bt170 => ((sponge_mixer_round.f a0_0 a0_1 a0_2 bt170.1 bt170.2.1 bt170.2.2.1 bt170.2.2.2.1 bt170.2.2.2.2).bind fun bt175 => ((sponge_mixer_round.f a0_0 a0_1 a0_2 bt175.1 bt175.2.1 bt175.2.2.1 bt175.2.2.2.1 bt175.2.2.2.2).bind fun bt180 => ((sponge_mixer_round.f a0_0 a0_1 a0_2 bt180.1 bt180.2.1 bt180.2.2.1 bt180.2.2.2.1 bt180.2.2.2.2).bind fun bt185 => (some (bt185.2.1, bt185.2.2.1, bt185.2.2.2.1, bt185.2.2.2.2)))))))))) = some (r1, r2, r3, r4) := h
 clear h
 have HC3 := Aside0.mk H
 clear H
 go_enter Tryd.func42, Tryd.ntmps42
 go_wp2_with (first | ((with_reducible refine gate_dst (N := 2) rfl ?_); refine box_event ?hg (N := 2) ?hd (cs := #[.int .u64 a0_0, .int .u64 a0_1, .bool a0_2]) (t := 45) ?hr ?_; (case hd => rfl); (case hg => rfl); (case hr => first | (go_simp; done) | (go_simp; rfl)); intro g147 hg w4 hbox hb; have n0_ := Aside0.mk (below_step (by repeat (first | (with_reducible first | exact HB.out | apply below_alloc | apply pw_below_drewN | apply below_drew1) | exact HB.out)) hb); have n1_ := Aside0.mk (hbox); have n2_ := Aside0.mk ((by rw [hg]; exact (below_size (by repeat (first | (with_reducible first | exact HB.out | apply below_alloc | apply pw_below_drewN | apply below_drew1) | exact HB.out))) : w.heap.size ≤ g147)); have n3_ := Aside0.mk ((by rw [hg]; exact (below_size (by repeat (first | (with_reducible first | exact HB.out | apply below_alloc | apply pw_below_drewN | apply below_drew1) | exact HB.out))) : w.heap.size ≤ g147)); clear HB; have HB := n0_; have B147 := n1_; have GW147 := n2_; have GE147 := n3_; clear n0_ n1_ n2_ n3_; clear hb hbox hg) | ((with_reducible refine gate_dst (N := 3) rfl ?_); refine box_event ?hg (N := 3) ?hd (cs := #[.int .u64 a1_0, .int .u64 a1_1, .int .u64 a1_2, .int .u64 a1_3]) (t := 23) ?hr ?_; (case hd => rfl); (case hg => rfl); (case hr => first | (go_simp; done) | (go_simp; rfl)); intro g148 hg w5 hbox hb; have n0_ := Aside0.mk (blk_below (g := g147) (o := .cells #[.int .u64 a0_0, .int .u64 a0_1, .bool a0_2] 45 (0, 0)) (by (with_reducible repeat first | refine blk_drewN ?_ _ | refine blk_drew ?_ | refine blk_alloc ?_ _); exact B147.out) hb); have n1_ := Aside0.mk (below_step (by repeat (first | (with_reducible first | exact HB.out | apply below_alloc | apply pw_below_drewN | apply below_drew1 | refine below_set ?_ GE147.out) | exact HB.out)) hb); have n2_ := Aside0.mk (hbox); have n3_ := Aside0.mk ((by rw [hg]; exact (below_size (by repeat (first | (with_reducible first | exact HB.out | apply below_alloc | apply pw_below_drewN | apply below_drew1 | refine below_set ?_ GE147.out) | exact HB.out))) : w.heap.size ≤ g148)); have n4_ := Aside0.mk ((by rw [hg]; exact (below_size (by repeat (first | (with_reducible first | exact HB.out | apply below_alloc | apply pw_below_drewN | apply below_drew1 | refine below_set ?_ GE147.out) | exact HB.out))) : w.heap.size ≤ g148)); have n5_ := Aside0.mk ((by rw [hg]; exact Nat.ne_of_lt (blk_lt (g := g147) (o := .cells #[.int .u64 a0_0, .int .u64 a0_1, .bool a0_2] 45 (0, 0)) (by (with_reducible repeat first | refine blk_drewN ?_ _ | refine blk_drew ?_ | refine blk_alloc ?_ _); exact B147.out)) : g147 ≠ g148)); have n6_ := Aside0.mk ((by rw [hg]; exact Nat.ne_of_gt (blk_lt (g := g147) (o := .cells #[.int .u64 a0_0, .int .u64 a0_1, .bool a0_2] 45 (0, 0)) (by (with_reducible repeat first | refine blk_drewN ?_ _ | refine blk_drew ?_ | refine blk_alloc ?_ _); exact B147.out)) : g148 ≠ g147)); clear B147; clear HB; have B147 := n0_; have HB := n1_; have B148 := n2_; have GW148 := n3_; have GE148 := n4_; have NB147_148 := n5_; have NB148_147 := n6_; clear n0_ n1_ n2_ n3_ n4_ n5_ n6_; clear hb hbox hg) | ((with_reducible refine gate_dst (N := 4) rfl ?_); refine box_event ?hg (N := 4) ?hd (cs := #[.int .u64 0, .int .u64 0, .int .u64 0, .int .u64 0]) (t := 23) ?hr ?_; (case hd => rfl); (case hg => rfl); (case hr => first | (go_simp; done) | (go_simp; rfl)); intro g149 hg w6 hbox hb; have n0_ := Aside0.mk (blk_below (g := g147) (o := .cells #[.int .u64 a0_0, .int .u64 a0_1, .bool a0_2] 45 (0, 0)) (by (with_reducible repeat first | refine blk_drewN ?_ _ | refine blk_drew ?_ | refine blk_alloc ?_ _); exact B147.out) hb); have n1_ := Aside0.mk (blk_below (g := g148) (o := .cells #[.int .u64 a1_0, .int .u64 a1_1, .int .u64 a1_2, .int .u64 a1_3] 23 (0, 0)) (by (with_reducible repeat first | refine blk_drewN ?_ _ | refine blk_drew ?_ | refine blk_alloc ?_ _); exact B148.out) hb); have n2_ := Aside0.mk (below_step (by repeat (first | (with_reducible first | exact HB.out | apply below_alloc | apply pw_below_drewN | apply below_drew1 | refine below_set ?_ GE147.out | refine below_set ?_ GE148.out) | exact HB.out)) hb); have n3_ := Aside0.mk (hbox); have n4_ := Aside0.mk ((by rw [hg]; exact (below_size (by repeat (first | (with_reducible first | exact HB.out | apply below_alloc | apply pw_below_drewN | apply below_drew1 | refine below_set ?_ GE147.out | refine below_set ?_ GE148.out) | exact HB.out))) : w.heap.size ≤ g149)); have n5_ := Aside0.mk ((by rw [hg]; exact (below_size (by repeat (first | (with_reducible first | exact HB.out | apply below_alloc | apply pw_below_drewN | apply below_drew1 | refine below_set ?_ GE147.out | refine below_set ?_ GE148.out) | exact HB.out))) : w.heap.size ≤ g149)); have n6_ := Aside0.mk ((by rw [hg]; exact Nat.ne_of_lt (blk_lt (g := g147) (o := .cells #[.int .u64 a0_0, .int .u64 a0_1, .bool a0_2] 45 (0, 0)) (by (with_reducible repeat first | refine blk_drewN ?_ _ | refine blk_drew ?_ | refine blk_alloc ?_ _); exact B147.out)) : g147 ≠ g149)); have n7_ := Aside0.mk ((by rw [hg]; exact Nat.ne_of_gt (blk_lt (g := g147) (o := .cells #[.int .u64 a0_0, .int .u64 a0_1, .bool a0_2] 45 (0, 0)) (by (with_reducible repeat first | refine blk_drewN ?_ _ | refine blk_drew ?_ | refine blk_alloc ?_ _); exact B147.out)) : g149 ≠ g147)); have n8_ := Aside0.mk ((by rw [hg]; exact Nat.ne_of_lt (blk_lt (g := g148) (o := .cells #[.int .u64 a1_0, .int .u64 a1_1, .int .u64 a1_2, .int .u64 a1_3] 23 (0, 0)) (by (with_reducible repeat first | refine blk_drewN ?_ _ | refine blk_drew ?_ | refine blk_alloc ?_ _); exact B148.out)) : g148 ≠ g149)); have n9_ := Aside0.mk ((by rw [hg]; exact Nat.ne_of_gt (blk_lt (g := g148) (o := .cells #[.int .u64 a1_0, .int .u64 a1_1, .int .u64 a1_2, .int .u64 a1_3] 23 (0, 0)) (by (with_reducible repeat first | refine blk_drewN ?_ _ | refine blk_drew ?_ | refine blk_alloc ?_ _); exact B148.out)) : g149 ≠ g148)); clear B147; clear B148; clear HB; have B147 := n0_; have B148 := n1_; have HB := n2_; have B149 := n3_; have GW149 := n4_; have GE149 := n5_; have NB147_149 := n6_; have NB149_147 := n7_; have NB148_149 := n8_; have NB149_148 := n9_; clear n0_ n1_ n2_ n3_ n4_ n5_ n6_ n7_ n8_ n9_; clear hb hbox hg))
 refine wp_loop_rounds 9 ?_
 rw [rounds_succ]
 have H := HC3.out
 clear HC3
 replace H := Option.bind_eq_some_iff.mp H
 obtain ⟨⟨t150, t151, t152, t153, t154⟩, A70, H⟩ := H
 replace H : ((sponge_mixer_round.f a0_0 a0_1 a0_2 t150 t151 t152 t153 t154).bind fun bt155 => ((sponge_mixer_round.f a0_0 a0_1 a0_2 bt155.1 bt155.2.1 bt155.2.2.1 bt155.2.2.2.1 bt155.2.2.2.2).bind fun bt160 => ((sponge_mixer_round.f a0_0 a0_1 a0_2 bt160.1 bt160.2.1 bt160.2.2.1 bt160.2.2.2.1 bt160.2.2.2.2).bind fun bt165 => ((sponge_mixer_round.f a0_0 a0_1 a0_2 bt165.1 bt165.2.1 bt165.2.2.1 bt165.2.2.2.1 bt165.2.2.2.2).bind fun bt170 => ((sponge_mixer_round.f a0_0 a0_1 a0_2 bt170.1 bt170.2.1 bt170.2.2.1 bt170.2.2.2.1 bt170.2.2.2.2).bind fun bt175 => ((sponge_mixer_round.f a0_0 a0_1 a0_2 bt175.1 bt175.2.1 bt175.2.2.1 bt175.2.2.2.1 bt175.2.2.2.2).bind fun bt180 => ((sponge_mixer_round.f a0_0 a0_1 a0_2 bt180.1 bt180.2.1 bt180.2.2.1 bt180.2.2.2.1 bt180.2.2.2.2).bind fun bt185 => (some (bt185.2.1, bt185.2.2.1, bt185.2.2.2.1, bt185.2.2.2.2))))))))) = some (r1, r2, r3, r4) := H
 have A7 := Aside0.mk A70
 clear A70
 have HC8 := Aside0.mk H
 clear H
 have hnb9 := NB147_148.out
 have hnc9 := NB148_147.out
 have hnb10 := NB147_149.out
 have hnc10 := NB149_147.out
 have hcz11_0 : w6.cell? ⟨g147, 0, none⟩ = some (.int .u64 a0_0) := bq_ B147 0
 have hcz11_1 : w6.cell? ⟨g147, 1, none⟩ = some (.int .u64 a0_1) := bq_ B147 1
 have hcz11_2 : w6.cell? ⟨g147, 2, none⟩ = some (.bool a0_2) := bq_ B147 2
 have hfz11_0 := blk_frozen B147.out 0
 have hfz11_1 := blk_frozen B147.out 1
 have hfz11_2 := blk_frozen B147.out 2
 have hnb12 := NB148_149.out
 have hnc12 := NB149_148.out
 have hcz13_0 : w6.cell? ⟨g148, 0, none⟩ = some (.int .u64 a1_0) := bq_ B148 0
 have hcz13_1 : w6.cell? ⟨g148, 1, none⟩ = some (.int .u64 a1_1) := bq_ B148 1
 have hcz13_2 : w6.cell? ⟨g148, 2, none⟩ = some (.int .u64 a1_2) := bq_ B148 2
 have hcz13_3 : w6.cell? ⟨g148, 3, none⟩ = some (.int .u64 a1_3) := bq_ B148 3
 have hfz13_0 := blk_frozen B148.out 0
 have hfz13_1 := blk_frozen B148.out 1
 have hfz13_2 := blk_frozen B148.out 2
 have hfz13_3 := blk_frozen B148.out 3
 go_wp2_with (first | ((with_reducible refine gate_callee (f := 36) rfl ?_); refine goesL_ (some 12) rfl rfl Tryd.func36 (by kernel_rfl) rfl #[.agg #[.int .u64 a0_0, .int .u64 a0_1, .bool a0_2], .int .u64 1, .agg #[.int .u64 a1_0, .int .u64 a1_1, .int .u64 a1_2, .int .u64 a1_3]] rfl (by (try simp only [List.map_toArray, List.map_cons, List.map_nil]); first | done | rfl) ?_; (with_reducible refine (sponge_mixer_round.calls a0_0 a0_1 a0_2 1 a1_0 a1_1 a1_2 a1_3 t150 t151 t152 t153 t154 _ A7.out).mono ?_); rintro e w14 ⟨rfl, hb⟩; refine ⟨_, rfl, ?_⟩; have n0_ := Aside0.mk (blk_below (g := g147) (o := .cells #[.int .u64 a0_0, .int .u64 a0_1, .bool a0_2] 45 (0, 0)) (by (with_reducible repeat first | refine blk_drewN ?_ _ | refine blk_drew ?_ | refine blk_alloc ?_ _); exact B147.out) hb); have n1_ := Aside0.mk (blk_below (g := g148) (o := .cells #[.int .u64 a1_0, .int .u64 a1_1, .int .u64 a1_2, .int .u64 a1_3] 23 (0, 0)) (by (with_reducible repeat first | refine blk_drewN ?_ _ | refine blk_drew ?_ | refine blk_alloc ?_ _); exact B148.out) hb); have n2_ := Aside0.mk (blk_below (g := g149) (o := .cells #[.int .u64 0, .int .u64 0, .int .u64 0, .int .u64 0] 23 (0, 0)) (by (with_reducible repeat first | refine blk_drewN ?_ _ | refine blk_drew ?_ | refine blk_alloc ?_ _); exact B149.out) hb); have n3_ := Aside0.mk (below_step (by repeat (first | (with_reducible first | exact HB.out | apply below_alloc | apply pw_below_drewN | apply below_drew1 | refine below_set ?_ GE147.out | refine below_set ?_ GE148.out | refine below_set ?_ GE149.out) | exact HB.out)) hb); clear B147; clear B148; clear B149; clear HB; have B147 := n0_; have B148 := n1_; have B149 := n2_; have HB := n3_; clear n0_ n1_ n2_ n3_; (try clear hb); (try clear hb2); (try clear hk); (try clear hi); have hcz15_0 : w14.cell? ⟨g148, 0, none⟩ = some (.int .u64 a1_0) := bq_ B148 0; have hcz15_1 : w14.cell? ⟨g148, 1, none⟩ = some (.int .u64 a1_1) := bq_ B148 1; have hcz15_2 : w14.cell? ⟨g148, 2, none⟩ = some (.int .u64 a1_2) := bq_ B148 2; have hcz15_3 : w14.cell? ⟨g148, 3, none⟩ = some (.int .u64 a1_3) := bq_ B148 3; have hfz15_0 := blk_frozen B148.out 0; have hfz15_1 := blk_frozen B148.out 1; have hfz15_2 := blk_frozen B148.out 2; have hfz15_3 := blk_frozen B148.out 3))
 rw [rounds_succ]
 have H := HC8.out
 clear HC8
 replace H := Option.bind_eq_some_iff.mp H
 obtain ⟨⟨t155, t156, t157, t158, t159⟩, A160, H⟩ := H
 replace H : ((sponge_mixer_round.f a0_0 a0_1 a0_2 t155 t156 t157 t158 t159).bind fun bt160 => ((sponge_mixer_round.f a0_0 a0_1 a0_2 bt160.1 bt160.2.1 bt160.2.2.1 bt160.2.2.2.1 bt160.2.2.2.2).bind fun bt165 => ((sponge_mixer_round.f a0_0 a0_1 a0_2 bt165.1 bt165.2.1 bt165.2.2.1 bt165.2.2.2.1 bt165.2.2.2.2).bind fun bt170 => ((sponge_mixer_round.f a0_0 a0_1 a0_2 bt170.1 bt170.2.1 bt170.2.2.1 bt170.2.2.2.1 bt170.2.2.2.2).bind fun bt175 => ((sponge_mixer_round.f a0_0 a0_1 a0_2 bt175.1 bt175.2.1 bt175.2.2.1 bt175.2.2.2.1 bt175.2.2.2.2).bind fun bt180 => ((sponge_mixer_round.f a0_0 a0_1 a0_2 bt180.1 bt180.2.1 bt180.2.2.1 bt180.2.2.2.1 bt180.2.2.2.2).bind fun bt185 => (some (bt185.2.1, bt185.2.2.1, bt185.2.2.2.1, bt185.2.2.2.2)))))))) = some (r1, r2, r3, r4) := H
 have A16 := Aside0.mk A160
 clear A160
 have HC17 := Aside0.mk H
 clear H
 have hnb18 := NB147_148.out
 have hnc18 := NB148_147.out
 have hnb19 := NB147_149.out
 have hnc19 := NB149_147.out
 have hcz20_0 : w14.cell? ⟨g147, 0, none⟩ = some (.int .u64 a0_0) := bq_ B147 0
 have hcz20_1 : w14.cell? ⟨g147, 1, none⟩ = some (.int .u64 a0_1) := bq_ B147 1
 have hcz20_2 : w14.cell? ⟨g147, 2, none⟩ = some (.bool a0_2) := bq_ B147 2
 have hfz20_0 := blk_frozen B147.out 0
 have hfz20_1 := blk_frozen B147.out 1
 have hfz20_2 := blk_frozen B147.out 2
 have hnb21 := NB148_149.out
 have hnc21 := NB149_148.out
 have hcz22_0 : w14.cell? ⟨g148, 0, none⟩ = some (.int .u64 a1_0) := bq_ B148 0
 have hcz22_1 : w14.cell? ⟨g148, 1, none⟩ = some (.int .u64 a1_1) := bq_ B148 1
 have hcz22_2 : w14.cell? ⟨g148, 2, none⟩ = some (.int .u64 a1_2) := bq_ B148 2
 have hcz22_3 : w14.cell? ⟨g148, 3, none⟩ = some (.int .u64 a1_3) := bq_ B148 3
 have hfz22_0 := blk_frozen B148.out 0
 have hfz22_1 := blk_frozen B148.out 1
 have hfz22_2 := blk_frozen B148.out 2
 have hfz22_3 := blk_frozen B148.out 3
 go_wp2_with (first | ((with_reducible refine gate_callee (f := 36) rfl ?_); refine goesL_ (some 12) rfl rfl Tryd.func36 (by kernel_rfl) rfl #[.agg #[.int .u64 a0_0, .int .u64 a0_1, .bool a0_2], .int .u64 t150, .agg #[.int .u64 t151, .int .u64 t152, .int .u64 t153, .int .u64 t154]] rfl (by (try simp only [List.map_toArray, List.map_cons, List.map_nil]); first | done | rfl) ?_; (with_reducible refine (sponge_mixer_round.calls a0_0 a0_1 a0_2 t150 t151 t152 t153 t154 t155 t156 t157 t158 t159 _ A16.out).mono ?_); rintro e w23 ⟨rfl, hb⟩; refine ⟨_, rfl, ?_⟩; have n0_ := Aside0.mk (blk_below (g := g147) (o := .cells #[.int .u64 a0_0, .int .u64 a0_1, .bool a0_2] 45 (0, 0)) (by (with_reducible repeat first | refine blk_drewN ?_ _ | refine blk_drew ?_ | refine blk_alloc ?_ _); refine blk_far ?_ NB147_148.out _; (with_reducible repeat first | refine blk_drewN ?_ _ | refine blk_drew ?_ | refine blk_alloc ?_ _); refine blk_far ?_ NB147_148.out _; (with_reducible repeat first | refine blk_drewN ?_ _ | refine blk_drew ?_ | refine blk_alloc ?_ _); refine blk_far ?_ NB147_148.out _; (with_reducible repeat first | refine blk_drewN ?_ _ | refine blk_drew ?_ | refine blk_alloc ?_ _); refine blk_far ?_ NB147_148.out _; (with_reducible repeat first | refine blk_drewN ?_ _ | refine blk_drew ?_ | refine blk_alloc ?_ _); exact B147.out) hb); have n1_ := Aside0.mk (blk_below (g := g148) (o := .cells #[.int .u64 t151, .int .u64 t152, .int .u64 t153, .int .u64 t154] 23 (0, 0)) (by (with_reducible repeat first | refine blk_drewN ?_ _ | refine blk_drew ?_ | refine blk_alloc ?_ _); refine blk_put (cs := #[.int .u64 t151, .int .u64 t152, .int .u64 t153, .int .u64 a1_3]) ?_ 3 _ rfl; (with_reducible repeat first | refine blk_drewN ?_ _ | refine blk_drew ?_ | refine blk_alloc ?_ _); refine blk_put (cs := #[.int .u64 t151, .int .u64 t152, .int .u64 a1_2, .int .u64 a1_3]) ?_ 2 _ rfl; (with_reducible repeat first | refine blk_drewN ?_ _ | refine blk_drew ?_ | refine blk_alloc ?_ _); refine blk_put (cs := #[.int .u64 t151, .int .u64 a1_1, .int .u64 a1_2, .int .u64 a1_3]) ?_ 1 _ rfl; (with_reducible repeat first | refine blk_drewN ?_ _ | refine blk_drew ?_ | refine blk_alloc ?_ _); refine blk_put (cs := #[.int .u64 a1_0, .int .u64 a1_1, .int .u64 a1_2, .int .u64 a1_3]) ?_ 0 _ rfl; (with_reducible repeat first | refine blk_drewN ?_ _ | refine blk_drew ?_ | refine blk_alloc ?_ _); exact B148.out) hb); have n2_ := Aside0.mk (blk_below (g := g149) (o := .cells #[.int .u64 0, .int .u64 0, .int .u64 0, .int .u64 0] 23 (0, 0)) (by (with_reducible repeat first | refine blk_drewN ?_ _ | refine blk_drew ?_ | refine blk_alloc ?_ _); refine blk_far ?_ NB149_148.out _; (with_reducible repeat first | refine blk_drewN ?_ _ | refine blk_drew ?_ | refine blk_alloc ?_ _); refine blk_far ?_ NB149_148.out _; (with_reducible repeat first | refine blk_drewN ?_ _ | refine blk_drew ?_ | refine blk_alloc ?_ _); refine blk_far ?_ NB149_148.out _; (with_reducible repeat first | refine blk_drewN ?_ _ | refine blk_drew ?_ | refine blk_alloc ?_ _); refine blk_far ?_ NB149_148.out _; (with_reducible repeat first | refine blk_drewN ?_ _ | refine blk_drew ?_ | refine blk_alloc ?_ _); exact B149.out) hb); have n3_ := Aside0.mk (below_step (by repeat (first | (with_reducible first | exact HB.out | apply below_alloc | apply pw_below_drewN | apply below_drew1 | refine below_set ?_ GE147.out | refine below_set ?_ GE148.out | refine below_set ?_ GE149.out) | exact HB.out)) hb); clear B147; clear B148; clear B149; clear HB; have B147 := n0_; have B148 := n1_; have B149 := n2_; have HB := n3_; clear n0_ n1_ n2_ n3_; (try clear hb); (try clear hb2); (try clear hk); (try clear hi); have hcz24_0 : w23.cell? ⟨g148, 0, none⟩ = some (.int .u64 t151) := bq_ B148 0; have hcz24_1 : w23.cell? ⟨g148, 1, none⟩ = some (.int .u64 t152) := bq_ B148 1; have hcz24_2 : w23.cell? ⟨g148, 2, none⟩ = some (.int .u64 t153) := bq_ B148 2; have hcz24_3 : w23.cell? ⟨g148, 3, none⟩ = some (.int .u64 t154) := bq_ B148 3; have hfz24_0 := blk_frozen B148.out 0; have hfz24_1 := blk_frozen B148.out 1; have hfz24_2 := blk_frozen B148.out 2; have hfz24_3 := blk_frozen B148.out 3))
 rw [rounds_succ]
 have H := HC17.out
 clear HC17
 replace H := Option.bind_eq_some_iff.mp H
 obtain ⟨⟨t160, t161, t162, t163, t164⟩, A250, H⟩ := H
 replace H : ((sponge_mixer_round.f a0_0 a0_1 a0_2 t160 t161 t162 t163 t164).bind fun bt165 => ((sponge_mixer_round.f a0_0 a0_1 a0_2 bt165.1 bt165.2.1 bt165.2.2.1 bt165.2.2.2.1 bt165.2.2.2.2).bind fun bt170 => ((sponge_mixer_round.f a0_0 a0_1 a0_2 bt170.1 bt170.2.1 bt170.2.2.1 bt170.2.2.2.1 bt170.2.2.2.2).bind fun bt175 => ((sponge_mixer_round.f a0_0 a0_1 a0_2 bt175.1 bt175.2.1 bt175.2.2.1 bt175.2.2.2.1 bt175.2.2.2.2).bind fun bt180 => ((sponge_mixer_round.f a0_0 a0_1 a0_2 bt180.1 bt180.2.1 bt180.2.2.1 bt180.2.2.2.1 bt180.2.2.2.2).bind fun bt185 => (some (bt185.2.1, bt185.2.2.1, bt185.2.2.2.1, bt185.2.2.2.2))))))) = some (r1, r2, r3, r4) := H
 have A25 := Aside0.mk A250
 clear A250
 have HC26 := Aside0.mk H
 clear H
 have hnb27 := NB147_148.out
 have hnc27 := NB148_147.out
 have hnb28 := NB147_149.out
 have hnc28 := NB149_147.out
 have hcz29_0 : w23.cell? ⟨g147, 0, none⟩ = some (.int .u64 a0_0) := bq_ B147 0
 have hcz29_1 : w23.cell? ⟨g147, 1, none⟩ = some (.int .u64 a0_1) := bq_ B147 1
 have hcz29_2 : w23.cell? ⟨g147, 2, none⟩ = some (.bool a0_2) := bq_ B147 2
 have hfz29_0 := blk_frozen B147.out 0
 have hfz29_1 := blk_frozen B147.out 1
 have hfz29_2 := blk_frozen B147.out 2
 have hnb30 := NB148_149.out
 have hnc30 := NB149_148.out
 have hcz31_0 : w23.cell? ⟨g148, 0, none⟩ = some (.int .u64 t151) := bq_ B148 0
 have hcz31_1 : w23.cell? ⟨g148, 1, none⟩ = some (.int .u64 t152) := bq_ B148 1
 have hcz31_2 : w23.cell? ⟨g148, 2, none⟩ = some (.int .u64 t153) := bq_ B148 2
 have hcz31_3 : w23.cell? ⟨g148, 3, none⟩ = some (.int .u64 t154) := bq_ B148 3
 have hfz31_0 := blk_frozen B148.out 0
 have hfz31_1 := blk_frozen B148.out 1
 have hfz31_2 := blk_frozen B148.out 2
 have hfz31_3 := blk_frozen B148.out 3
 go_wp2_with (first | ((with_reducible refine gate_callee (f := 36) rfl ?_); refine goesL_ (some 12) rfl rfl Tryd.func36 (by kernel_rfl) rfl #[.agg #[.int .u64 a0_0, .int .u64 a0_1, .bool a0_2], .int .u64 t155, .agg #[.int .u64 t156, .int .u64 t157, .int .u64 t158, .int .u64 t159]] rfl (by (try simp only [List.map_toArray, List.map_cons, List.map_nil]); first | done | rfl) ?_; (with_reducible refine (sponge_mixer_round.calls a0_0 a0_1 a0_2 t155 t156 t157 t158 t159 t160 t161 t162 t163 t164 _ A25.out).mono ?_); rintro e w32 ⟨rfl, hb⟩; refine ⟨_, rfl, ?_⟩; have n0_ := Aside0.mk (blk_below (g := g147) (o := .cells #[.int .u64 a0_0, .int .u64 a0_1, .bool a0_2] 45 (0, 0)) (by (with_reducible repeat first | refine blk_drewN ?_ _ | refine blk_drew ?_ | refine blk_alloc ?_ _); refine blk_far ?_ NB147_148.out _; (with_reducible repeat first | refine blk_drewN ?_ _ | refine blk_drew ?_ | refine blk_alloc ?_ _); refine blk_far ?_ NB147_148.out _; (with_reducible repeat first | refine blk_drewN ?_ _ | refine blk_drew ?_ | refine blk_alloc ?_ _); refine blk_far ?_ NB147_148.out _; (with_reducible repeat first | refine blk_drewN ?_ _ | refine blk_drew ?_ | refine blk_alloc ?_ _); refine blk_far ?_ NB147_148.out _; (with_reducible repeat first | refine blk_drewN ?_ _ | refine blk_drew ?_ | refine blk_alloc ?_ _); exact B147.out) hb); have n1_ := Aside0.mk (blk_below (g := g148) (o := .cells #[.int .u64 t156, .int .u64 t157, .int .u64 t158, .int .u64 t159] 23 (0, 0)) (by (with_reducible repeat first | refine blk_drewN ?_ _ | refine blk_drew ?_ | refine blk_alloc ?_ _); refine blk_put (cs := #[.int .u64 t156, .int .u64 t157, .int .u64 t158, .int .u64 t154]) ?_ 3 _ rfl; (with_reducible repeat first | refine blk_drewN ?_ _ | refine blk_drew ?_ | refine blk_alloc ?_ _); refine blk_put (cs := #[.int .u64 t156, .int .u64 t157, .int .u64 t153, .int .u64 t154]) ?_ 2 _ rfl; (with_reducible repeat first | refine blk_drewN ?_ _ | refine blk_drew ?_ | refine blk_alloc ?_ _); refine blk_put (cs := #[.int .u64 t156, .int .u64 t152, .int .u64 t153, .int .u64 t154]) ?_ 1 _ rfl; (with_reducible repeat first | refine blk_drewN ?_ _ | refine blk_drew ?_ | refine blk_alloc ?_ _); refine blk_put (cs := #[.int .u64 t151, .int .u64 t152, .int .u64 t153, .int .u64 t154]) ?_ 0 _ rfl; (with_reducible repeat first | refine blk_drewN ?_ _ | refine blk_drew ?_ | refine blk_alloc ?_ _); exact B148.out) hb); have n2_ := Aside0.mk (blk_below (g := g149) (o := .cells #[.int .u64 0, .int .u64 0, .int .u64 0, .int .u64 0] 23 (0, 0)) (by (with_reducible repeat first | refine blk_drewN ?_ _ | refine blk_drew ?_ | refine blk_alloc ?_ _); refine blk_far ?_ NB149_148.out _; (with_reducible repeat first | refine blk_drewN ?_ _ | refine blk_drew ?_ | refine blk_alloc ?_ _); refine blk_far ?_ NB149_148.out _; (with_reducible repeat first | refine blk_drewN ?_ _ | refine blk_drew ?_ | refine blk_alloc ?_ _); refine blk_far ?_ NB149_148.out _; (with_reducible repeat first | refine blk_drewN ?_ _ | refine blk_drew ?_ | refine blk_alloc ?_ _); refine blk_far ?_ NB149_148.out _; (with_reducible repeat first | refine blk_drewN ?_ _ | refine blk_drew ?_ | refine blk_alloc ?_ _); exact B149.out) hb); have n3_ := Aside0.mk (below_step (by repeat (first | (with_reducible first | exact HB.out | apply below_alloc | apply pw_below_drewN | apply below_drew1 | refine below_set ?_ GE147.out | refine below_set ?_ GE148.out | refine below_set ?_ GE149.out) | exact HB.out)) hb); clear B147; clear B148; clear B149; clear HB; have B147 := n0_; have B148 := n1_; have B149 := n2_; have HB := n3_; clear n0_ n1_ n2_ n3_; (try clear hb); (try clear hb2); (try clear hk); (try clear hi); have hcz33_0 : w32.cell? ⟨g148, 0, none⟩ = some (.int .u64 t156) := bq_ B148 0; have hcz33_1 : w32.cell? ⟨g148, 1, none⟩ = some (.int .u64 t157) := bq_ B148 1; have hcz33_2 : w32.cell? ⟨g148, 2, none⟩ = some (.int .u64 t158) := bq_ B148 2; have hcz33_3 : w32.cell? ⟨g148, 3, none⟩ = some (.int .u64 t159) := bq_ B148 3; have hfz33_0 := blk_frozen B148.out 0; have hfz33_1 := blk_frozen B148.out 1; have hfz33_2 := blk_frozen B148.out 2; have hfz33_3 := blk_frozen B148.out 3))
 rw [rounds_succ]
 have H := HC26.out
 clear HC26
 replace H := Option.bind_eq_some_iff.mp H
 obtain ⟨⟨t165, t166, t167, t168, t169⟩, A340, H⟩ := H
 replace H : ((sponge_mixer_round.f a0_0 a0_1 a0_2 t165 t166 t167 t168 t169).bind fun bt170 => ((sponge_mixer_round.f a0_0 a0_1 a0_2 bt170.1 bt170.2.1 bt170.2.2.1 bt170.2.2.2.1 bt170.2.2.2.2).bind fun bt175 => ((sponge_mixer_round.f a0_0 a0_1 a0_2 bt175.1 bt175.2.1 bt175.2.2.1 bt175.2.2.2.1 bt175.2.2.2.2).bind fun bt180 => ((sponge_mixer_round.f a0_0 a0_1 a0_2 bt180.1 bt180.2.1 bt180.2.2.1 bt180.2.2.2.1 bt180.2.2.2.2).bind fun bt185 => (some (bt185.2.1, bt185.2.2.1, bt185.2.2.2.1, bt185.2.2.2.2)))))) = some (r1, r2, r3, r4) := H
 have A34 := Aside0.mk A340
 clear A340
 have HC35 := Aside0.mk H
 clear H
 have hnb36 := NB147_148.out
 have hnc36 := NB148_147.out
 have hnb37 := NB147_149.out
 have hnc37 := NB149_147.out
 have hcz38_0 : w32.cell? ⟨g147, 0, none⟩ = some (.int .u64 a0_0) := bq_ B147 0
 have hcz38_1 : w32.cell? ⟨g147, 1, none⟩ = some (.int .u64 a0_1) := bq_ B147 1
 have hcz38_2 : w32.cell? ⟨g147, 2, none⟩ = some (.bool a0_2) := bq_ B147 2
 have hfz38_0 := blk_frozen B147.out 0
 have hfz38_1 := blk_frozen B147.out 1
 have hfz38_2 := blk_frozen B147.out 2
 have hnb39 := NB148_149.out
 have hnc39 := NB149_148.out
 have hcz40_0 : w32.cell? ⟨g148, 0, none⟩ = some (.int .u64 t156) := bq_ B148 0
 have hcz40_1 : w32.cell? ⟨g148, 1, none⟩ = some (.int .u64 t157) := bq_ B148 1
 have hcz40_2 : w32.cell? ⟨g148, 2, none⟩ = some (.int .u64 t158) := bq_ B148 2
 have hcz40_3 : w32.cell? ⟨g148, 3, none⟩ = some (.int .u64 t159) := bq_ B148 3
 have hfz40_0 := blk_frozen B148.out 0
 have hfz40_1 := blk_frozen B148.out 1
 have hfz40_2 := blk_frozen B148.out 2
 have hfz40_3 := blk_frozen B148.out 3
 go_wp2_with (first | ((with_reducible refine gate_callee (f := 36) rfl ?_); refine goesL_ (some 12) rfl rfl Tryd.func36 (by kernel_rfl) rfl #[.agg #[.int .u64 a0_0, .int .u64 a0_1, .bool a0_2], .int .u64 t160, .agg #[.int .u64 t161, .int .u64 t162, .int .u64 t163, .int .u64 t164]] rfl (by (try simp only [List.map_toArray, List.map_cons, List.map_nil]); first | done | rfl) ?_; (with_reducible refine (sponge_mixer_round.calls a0_0 a0_1 a0_2 t160 t161 t162 t163 t164 t165 t166 t167 t168 t169 _ A34.out).mono ?_); rintro e w41 ⟨rfl, hb⟩; refine ⟨_, rfl, ?_⟩; have n0_ := Aside0.mk (blk_below (g := g147) (o := .cells #[.int .u64 a0_0, .int .u64 a0_1, .bool a0_2] 45 (0, 0)) (by (with_reducible repeat first | refine blk_drewN ?_ _ | refine blk_drew ?_ | refine blk_alloc ?_ _); refine blk_far ?_ NB147_148.out _; (with_reducible repeat first | refine blk_drewN ?_ _ | refine blk_drew ?_ | refine blk_alloc ?_ _); refine blk_far ?_ NB147_148.out _; (with_reducible repeat first | refine blk_drewN ?_ _ | refine blk_drew ?_ | refine blk_alloc ?_ _); refine blk_far ?_ NB147_148.out _; (with_reducible repeat first | refine blk_drewN ?_ _ | refine blk_drew ?_ | refine blk_alloc ?_ _); refine blk_far ?_ NB147_148.out _; (with_reducible repeat first | refine blk_drewN ?_ _ | refine blk_drew ?_ | refine blk_alloc ?_ _); exact B147.out) hb); have n1_ := Aside0.mk (blk_below (g := g148) (o := .cells #[.int .u64 t161, .int .u64 t162, .int .u64 t163, .int .u64 t164] 23 (0, 0)) (by (with_reducible repeat first | refine blk_drewN ?_ _ | refine blk_drew ?_ | refine blk_alloc ?_ _); refine blk_put (cs := #[.int .u64 t161, .int .u64 t162, .int .u64 t163, .int .u64 t159]) ?_ 3 _ rfl; (with_reducible repeat first | refine blk_drewN ?_ _ | refine blk_drew ?_ | refine blk_alloc ?_ _); refine blk_put (cs := #[.int .u64 t161, .int .u64 t162, .int .u64 t158, .int .u64 t159]) ?_ 2 _ rfl; (with_reducible repeat first | refine blk_drewN ?_ _ | refine blk_drew ?_ | refine blk_alloc ?_ _); refine blk_put (cs := #[.int .u64 t161, .int .u64 t157, .int .u64 t158, .int .u64 t159]) ?_ 1 _ rfl; (with_reducible repeat first | refine blk_drewN ?_ _ | refine blk_drew ?_ | refine blk_alloc ?_ _); refine blk_put (cs := #[.int .u64 t156, .int .u64 t157, .int .u64 t158, .int .u64 t159]) ?_ 0 _ rfl; (with_reducible repeat first | refine blk_drewN ?_ _ | refine blk_drew ?_ | refine blk_alloc ?_ _); exact B148.out) hb); have n2_ := Aside0.mk (blk_below (g := g149) (o := .cells #[.int .u64 0, .int .u64 0, .int .u64 0, .int .u64 0] 23 (0, 0)) (by (with_reducible repeat first | refine blk_drewN ?_ _ | refine blk_drew ?_ | refine blk_alloc ?_ _); refine blk_far ?_ NB149_148.out _; (with_reducible repeat first | refine blk_drewN ?_ _ | refine blk_drew ?_ | refine blk_alloc ?_ _); refine blk_far ?_ NB149_148.out _; (with_reducible repeat first | refine blk_drewN ?_ _ | refine blk_drew ?_ | refine blk_alloc ?_ _); refine blk_far ?_ NB149_148.out _; (with_reducible repeat first | refine blk_drewN ?_ _ | refine blk_drew ?_ | refine blk_alloc ?_ _); refine blk_far ?_ NB149_148.out _; (with_reducible repeat first | refine blk_drewN ?_ _ | refine blk_drew ?_ | refine blk_alloc ?_ _); exact B149.out) hb); have n3_ := Aside0.mk (below_step (by repeat (first | (with_reducible first | exact HB.out | apply below_alloc | apply pw_below_drewN | apply below_drew1 | refine below_set ?_ GE147.out | refine below_set ?_ GE148.out | refine below_set ?_ GE149.out) | exact HB.out)) hb); clear B147; clear B148; clear B149; clear HB; have B147 := n0_; have B148 := n1_; have B149 := n2_; have HB := n3_; clear n0_ n1_ n2_ n3_; (try clear hb); (try clear hb2); (try clear hk); (try clear hi); have hcz42_0 : w41.cell? ⟨g148, 0, none⟩ = some (.int .u64 t161) := bq_ B148 0; have hcz42_1 : w41.cell? ⟨g148, 1, none⟩ = some (.int .u64 t162) := bq_ B148 1; have hcz42_2 : w41.cell? ⟨g148, 2, none⟩ = some (.int .u64 t163) := bq_ B148 2; have hcz42_3 : w41.cell? ⟨g148, 3, none⟩ = some (.int .u64 t164) := bq_ B148 3; have hfz42_0 := blk_frozen B148.out 0; have hfz42_1 := blk_frozen B148.out 1; have hfz42_2 := blk_frozen B148.out 2; have hfz42_3 := blk_frozen B148.out 3))
 rw [rounds_succ]
 have H := HC35.out
 clear HC35
 replace H := Option.bind_eq_some_iff.mp H
 obtain ⟨⟨t170, t171, t172, t173, t174⟩, A430, H⟩ := H
 replace H : ((sponge_mixer_round.f a0_0 a0_1 a0_2 t170 t171 t172 t173 t174).bind fun bt175 => ((sponge_mixer_round.f a0_0 a0_1 a0_2 bt175.1 bt175.2.1 bt175.2.2.1 bt175.2.2.2.1 bt175.2.2.2.2).bind fun bt180 => ((sponge_mixer_round.f a0_0 a0_1 a0_2 bt180.1 bt180.2.1 bt180.2.2.1 bt180.2.2.2.1 bt180.2.2.2.2).bind fun bt185 => (some (bt185.2.1, bt185.2.2.1, bt185.2.2.2.1, bt185.2.2.2.2))))) = some (r1, r2, r3, r4) := H
 have A43 := Aside0.mk A430
 clear A430
 have HC44 := Aside0.mk H
 clear H
 have hnb45 := NB147_148.out
 have hnc45 := NB148_147.out
 have hnb46 := NB147_149.out
 have hnc46 := NB149_147.out
 have hcz47_0 : w41.cell? ⟨g147, 0, none⟩ = some (.int .u64 a0_0) := bq_ B147 0
 have hcz47_1 : w41.cell? ⟨g147, 1, none⟩ = some (.int .u64 a0_1) := bq_ B147 1
 have hcz47_2 : w41.cell? ⟨g147, 2, none⟩ = some (.bool a0_2) := bq_ B147 2
 have hfz47_0 := blk_frozen B147.out 0
 have hfz47_1 := blk_frozen B147.out 1
 have hfz47_2 := blk_frozen B147.out 2
 have hnb48 := NB148_149.out
 have hnc48 := NB149_148.out
 have hcz49_0 : w41.cell? ⟨g148, 0, none⟩ = some (.int .u64 t161) := bq_ B148 0
 have hcz49_1 : w41.cell? ⟨g148, 1, none⟩ = some (.int .u64 t162) := bq_ B148 1
 have hcz49_2 : w41.cell? ⟨g148, 2, none⟩ = some (.int .u64 t163) := bq_ B148 2
 have hcz49_3 : w41.cell? ⟨g148, 3, none⟩ = some (.int .u64 t164) := bq_ B148 3
 have hfz49_0 := blk_frozen B148.out 0
 have hfz49_1 := blk_frozen B148.out 1
 have hfz49_2 := blk_frozen B148.out 2
 have hfz49_3 := blk_frozen B148.out 3
 go_wp2_with (first | ((with_reducible refine gate_callee (f := 36) rfl ?_); refine goesL_ (some 12) rfl rfl Tryd.func36 (by kernel_rfl) rfl #[.agg #[.int .u64 a0_0, .int .u64 a0_1, .bool a0_2], .int .u64 t165, .agg #[.int .u64 t166, .int .u64 t167, .int .u64 t168, .int .u64 t169]] rfl (by (try simp only [List.map_toArray, List.map_cons, List.map_nil]); first | done | rfl) ?_; (with_reducible refine (sponge_mixer_round.calls a0_0 a0_1 a0_2 t165 t166 t167 t168 t169 t170 t171 t172 t173 t174 _ A43.out).mono ?_); rintro e w50 ⟨rfl, hb⟩; refine ⟨_, rfl, ?_⟩; have n0_ := Aside0.mk (blk_below (g := g147) (o := .cells #[.int .u64 a0_0, .int .u64 a0_1, .bool a0_2] 45 (0, 0)) (by (with_reducible repeat first | refine blk_drewN ?_ _ | refine blk_drew ?_ | refine blk_alloc ?_ _); refine blk_far ?_ NB147_148.out _; (with_reducible repeat first | refine blk_drewN ?_ _ | refine blk_drew ?_ | refine blk_alloc ?_ _); refine blk_far ?_ NB147_148.out _; (with_reducible repeat first | refine blk_drewN ?_ _ | refine blk_drew ?_ | refine blk_alloc ?_ _); refine blk_far ?_ NB147_148.out _; (with_reducible repeat first | refine blk_drewN ?_ _ | refine blk_drew ?_ | refine blk_alloc ?_ _); refine blk_far ?_ NB147_148.out _; (with_reducible repeat first | refine blk_drewN ?_ _ | refine blk_drew ?_ | refine blk_alloc ?_ _); exact B147.out) hb); have n1_ := Aside0.mk (blk_below (g := g148) (o := .cells #[.int .u64 t166, .int .u64 t167, .int .u64 t168, .int .u64 t169] 23 (0, 0)) (by (with_reducible repeat first | refine blk_drewN ?_ _ | refine blk_drew ?_ | refine blk_alloc ?_ _); refine blk_put (cs := #[.int .u64 t166, .int .u64 t167, .int .u64 t168, .int .u64 t164]) ?_ 3 _ rfl; (with_reducible repeat first | refine blk_drewN ?_ _ | refine blk_drew ?_ | refine blk_alloc ?_ _); refine blk_put (cs := #[.int .u64 t166, .int .u64 t167, .int .u64 t163, .int .u64 t164]) ?_ 2 _ rfl; (with_reducible repeat first | refine blk_drewN ?_ _ | refine blk_drew ?_ | refine blk_alloc ?_ _); refine blk_put (cs := #[.int .u64 t166, .int .u64 t162, .int .u64 t163, .int .u64 t164]) ?_ 1 _ rfl; (with_reducible repeat first | refine blk_drewN ?_ _ | refine blk_drew ?_ | refine blk_alloc ?_ _); refine blk_put (cs := #[.int .u64 t161, .int .u64 t162, .int .u64 t163, .int .u64 t164]) ?_ 0 _ rfl; (with_reducible repeat first | refine blk_drewN ?_ _ | refine blk_drew ?_ | refine blk_alloc ?_ _); exact B148.out) hb); have n2_ := Aside0.mk (blk_below (g := g149) (o := .cells #[.int .u64 0, .int .u64 0, .int .u64 0, .int .u64 0] 23 (0, 0)) (by (with_reducible repeat first | refine blk_drewN ?_ _ | refine blk_drew ?_ | refine blk_alloc ?_ _); refine blk_far ?_ NB149_148.out _; (with_reducible repeat first | refine blk_drewN ?_ _ | refine blk_drew ?_ | refine blk_alloc ?_ _); refine blk_far ?_ NB149_148.out _; (with_reducible repeat first | refine blk_drewN ?_ _ | refine blk_drew ?_ | refine blk_alloc ?_ _); refine blk_far ?_ NB149_148.out _; (with_reducible repeat first | refine blk_drewN ?_ _ | refine blk_drew ?_ | refine blk_alloc ?_ _); refine blk_far ?_ NB149_148.out _; (with_reducible repeat first | refine blk_drewN ?_ _ | refine blk_drew ?_ | refine blk_alloc ?_ _); exact B149.out) hb); have n3_ := Aside0.mk (below_step (by repeat (first | (with_reducible first | exact HB.out | apply below_alloc | apply pw_below_drewN | apply below_drew1 | refine below_set ?_ GE147.out | refine below_set ?_ GE148.out | refine below_set ?_ GE149.out) | exact HB.out)) hb); clear B147; clear B148; clear B149; clear HB; have B147 := n0_; have B148 := n1_; have B149 := n2_; have HB := n3_; clear n0_ n1_ n2_ n3_; (try clear hb); (try clear hb2); (try clear hk); (try clear hi); have hcz51_0 : w50.cell? ⟨g148, 0, none⟩ = some (.int .u64 t166) := bq_ B148 0; have hcz51_1 : w50.cell? ⟨g148, 1, none⟩ = some (.int .u64 t167) := bq_ B148 1; have hcz51_2 : w50.cell? ⟨g148, 2, none⟩ = some (.int .u64 t168) := bq_ B148 2; have hcz51_3 : w50.cell? ⟨g148, 3, none⟩ = some (.int .u64 t169) := bq_ B148 3; have hfz51_0 := blk_frozen B148.out 0; have hfz51_1 := blk_frozen B148.out 1; have hfz51_2 := blk_frozen B148.out 2; have hfz51_3 := blk_frozen B148.out 3))
 rw [rounds_succ]
 have H := HC44.out
 clear HC44
 replace H := Option.bind_eq_some_iff.mp H
 obtain ⟨⟨t175, t176, t177, t178, t179⟩, A520, H⟩ := H
 replace H : ((sponge_mixer_round.f a0_0 a0_1 a0_2 t175 t176 t177 t178 t179).bind fun bt180 => ((sponge_mixer_round.f a0_0 a0_1 a0_2 bt180.1 bt180.2.1 bt180.2.2.1 bt180.2.2.2.1 bt180.2.2.2.2).bind fun bt185 => (some (bt185.2.1, bt185.2.2.1, bt185.2.2.2.1, bt185.2.2.2.2)))) = some (r1, r2, r3, r4) := H
 have A52 := Aside0.mk A520
 clear A520
 have HC53 := Aside0.mk H
 clear H
 have hnb54 := NB147_148.out
 have hnc54 := NB148_147.out
 have hnb55 := NB147_149.out
 have hnc55 := NB149_147.out
 have hcz56_0 : w50.cell? ⟨g147, 0, none⟩ = some (.int .u64 a0_0) := bq_ B147 0
 have hcz56_1 : w50.cell? ⟨g147, 1, none⟩ = some (.int .u64 a0_1) := bq_ B147 1
 have hcz56_2 : w50.cell? ⟨g147, 2, none⟩ = some (.bool a0_2) := bq_ B147 2
 have hfz56_0 := blk_frozen B147.out 0
 have hfz56_1 := blk_frozen B147.out 1
 have hfz56_2 := blk_frozen B147.out 2
 have hnb57 := NB148_149.out
 have hnc57 := NB149_148.out
 have hcz58_0 : w50.cell? ⟨g148, 0, none⟩ = some (.int .u64 t166) := bq_ B148 0
 have hcz58_1 : w50.cell? ⟨g148, 1, none⟩ = some (.int .u64 t167) := bq_ B148 1
 have hcz58_2 : w50.cell? ⟨g148, 2, none⟩ = some (.int .u64 t168) := bq_ B148 2
 have hcz58_3 : w50.cell? ⟨g148, 3, none⟩ = some (.int .u64 t169) := bq_ B148 3
 have hfz58_0 := blk_frozen B148.out 0
 have hfz58_1 := blk_frozen B148.out 1
 have hfz58_2 := blk_frozen B148.out 2
 have hfz58_3 := blk_frozen B148.out 3
 go_wp2_with (first | ((with_reducible refine gate_callee (f := 36) rfl ?_); refine goesL_ (some 12) rfl rfl Tryd.func36 (by kernel_rfl) rfl #[.agg #[.int .u64 a0_0, .int .u64 a0_1, .bool a0_2], .int .u64 t170, .agg #[.int .u64 t171, .int .u64 t172, .int .u64 t173, .int .u64 t174]] rfl (by (try simp only [List.map_toArray, List.map_cons, List.map_nil]); first | done | rfl) ?_; (with_reducible refine (sponge_mixer_round.calls a0_0 a0_1 a0_2 t170 t171 t172 t173 t174 t175 t176 t177 t178 t179 _ A52.out).mono ?_); rintro e w59 ⟨rfl, hb⟩; refine ⟨_, rfl, ?_⟩; have n0_ := Aside0.mk (blk_below (g := g147) (o := .cells #[.int .u64 a0_0, .int .u64 a0_1, .bool a0_2] 45 (0, 0)) (by (with_reducible repeat first | refine blk_drewN ?_ _ | refine blk_drew ?_ | refine blk_alloc ?_ _); refine blk_far ?_ NB147_148.out _; (with_reducible repeat first | refine blk_drewN ?_ _ | refine blk_drew ?_ | refine blk_alloc ?_ _); refine blk_far ?_ NB147_148.out _; (with_reducible repeat first | refine blk_drewN ?_ _ | refine blk_drew ?_ | refine blk_alloc ?_ _); refine blk_far ?_ NB147_148.out _; (with_reducible repeat first | refine blk_drewN ?_ _ | refine blk_drew ?_ | refine blk_alloc ?_ _); refine blk_far ?_ NB147_148.out _; (with_reducible repeat first | refine blk_drewN ?_ _ | refine blk_drew ?_ | refine blk_alloc ?_ _); exact B147.out) hb); have n1_ := Aside0.mk (blk_below (g := g148) (o := .cells #[.int .u64 t171, .int .u64 t172, .int .u64 t173, .int .u64 t174] 23 (0, 0)) (by (with_reducible repeat first | refine blk_drewN ?_ _ | refine blk_drew ?_ | refine blk_alloc ?_ _); refine blk_put (cs := #[.int .u64 t171, .int .u64 t172, .int .u64 t173, .int .u64 t169]) ?_ 3 _ rfl; (with_reducible repeat first | refine blk_drewN ?_ _ | refine blk_drew ?_ | refine blk_alloc ?_ _); refine blk_put (cs := #[.int .u64 t171, .int .u64 t172, .int .u64 t168, .int .u64 t169]) ?_ 2 _ rfl; (with_reducible repeat first | refine blk_drewN ?_ _ | refine blk_drew ?_ | refine blk_alloc ?_ _); refine blk_put (cs := #[.int .u64 t171, .int .u64 t167, .int .u64 t168, .int .u64 t169]) ?_ 1 _ rfl; (with_reducible repeat first | refine blk_drewN ?_ _ | refine blk_drew ?_ | refine blk_alloc ?_ _); refine blk_put (cs := #[.int .u64 t166, .int .u64 t167, .int .u64 t168, .int .u64 t169]) ?_ 0 _ rfl; (with_reducible repeat first | refine blk_drewN ?_ _ | refine blk_drew ?_ | refine blk_alloc ?_ _); exact B148.out) hb); have n2_ := Aside0.mk (blk_below (g := g149) (o := .cells #[.int .u64 0, .int .u64 0, .int .u64 0, .int .u64 0] 23 (0, 0)) (by (with_reducible repeat first | refine blk_drewN ?_ _ | refine blk_drew ?_ | refine blk_alloc ?_ _); refine blk_far ?_ NB149_148.out _; (with_reducible repeat first | refine blk_drewN ?_ _ | refine blk_drew ?_ | refine blk_alloc ?_ _); refine blk_far ?_ NB149_148.out _; (with_reducible repeat first | refine blk_drewN ?_ _ | refine blk_drew ?_ | refine blk_alloc ?_ _); refine blk_far ?_ NB149_148.out _; (with_reducible repeat first | refine blk_drewN ?_ _ | refine blk_drew ?_ | refine blk_alloc ?_ _); refine blk_far ?_ NB149_148.out _; (with_reducible repeat first | refine blk_drewN ?_ _ | refine blk_drew ?_ | refine blk_alloc ?_ _); exact B149.out) hb); have n3_ := Aside0.mk (below_step (by repeat (first | (with_reducible first | exact HB.out | apply below_alloc | apply pw_below_drewN | apply below_drew1 | refine below_set ?_ GE147.out | refine below_set ?_ GE148.out | refine below_set ?_ GE149.out) | exact HB.out)) hb); clear B147; clear B148; clear B149; clear HB; have B147 := n0_; have B148 := n1_; have B149 := n2_; have HB := n3_; clear n0_ n1_ n2_ n3_; (try clear hb); (try clear hb2); (try clear hk); (try clear hi); have hcz60_0 : w59.cell? ⟨g148, 0, none⟩ = some (.int .u64 t171) := bq_ B148 0; have hcz60_1 : w59.cell? ⟨g148, 1, none⟩ = some (.int .u64 t172) := bq_ B148 1; have hcz60_2 : w59.cell? ⟨g148, 2, none⟩ = some (.int .u64 t173) := bq_ B148 2; have hcz60_3 : w59.cell? ⟨g148, 3, none⟩ = some (.int .u64 t174) := bq_ B148 3; have hfz60_0 := blk_frozen B148.out 0; have hfz60_1 := blk_frozen B148.out 1; have hfz60_2 := blk_frozen B148.out 2; have hfz60_3 := blk_frozen B148.out 3))
 rw [rounds_succ]
 have H := HC53.out
 clear HC53
 replace H := Option.bind_eq_some_iff.mp H
 obtain ⟨⟨t180, t181, t182, t183, t184⟩, A610, H⟩ := H
 replace H : ((sponge_mixer_round.f a0_0 a0_1 a0_2 t180 t181 t182 t183 t184).bind fun bt185 => (some (bt185.2.1, bt185.2.2.1, bt185.2.2.2.1, bt185.2.2.2.2))) = some (r1, r2, r3, r4) := H
 have A61 := Aside0.mk A610
 clear A610
 have HC62 := Aside0.mk H
 clear H
 have hnb63 := NB147_148.out
 have hnc63 := NB148_147.out
 have hnb64 := NB147_149.out
 have hnc64 := NB149_147.out
 have hcz65_0 : w59.cell? ⟨g147, 0, none⟩ = some (.int .u64 a0_0) := bq_ B147 0
 have hcz65_1 : w59.cell? ⟨g147, 1, none⟩ = some (.int .u64 a0_1) := bq_ B147 1
 have hcz65_2 : w59.cell? ⟨g147, 2, none⟩ = some (.bool a0_2) := bq_ B147 2
 have hfz65_0 := blk_frozen B147.out 0
 have hfz65_1 := blk_frozen B147.out 1
 have hfz65_2 := blk_frozen B147.out 2
 have hnb66 := NB148_149.out
 have hnc66 := NB149_148.out
 have hcz67_0 : w59.cell? ⟨g148, 0, none⟩ = some (.int .u64 t171) := bq_ B148 0
 have hcz67_1 : w59.cell? ⟨g148, 1, none⟩ = some (.int .u64 t172) := bq_ B148 1
 have hcz67_2 : w59.cell? ⟨g148, 2, none⟩ = some (.int .u64 t173) := bq_ B148 2
 have hcz67_3 : w59.cell? ⟨g148, 3, none⟩ = some (.int .u64 t174) := bq_ B148 3
 have hfz67_0 := blk_frozen B148.out 0
 have hfz67_1 := blk_frozen B148.out 1
 have hfz67_2 := blk_frozen B148.out 2
 have hfz67_3 := blk_frozen B148.out 3
 go_wp2_with (first | ((with_reducible refine gate_callee (f := 36) rfl ?_); refine goesL_ (some 12) rfl rfl Tryd.func36 (by kernel_rfl) rfl #[.agg #[.int .u64 a0_0, .int .u64 a0_1, .bool a0_2], .int .u64 t175, .agg #[.int .u64 t176, .int .u64 t177, .int .u64 t178, .int .u64 t179]] rfl (by (try simp only [List.map_toArray, List.map_cons, List.map_nil]); first | done | rfl) ?_; (with_reducible refine (sponge_mixer_round.calls a0_0 a0_1 a0_2 t175 t176 t177 t178 t179 t180 t181 t182 t183 t184 _ A61.out).mono ?_); rintro e w68 ⟨rfl, hb⟩; refine ⟨_, rfl, ?_⟩; have n0_ := Aside0.mk (blk_below (g := g147) (o := .cells #[.int .u64 a0_0, .int .u64 a0_1, .bool a0_2] 45 (0, 0)) (by (with_reducible repeat first | refine blk_drewN ?_ _ | refine blk_drew ?_ | refine blk_alloc ?_ _); refine blk_far ?_ NB147_148.out _; (with_reducible repeat first | refine blk_drewN ?_ _ | refine blk_drew ?_ | refine blk_alloc ?_ _); refine blk_far ?_ NB147_148.out _; (with_reducible repeat first | refine blk_drewN ?_ _ | refine blk_drew ?_ | refine blk_alloc ?_ _); refine blk_far ?_ NB147_148.out _; (with_reducible repeat first | refine blk_drewN ?_ _ | refine blk_drew ?_ | refine blk_alloc ?_ _); refine blk_far ?_ NB147_148.out _; (with_reducible repeat first | refine blk_drewN ?_ _ | refine blk_drew ?_ | refine blk_alloc ?_ _); exact B147.out) hb); have n1_ := Aside0.mk (blk_below (g := g148) (o := .cells #[.int .u64 t176, .int .u64 t177, .int .u64 t178, .int .u64 t179] 23 (0, 0)) (by (with_reducible repeat first | refine blk_drewN ?_ _ | refine blk_drew ?_ | refine blk_alloc ?_ _); refine blk_put (cs := #[.int .u64 t176, .int .u64 t177, .int .u64 t178, .int .u64 t174]) ?_ 3 _ rfl; (with_reducible repeat first | refine blk_drewN ?_ _ | refine blk_drew ?_ | refine blk_alloc ?_ _); refine blk_put (cs := #[.int .u64 t176, .int .u64 t177, .int .u64 t173, .int .u64 t174]) ?_ 2 _ rfl; (with_reducible repeat first | refine blk_drewN ?_ _ | refine blk_drew ?_ | refine blk_alloc ?_ _); refine blk_put (cs := #[.int .u64 t176, .int .u64 t172, .int .u64 t173, .int .u64 t174]) ?_ 1 _ rfl; (with_reducible repeat first | refine blk_drewN ?_ _ | refine blk_drew ?_ | refine blk_alloc ?_ _); refine blk_put (cs := #[.int .u64 t171, .int .u64 t172, .int .u64 t173, .int .u64 t174]) ?_ 0 _ rfl; (with_reducible repeat first | refine blk_drewN ?_ _ | refine blk_drew ?_ | refine blk_alloc ?_ _); exact B148.out) hb); have n2_ := Aside0.mk (blk_below (g := g149) (o := .cells #[.int .u64 0, .int .u64 0, .int .u64 0, .int .u64 0] 23 (0, 0)) (by (with_reducible repeat first | refine blk_drewN ?_ _ | refine blk_drew ?_ | refine blk_alloc ?_ _); refine blk_far ?_ NB149_148.out _; (with_reducible repeat first | refine blk_drewN ?_ _ | refine blk_drew ?_ | refine blk_alloc ?_ _); refine blk_far ?_ NB149_148.out _; (with_reducible repeat first | refine blk_drewN ?_ _ | refine blk_drew ?_ | refine blk_alloc ?_ _); refine blk_far ?_ NB149_148.out _; (with_reducible repeat first | refine blk_drewN ?_ _ | refine blk_drew ?_ | refine blk_alloc ?_ _); refine blk_far ?_ NB149_148.out _; (with_reducible repeat first | refine blk_drewN ?_ _ | refine blk_drew ?_ | refine blk_alloc ?_ _); exact B149.out) hb); have n3_ := Aside0.mk (below_step (by repeat (first | (with_reducible first | exact HB.out | apply below_alloc | apply pw_below_drewN | apply below_drew1 | refine below_set ?_ GE147.out | refine below_set ?_ GE148.out | refine below_set ?_ GE149.out) | exact HB.out)) hb); clear B147; clear B148; clear B149; clear HB; have B147 := n0_; have B148 := n1_; have B149 := n2_; have HB := n3_; clear n0_ n1_ n2_ n3_; (try clear hb); (try clear hb2); (try clear hk); (try clear hi); have hcz69_0 : w68.cell? ⟨g148, 0, none⟩ = some (.int .u64 t176) := bq_ B148 0; have hcz69_1 : w68.cell? ⟨g148, 1, none⟩ = some (.int .u64 t177) := bq_ B148 1; have hcz69_2 : w68.cell? ⟨g148, 2, none⟩ = some (.int .u64 t178) := bq_ B148 2; have hcz69_3 : w68.cell? ⟨g148, 3, none⟩ = some (.int .u64 t179) := bq_ B148 3; have hfz69_0 := blk_frozen B148.out 0; have hfz69_1 := blk_frozen B148.out 1; have hfz69_2 := blk_frozen B148.out 2; have hfz69_3 := blk_frozen B148.out 3))
 rw [rounds_succ]
 have H := HC62.out
 clear HC62
 replace H := Option.bind_eq_some_iff.mp H
 obtain ⟨⟨t185, t186, t187, t188, t189⟩, A700, H⟩ := H
 replace H : (some (t186, t187, t188, t189)) = some (r1, r2, r3, r4) := H
 have A70 := Aside0.mk A700
 clear A700
 have HC71 := Aside0.mk H
 clear H
 have hnb72 := NB147_148.out
 have hnc72 := NB148_147.out
 have hnb73 := NB147_149.out
 have hnc73 := NB149_147.out
 have hcz74_0 : w68.cell? ⟨g147, 0, none⟩ = some (.int .u64 a0_0) := bq_ B147 0
 have hcz74_1 : w68.cell? ⟨g147, 1, none⟩ = some (.int .u64 a0_1) := bq_ B147 1
 have hcz74_2 : w68.cell? ⟨g147, 2, none⟩ = some (.bool a0_2) := bq_ B147 2
 have hfz74_0 := blk_frozen B147.out 0
 have hfz74_1 := blk_frozen B147.out 1
 have hfz74_2 := blk_frozen B147.out 2
 have hnb75 := NB148_149.out
 have hnc75 := NB149_148.out
 have hcz76_0 : w68.cell? ⟨g148, 0, none⟩ = some (.int .u64 t176) := bq_ B148 0
 have hcz76_1 : w68.cell? ⟨g148, 1, none⟩ = some (.int .u64 t177) := bq_ B148 1
 have hcz76_2 : w68.cell? ⟨g148, 2, none⟩ = some (.int .u64 t178) := bq_ B148 2
 have hcz76_3 : w68.cell? ⟨g148, 3, none⟩ = some (.int .u64 t179) := bq_ B148 3
 have hfz76_0 := blk_frozen B148.out 0
 have hfz76_1 := blk_frozen B148.out 1
 have hfz76_2 := blk_frozen B148.out 2
 have hfz76_3 := blk_frozen B148.out 3
 go_wp2_with (first | ((with_reducible refine gate_callee (f := 36) rfl ?_); refine goesL_ (some 12) rfl rfl Tryd.func36 (by kernel_rfl) rfl #[.agg #[.int .u64 a0_0, .int .u64 a0_1, .bool a0_2], .int .u64 t180, .agg #[.int .u64 t181, .int .u64 t182, .int .u64 t183, .int .u64 t184]] rfl (by (try simp only [List.map_toArray, List.map_cons, List.map_nil]); first | done | rfl) ?_; (with_reducible refine (sponge_mixer_round.calls a0_0 a0_1 a0_2 t180 t181 t182 t183 t184 t185 t186 t187 t188 t189 _ A70.out).mono ?_); rintro e w77 ⟨rfl, hb⟩; refine ⟨_, rfl, ?_⟩; have n0_ := Aside0.mk (blk_below (g := g147) (o := .cells #[.int .u64 a0_0, .int .u64 a0_1, .bool a0_2] 45 (0, 0)) (by (with_reducible repeat first | refine blk_drewN ?_ _ | refine blk_drew ?_ | refine blk_alloc ?_ _); refine blk_far ?_ NB147_148.out _; (with_reducible repeat first | refine blk_drewN ?_ _ | refine blk_drew ?_ | refine blk_alloc ?_ _); refine blk_far ?_ NB147_148.out _; (with_reducible repeat first | refine blk_drewN ?_ _ | refine blk_drew ?_ | refine blk_alloc ?_ _); refine blk_far ?_ NB147_148.out _; (with_reducible repeat first | refine blk_drewN ?_ _ | refine blk_drew ?_ | refine blk_alloc ?_ _); refine blk_far ?_ NB147_148.out _; (with_reducible repeat first | refine blk_drewN ?_ _ | refine blk_drew ?_ | refine blk_alloc ?_ _); exact B147.out) hb); have n1_ := Aside0.mk (blk_below (g := g148) (o := .cells #[.int .u64 t181, .int .u64 t182, .int .u64 t183, .int .u64 t184] 23 (0, 0)) (by (with_reducible repeat first | refine blk_drewN ?_ _ | refine blk_drew ?_ | refine blk_alloc ?_ _); refine blk_put (cs := #[.int .u64 t181, .int .u64 t182, .int .u64 t183, .int .u64 t179]) ?_ 3 _ rfl; (with_reducible repeat first | refine blk_drewN ?_ _ | refine blk_drew ?_ | refine blk_alloc ?_ _); refine blk_put (cs := #[.int .u64 t181, .int .u64 t182, .int .u64 t178, .int .u64 t179]) ?_ 2 _ rfl; (with_reducible repeat first | refine blk_drewN ?_ _ | refine blk_drew ?_ | refine blk_alloc ?_ _); refine blk_put (cs := #[.int .u64 t181, .int .u64 t177, .int .u64 t178, .int .u64 t179]) ?_ 1 _ rfl; (with_reducible repeat first | refine blk_drewN ?_ _ | refine blk_drew ?_ | refine blk_alloc ?_ _); refine blk_put (cs := #[.int .u64 t176, .int .u64 t177, .int .u64 t178, .int .u64 t179]) ?_ 0 _ rfl; (with_reducible repeat first | refine blk_drewN ?_ _ | refine blk_drew ?_ | refine blk_alloc ?_ _); exact B148.out) hb); have n2_ := Aside0.mk (blk_below (g := g149) (o := .cells #[.int .u64 0, .int .u64 0, .int .u64 0, .int .u64 0] 23 (0, 0)) (by (with_reducible repeat first | refine blk_drewN ?_ _ | refine blk_drew ?_ | refine blk_alloc ?_ _); refine blk_far ?_ NB149_148.out _; (with_reducible repeat first | refine blk_drewN ?_ _ | refine blk_drew ?_ | refine blk_alloc ?_ _); refine blk_far ?_ NB149_148.out _; (with_reducible repeat first | refine blk_drewN ?_ _ | refine blk_drew ?_ | refine blk_alloc ?_ _); refine blk_far ?_ NB149_148.out _; (with_reducible repeat first | refine blk_drewN ?_ _ | refine blk_drew ?_ | refine blk_alloc ?_ _); refine blk_far ?_ NB149_148.out _; (with_reducible repeat first | refine blk_drewN ?_ _ | refine blk_drew ?_ | refine blk_alloc ?_ _); exact B149.out) hb); have n3_ := Aside0.mk (below_step (by repeat (first | (with_reducible first | exact HB.out | apply below_alloc | apply pw_below_drewN | apply below_drew1 | refine below_set ?_ GE147.out | refine below_set ?_ GE148.out | refine below_set ?_ GE149.out) | exact HB.out)) hb); clear B147; clear B148; clear B149; clear HB; have B147 := n0_; have B148 := n1_; have B149 := n2_; have HB := n3_; clear n0_ n1_ n2_ n3_; (try clear hb); (try clear hb2); (try clear hk); (try clear hi); have hcz78_0 : w77.cell? ⟨g148, 0, none⟩ = some (.int .u64 t181) := bq_ B148 0; have hcz78_1 : w77.cell? ⟨g148, 1, none⟩ = some (.int .u64 t182) := bq_ B148 1; have hcz78_2 : w77.cell? ⟨g148, 2, none⟩ = some (.int .u64 t183) := bq_ B148 2; have hcz78_3 : w77.cell? ⟨g148, 3, none⟩ = some (.int .u64 t184) := bq_ B148 3; have hfz78_0 := blk_frozen B148.out 0; have hfz78_1 := blk_frozen B148.out 1; have hfz78_2 := blk_frozen B148.out 2; have hfz78_3 := blk_frozen B148.out 3))
 rw [rounds_succ]
 have H := HC71.out
 clear HC71
 simp only [Option.some.injEq, Prod.mk.injEq] at H
 obtain ⟨rfl, rfl, rfl, rfl⟩ := H
 have hnb79 := NB148_147.out
 have hnc79 := NB147_148.out
 have hnb80 := NB148_149.out
 have hnc80 := NB149_148.out
 have hcz81_0 : w77.cell? ⟨g148, 0, none⟩ = some (.int .u64 t181) := bq_ B148 0
 have hcz81_1 : w77.cell? ⟨g148, 1, none⟩ = some (.int .u64 t182) := bq_ B148 1
 have hcz81_2 : w77.cell? ⟨g148, 2, none⟩ = some (.int .u64 t183) := bq_ B148 2
 have hcz81_3 : w77.cell? ⟨g148, 3, none⟩ = some (.int .u64 t184) := bq_ B148 3
 have hfz81_0 := blk_frozen B148.out 0
 have hfz81_1 := blk_frozen B148.out 1
 have hfz81_2 := blk_frozen B148.out 2
 have hfz81_3 := blk_frozen B148.out 3
 have hnb82 := NB149_147.out
 have hnc82 := NB147_149.out
 have hcz83_0 : w77.cell? ⟨g149, 0, none⟩ = some (.int .u64 0) := bq_ B149 0
 have hcz83_1 : w77.cell? ⟨g149, 1, none⟩ = some (.int .u64 0) := bq_ B149 1
 have hcz83_2 : w77.cell? ⟨g149, 2, none⟩ = some (.int .u64 0) := bq_ B149 2
 have hcz83_3 : w77.cell? ⟨g149, 3, none⟩ = some (.int .u64 0) := bq_ B149 3
 have hfz83_0 := blk_frozen B149.out 0
 have hfz83_1 := blk_frozen B149.out 1
 have hfz83_2 := blk_frozen B149.out 2
 have hfz83_3 := blk_frozen B149.out 3
 go_wp2
 refine bodyPost_ret (results_cell_row rfl _ _ g149 23 #[.int .u64 t186, .int .u64 t187, .int .u64 t188, .int .u64 t189] (0, 0) _ rfl (by (with_reducible repeat first | refine blk_drewN ?_ _ | refine blk_drew ?_ | refine blk_alloc ?_ _); refine blk_put (cs := #[.int .u64 t186, .int .u64 t187, .int .u64 t188, .int .u64 0]) ?_ 3 _ rfl; (with_reducible repeat first | refine blk_drewN ?_ _ | refine blk_drew ?_ | refine blk_alloc ?_ _); refine blk_put (cs := #[.int .u64 t186, .int .u64 t187, .int .u64 0, .int .u64 0]) ?_ 2 _ rfl; (with_reducible repeat first | refine blk_drewN ?_ _ | refine blk_drew ?_ | refine blk_alloc ?_ _); refine blk_put (cs := #[.int .u64 t186, .int .u64 0, .int .u64 0, .int .u64 0]) ?_ 1 _ rfl; (with_reducible repeat first | refine blk_drewN ?_ _ | refine blk_drew ?_ | refine blk_alloc ?_ _); refine blk_put (cs := #[.int .u64 0, .int .u64 0, .int .u64 0, .int .u64 0]) ?_ 0 _ rfl; (with_reducible repeat first | refine blk_drewN ?_ _ | refine blk_drew ?_ | refine blk_alloc ?_ _); refine blk_far ?_ NB149_148.out _; (with_reducible repeat first | refine blk_drewN ?_ _ | refine blk_drew ?_ | refine blk_alloc ?_ _); refine blk_far ?_ NB149_148.out _; (with_reducible repeat first | refine blk_drewN ?_ _ | refine blk_drew ?_ | refine blk_alloc ?_ _); refine blk_far ?_ NB149_148.out _; (with_reducible repeat first | refine blk_drewN ?_ _ | refine blk_drew ?_ | refine blk_alloc ?_ _); refine blk_far ?_ NB149_148.out _; (with_reducible repeat first | refine blk_drewN ?_ _ | refine blk_drew ?_ | refine blk_alloc ?_ _); exact B149.out) Tryd.underlying23 rfl (by kernel_rfl)) rfl ?_
 exact ⟨by first | rfl | (simp [errW_none, errW_some] <;> rfl) | (simp [*, errW_none, errW_some] <;> rfl), by repeat (first | (with_reducible first | exact HB.out | apply below_alloc | apply pw_below_drewN | apply below_drew1 | refine below_set ?_ GE147.out | refine below_set ?_ GE148.out | refine below_set ?_ GE149.out) | exact HB.out)⟩

end Go.Proofs.YtjfekjblnoagkaaDoor.Q
end
section
namespace Go.Proofs.YtjfekjblnoagkaaDoor.Q
open Go.RowKit Go.Proofs.YtjfekjblnoagkaaDoorW.PrintWords Go.Proofs.YtjfekjblnoagkaaDoorW.PrintLast Go.Proofs.YtjfekjblnoagkaaDoorW.PrintMore
attribute [local go_sem] max2_int min2_int max_two min_two max_three min_three max_four min_four   -- for this text's walks alone
set_option linter.unusedVariables false
set_option linter.unusedSimpArgs false

/-! ### sponge_Perm: function 19 -/
def sponge_Perm.f (a0 : Int) (a1_0 : Int) (a1_1 : Int) (a1_2 : Int) (a1_3 : Int) : Option (Int × Int × Int × Int) := (field_Valid.f a0).bind fun t218 => (if t218 = true then ((sponge_in.f a0).bind fun bt219 => ((sponge_mixer_reduced.f bt219.1 bt219.2.1 bt219.2.2 a1_0 a1_1 a1_2 a1_3).bind fun bt223 => ((sponge_mixer_perm.f bt219.1 bt219.2.1 bt219.2.2 bt223.1 bt223.2.1 bt223.2.2.1 bt223.2.2.2).bind fun bt227 => (some (bt227.1, bt227.2.1, bt227.2.2.1, bt227.2.2.2))))) else (some (0, 0, 0, 0)))
set_option maxHeartbeats 8000000 in
set_option maxRecDepth 100000 in
theorem sponge_Perm.calls (a0 : Int) (a1_0 : Int) (a1_1 : Int) (a1_2 : Int) (a1_3 : Int) (r1 : Int) (r2 : Int) (r3 : Int) (r4 : Int) (w : World) (hrG : GL w) (h : sponge_Perm.f a0 a1_0 a1_1 a1_2 a1_3 = some (r1, r2, r3, r4)) :
    Calls Tryd.prog 19 #[.int .i64 a0, .agg #[.int .u64 a1_0, .int .u64 a1_1, .int .u64 a1_2, .int .u64 a1_3]] w fun e w' => e = .returned (.agg #[.int .u64 r1, .int .u64 r2, .int .u64 r3, .int .u64 r4]) ∧ Below w.heap.size w w' := by
  have hu23 := Tryd.underlying23
  have hu45 := Tryd.underlying45
  have HRG := Aside0.mk hrG
  clear hrG
  have HB := Aside0.mk (Below.refl w.heap.size w)
  have H : ((field_Valid.f a0).bind fun t218 => (if t218 = true then ((sponge_in.f a0).bind fun bt219 => ((sponge_mixer_reduced.f bt219.1 bt219.2.1 bt219.2.2 a1_0 a1_1 a1_2 a1_3).bind fun bt223 => ((sponge_mixer_perm.f bt219.1 bt219.2.1 bt219.2.2 bt223.1 bt223.2.1 bt223.2.2.1 bt223.2.2.2).bind fun bt227 => (some (bt227.1, bt227.2.1, bt227.2.2.1, bt227.2.2.2))))) else (some (0, 0, 0, 0)))) = some (r1, r2, r3, r4) := h
  clear h
  replace H := Option.bind_eq_some_iff.mp H
  obtain ⟨t218, A30, H⟩ := H
  replace H : (if t218 = true then ((sponge_in.f a0).bind fun bt219 => ((sponge_mixer_reduced.f bt219.1 bt219.2.1 bt219.2.2 a1_0 a1_1 a1_2 a1_3).bind fun bt223 => ((sponge_mixer_perm.f bt219.1 bt219.2.1 bt219.2.2 bt223.1 bt223.2.1 bt223.2.2.1 bt223.2.2.2).bind fun bt227 => (some (bt227.1, bt227.2.1, bt227.2.2.1, bt227.2.2.2))))) else (some (0, 0, 0, 0))) = some (r1, r2, r3, r4) := H
  have A3 := Aside0.mk A30
  clear A30
  by_cases c4 : t218 = true
  · subst c4
    have H1 : ((sponge_in.f a0).bind fun bt219 => ((sponge_mixer_reduced.f bt219.1 bt219.2.1 bt219.2.2 a1_0 a1_1 a1_2 a1_3).bind fun bt223 => ((sponge_mixer_perm.f bt219.1 bt219.2.1 bt219.2.2 bt223.1 bt223.2.1 bt223.2.2.1 bt223.2.2.2).bind fun bt227 => (some (bt227.1, bt227.2.1, bt227.2.2.1, bt227.2.2.2))))) = some (r1, r2, r3, r4) := by rw [if_pos rfl] at H; exact H
    clear H
    have H := H1
    clear H1
    replace H := Option.bind_eq_some_iff.mp H
    obtain ⟨⟨t219, t220, t221⟩, A50, H⟩ := H
    replace H : ((sponge_mixer_reduced.f t219 t220 t221 a1_0 a1_1 a1_2 a1_3).bind fun bt223 => ((sponge_mixer_perm.f t219 t220 t221 bt223.1 bt223.2.1 bt223.2.2.1 bt223.2.2.2).bind fun bt227 => (some (bt227.1, bt227.2.1, bt227.2.2.1, bt227.2.2.2)))) = some (r1, r2, r3, r4) := H
    have A5 := Aside0.mk A50
    clear A50
    replace H := Option.bind_eq_some_iff.mp H
    obtain ⟨⟨t223, t224, t225, t226⟩, A60, H⟩ := H
    replace H : ((sponge_mixer_perm.f t219 t220 t221 t223 t224 t225 t226).bind fun bt227 => (some (bt227.1, bt227.2.1, bt227.2.2.1, bt227.2.2.2))) = some (r1, r2, r3, r4) := H
    have A6 := Aside0.mk A60
    clear A60
    replace H := Option.bind_eq_some_iff.mp H
    obtain ⟨⟨t227, t228, t229, t230⟩, A70, H⟩ := H
    replace H : (some (t227, t228, t229, t230)) = some (r1, r2, r3, r4) := H
    have A7 := Aside0.mk A70
    clear A70
    simp only [Option.some.injEq, Prod.mk.injEq] at H
    obtain ⟨rfl, rfl, rfl, rfl⟩ := H
    go_enter Tryd.func19, Tryd.ntmps19
    try go_wp2_with (first | ((with_reducible refine gate_dst (N := 3) rfl ?_); refine box_event ?hg (N := 3) ?hd (cs := #[.int .u64 a1_0, .int .u64 a1_1, .int .u64 a1_2, .int .u64 a1_3]) (t := 23) ?hr ?_; (case hd => rfl); (case hg => rfl); (case hr => first | (go_simp; done) | (go_simp; rfl)); intro gb216 hg w8 hbox hb; have n0_ := Aside0.mk (below_step (by repeat (first | (with_reducible first | exact HB.out | apply below_alloc | apply pw_below_drewN | apply below_drew1) | exact HB.out)) hb); have n1_ := Aside0.mk (hbox); have n2_ := Aside0.mk ((by rw [hg]; exact (below_size (by repeat (first | (with_reducible first | exact HB.out | apply below_alloc | apply pw_below_drewN | apply below_drew1) | exact HB.out))) : w.heap.size ≤ gb216)); have n3_ := Aside0.mk ((by rw [hg]; exact (below_size (by repeat (first | (with_reducible first | exact HB.out | apply below_alloc | apply pw_below_drewN | apply below_drew1) | exact HB.out))) : w.heap.size ≤ gb216)); clear HB; have HB := n0_; have BK216 := n1_; have GW216 := n2_; have GE216 := n3_; clear n0_ n1_ n2_ n3_; clear hb hbox hg) | ((with_reducible refine gate_dst (N := 4) rfl ?_); refine box_event ?hg (N := 4) ?hd (cs := #[.int .u64 0, .int .u64 0, .int .u64 0, .int .u64 0]) (t := 23) ?hr ?_; (case hd => rfl); (case hg => rfl); (case hr => first | (go_simp; done) | (go_simp; rfl)); intro gb217 hg w9 hbox hb; have n0_ := Aside0.mk (blk_below (g := gb216) (o := .cells #[.int .u64 a1_0, .int .u64 a1_1, .int .u64 a1_2, .int .u64 a1_3] 23 (0, 0)) (by (with_reducible repeat (first | refine blk_drewN ?_ _ | refine blk_drew ?_ | refine blk_alloc ?_ _)); exact BK216.out) hb); have n1_ := Aside0.mk (below_step (by repeat (first | (with_reducible first | exact HB.out | apply below_alloc | apply pw_below_drewN | apply below_drew1 | refine below_set ?_ GE216.out) | exact HB.out)) hb); have n2_ := Aside0.mk (hbox); have n3_ := Aside0.mk ((by rw [hg]; exact (below_size (by repeat (first | (with_reducible first | exact HB.out | apply below_alloc | apply pw_below_drewN | apply below_drew1 | refine below_set ?_ GE216.out) | exact HB.out))) : w.heap.size ≤ gb217)); have n4_ := Aside0.mk ((by rw [hg]; exact (below_size (by repeat (first | (with_reducible first | exact HB.out | apply below_alloc | apply pw_below_drewN | apply below_drew1 | refine below_set ?_ GE216.out) | exact HB.out))) : w.heap.size ≤ gb217)); have n5_ := Aside0.mk ((by rw [hg]; exact Nat.ne_of_lt (blk_lt (g := gb216) (o := .cells #[.int .u64 a1_0, .int .u64 a1_1, .int .u64 a1_2, .int .u64 a1_3] 23 (0, 0)) (by (with_reducible repeat (first | refine blk_drewN ?_ _ | refine blk_drew ?_ | refine blk_alloc ?_ _)); exact BK216.out)) : gb216 ≠ gb217)); have n6_ := Aside0.mk ((by rw [hg]; exact Nat.ne_of_gt (blk_lt (g := gb216) (o := .cells #[.int .u64 a1_0, .int .u64 a1_1, .int .u64 a1_2, .int .u64 a1_3] 23 (0, 0)) (by (with_reducible repeat (first | refine blk_drewN ?_ _ | refine blk_drew ?_ | refine blk_alloc ?_ _)); exact BK216.out)) : gb217 ≠ gb216)); clear BK216; clear HB; have BK216 := n0_; have HB := n1_; have BK217 := n2_; have GW217 := n3_; have GE217 := n4_; have NB216_217 := n5_; have NB217_216 := n6_; clear n0_ n1_ n2_ n3_ n4_ n5_ n6_; clear hb hbox hg) | ((with_reducible refine gate_callee (f := 41) rfl ?_); refine goesL_ (some 7) rfl rfl Tryd.func41 (by kernel_rfl) rfl #[.int .i64 a0] rfl (by (try simp only [List.map_toArray, List.map_cons, List.map_nil]); first | done | rfl | (simp only [List.length_drop, List.length_take]; rfl) | (go_simp; done) | (go_simp; rw [Int.tmod_eq_emod_of_nonneg (by omega)]; omega)) ?_; (with_reducible refine (field_Valid.calls a0 true _ A3.out).mono ?_); rintro e w' ⟨rfl, ⟨nd, rfl⟩⟩; refine ⟨_, rfl, ?_⟩; (try (rw [drewN_self w9]; generalize hq_ : World.drewN w9 _ = w9; have n0_ : Aside0 (w9.heap[gb216]? = some (.cells #[.int .u64 a1_0, .int .u64 a1_1, .int .u64 a1_2, .int .u64 a1_3] 23 (0, 0))) := ⟨by rw [← hq_]; exact (by (with_reducible repeat (first | refine blk_drewN ?_ _ | refine blk_drew ?_ | refine blk_alloc ?_ _)); exact BK216.out)⟩; have n1_ : Aside0 (w9.heap[gb217]? = some (.cells #[.int .u64 0, .int .u64 0, .int .u64 0, .int .u64 0] 23 (0, 0))) := ⟨by rw [← hq_]; exact (by (with_reducible repeat (first | refine blk_drewN ?_ _ | refine blk_drew ?_ | refine blk_alloc ?_ _)); exact BK217.out)⟩; have n2_ : Aside0 (Below w.heap.size w w9) := ⟨by rw [← hq_]; exact (by repeat (first | (with_reducible first | exact HB.out | apply below_alloc | apply pw_below_drewN | apply below_drew1 | refine below_set ?_ GE216.out | refine below_set ?_ GE217.out) | exact HB.out))⟩; clear BK216 BK217 HB hq_; have BK216 := n0_; have BK217 := n1_; have HB := n2_; clear n0_ n1_ n2_))) | ((with_reducible refine gate_callee (f := 35) rfl ?_); refine goesL_ (some 11) rfl rfl Tryd.func35 (by kernel_rfl) rfl #[.int .i64 a0] rfl (by (try simp only [List.map_toArray, List.map_cons, List.map_nil]); first | done | rfl | (simp only [List.length_drop, List.length_take]; rfl) | (go_simp; done) | (go_simp; rw [Int.tmod_eq_emod_of_nonneg (by omega)]; omega)) ?_; (with_reducible refine (sponge_in.calls a0 t219 t220 t221 _ ?side1 A5.out).mono ?_); (case side1 => repeat (first | exact (GL.below HRG.out HB.out) | (with_reducible refine GL.alloc ?_ _) | (with_reducible refine GL.drewN ?_ _) | (with_reducible refine GL.drew ?_))); rintro e w10 ⟨rfl, hb⟩; refine ⟨_, rfl, ?_⟩; have n0_ := Aside0.mk (blk_below (g := gb216) (o := .cells #[.int .u64 a1_0, .int .u64 a1_1, .int .u64 a1_2, .int .u64 a1_3] 23 (0, 0)) (by (with_reducible repeat (first | refine blk_drewN ?_ _ | refine blk_drew ?_ | refine blk_alloc ?_ _)); exact BK216.out) hb); have n1_ := Aside0.mk (blk_below (g := gb217) (o := .cells #[.int .u64 0, .int .u64 0, .int .u64 0, .int .u64 0] 23 (0, 0)) (by (with_reducible repeat (first | refine blk_drewN ?_ _ | refine blk_drew ?_ | refine blk_alloc ?_ _)); exact BK217.out) hb); have n2_ := Aside0.mk (below_step (by repeat (first | (with_reducible first | exact HB.out | apply below_alloc | apply pw_below_drewN | apply below_drew1 | refine below_set ?_ GE216.out | refine below_set ?_ GE217.out) | exact HB.out)) hb); clear BK216; clear BK217; clear HB; have BK216 := n0_; have BK217 := n1_; have HB := n2_; clear n0_ n1_ n2_; (try clear hb); (try clear hb2); (try clear hk); (try clear hi)) | ((with_reducible refine gate_dst (N := 5) rfl ?_); refine box_event ?hg (N := 5) ?hd (cs := #[.int .u64 0, .int .u64 0, .bool false]) (t := 45) ?hr ?_; (case hd => rfl); (case hg => rfl); (case hr => first | (go_simp; done) | (go_simp; rfl)); intro gb222 hg w11 hbox hb; have n0_ := Aside0.mk (blk_below (g := gb216) (o := .cells #[.int .u64 a1_0, .int .u64 a1_1, .int .u64 a1_2, .int .u64 a1_3] 23 (0, 0)) (by (with_reducible repeat (first | refine blk_drewN ?_ _ | refine blk_drew ?_ | refine blk_alloc ?_ _)); exact BK216.out) hb); have n1_ := Aside0.mk (blk_below (g := gb217) (o := .cells #[.int .u64 0, .int .u64 0, .int .u64 0, .int .u64 0] 23 (0, 0)) (by (with_reducible repeat (first | refine blk_drewN ?_ _ | refine blk_drew ?_ | refine blk_alloc ?_ _)); exact BK217.out) hb); have n2_ := Aside0.mk (below_step (by repeat (first | (with_reducible first | exact HB.out | apply below_alloc | apply pw_below_drewN | apply below_drew1 | refine below_set ?_ GE216.out | refine below_set ?_ GE217.out) | exact HB.out)) hb); have n3_ := Aside0.mk (hbox); have n4_ := Aside0.mk ((by rw [hg]; exact (below_size (by repeat (first | (with_reducible first | exact HB.out | apply below_alloc | apply pw_below_drewN | apply below_drew1 | refine below_set ?_ GE216.out | refine below_set ?_ GE217.out) | exact HB.out))) : w.heap.size ≤ gb222)); have n5_ := Aside0.mk ((by rw [hg]; exact (below_size (by repeat (first | (with_reducible first | exact HB.out | apply below_alloc | apply pw_below_drewN | apply below_drew1 | refine below_set ?_ GE216.out | refine below_set ?_ GE217.out) | exact HB.out))) : w.heap.size ≤ gb222)); have n6_ := Aside0.mk ((by rw [hg]; exact Nat.ne_of_lt (blk_lt (g := gb216) (o := .cells #[.int .u64 a1_0, .int .u64 a1_1, .int .u64 a1_2, .int .u64 a1_3] 23 (0, 0)) (by (with_reducible repeat (first | refine blk_drewN ?_ _ | refine blk_drew ?_ | refine blk_alloc ?_ _)); exact BK216.out)) : gb216 ≠ gb222)); have n7_ := Aside0.mk ((by rw [hg]; exact Nat.ne_of_gt (blk_lt (g := gb216) (o := .cells #[.int .u64 a1_0, .int .u64 a1_1, .int .u64 a1_2, .int .u64 a1_3] 23 (0, 0)) (by (with_reducible repeat (first | refine blk_drewN ?_ _ | refine blk_drew ?_ | refine blk_alloc ?_ _)); exact BK216.out)) : gb222 ≠ gb216)); have n8_ := Aside0.mk ((by rw [hg]; exact Nat.ne_of_lt (blk_lt (g := gb217) (o := .cells #[.int .u64 0, .int .u64 0, .int .u64 0, .int .u64 0] 23 (0, 0)) (by (with_reducible repeat (first | refine blk_drewN ?_ _ | refine blk_drew ?_ | refine blk_alloc ?_ _)); exact BK217.out)) : gb217 ≠ gb222)); have n9_ := Aside0.mk ((by rw [hg]; exact Nat.ne_of_gt (blk_lt (g := gb217) (o := .cells #[.int .u64 0, .int .u64 0, .int .u64 0, .int .u64 0] 23 (0, 0)) (by (with_reducible repeat (first | refine blk_drewN ?_ _ | refine blk_drew ?_ | refine blk_alloc ?_ _)); exact BK217.out)) : gb222 ≠ gb217)); clear BK216; clear BK217; clear HB; have BK216 := n0_; have BK217 := n1_; have HB := n2_; have BK222 := n3_; have GW222 := n4_; have GE222 := n5_; have NB216_222 := n6_; have NB222_216 := n7_; have NB217_222 := n8_; have NB222_217 := n9_; clear n0_ n1_ n2_ n3_ n4_ n5_ n6_ n7_ n8_ n9_; clear hb hbox hg; have hnb12 := NB222_216.out; have hnc12 := NB216_222.out; have hnb13 := NB222_217.out; have hnc13 := NB217_222.out; have hcz14_0 : w11.cell? ⟨gb222, 0, none⟩ = some (.int .u64 0) := (blk_cell BK222.out 0).trans rfl; have hcz14_1 : w11.cell? ⟨gb222, 1, none⟩ = some (.int .u64 0) := (blk_cell BK222.out 1).trans rfl; have hcz14_2 : w11.cell? ⟨gb222, 2, none⟩ = some (.bool false) := (blk_cell BK222.out 2).trans rfl; have hfz14_0 := blk_frozen BK222.out 0; have hfz14_1 := blk_frozen BK222.out 1; have hfz14_2 := blk_frozen BK222.out 2))
    have n0_ : Aside0 ((((w11.setCell ⟨gb222, 0, none⟩ (.int .u64 t219)).setCell ⟨gb222, 1, none⟩ (.int .u64 t220)).setCell ⟨gb222, 2, none⟩ (.bool t221)).heap[gb216]? = some (.cells #[.int .u64 a1_0, .int .u64 a1_1, .int .u64 a1_2, .int .u64 a1_3] 23 (0, 0))) := ⟨by (with_reducible repeat (first | refine blk_drewN ?_ _ | refine blk_drew ?_ | refine blk_alloc ?_ _)); refine blk_far ?_ NB216_222.out _; (with_reducible repeat (first | refine blk_drewN ?_ _ | refine blk_drew ?_ | refine blk_alloc ?_ _)); refine blk_far ?_ NB216_222.out _; (with_reducible repeat (first | refine blk_drewN ?_ _ | refine blk_drew ?_ | refine blk_alloc ?_ _)); refine blk_far ?_ NB216_222.out _; (with_reducible repeat (first | refine blk_drewN ?_ _ | refine blk_drew ?_ | refine blk_alloc ?_ _)); exact BK216.out⟩
    have n1_ : Aside0 ((((w11.setCell ⟨gb222, 0, none⟩ (.int .u64 t219)).setCell ⟨gb222, 1, none⟩ (.int .u64 t220)).setCell ⟨gb222, 2, none⟩ (.bool t221)).heap[gb217]? = some (.cells #[.int .u64 0, .int .u64 0, .int .u64 0, .int .u64 0] 23 (0, 0))) := ⟨by (with_reducible repeat (first | refine blk_drewN ?_ _ | refine blk_drew ?_ | refine blk_alloc ?_ _)); refine blk_far ?_ NB217_222.out _; (with_reducible repeat (first | refine blk_drewN ?_ _ | refine blk_drew ?_ | refine blk_alloc ?_ _)); refine blk_far ?_ NB217_222.out _; (with_reducible repeat (first | refine blk_drewN ?_ _ | refine blk_drew ?_ | refine blk_alloc ?_ _)); refine blk_far ?_ NB217_222.out _; (with_reducible repeat (first | refine blk_drewN ?_ _ | refine blk_drew ?_ | refine blk_alloc ?_ _)); exact BK217.out⟩
    have n2_ : Aside0 ((((w11.setCell ⟨gb222, 0, none⟩ (.int .u64 t219)).setCell ⟨gb222, 1, none⟩ (.int .u64 t220)).setCell ⟨gb222, 2, none⟩ (.bool t221)).heap[gb222]? = some (.cells #[.int .u64 t219, .int .u64 t220, .bool t221] 45 (0, 0))) := ⟨by (with_reducible repeat (first | refine blk_drewN ?_ _ | refine blk_drew ?_ | refine blk_alloc ?_ _)); refine blk_put (cs := #[.int .u64 t219, .int .u64 t220, .bool false]) ?_ 2 _ rfl; (with_reducible repeat (first | refine blk_drewN ?_ _ | refine blk_drew ?_ | refine blk_alloc ?_ _)); refine blk_put (cs := #[.int .u64 t219, .int .u64 0, .bool false]) ?_ 1 _ rfl; (with_reducible repeat (first | refine blk_drewN ?_ _ | refine blk_drew ?_ | refine blk_alloc ?_ _)); refine blk_put (cs := #[.int .u64 0, .int .u64 0, .bool false]) ?_ 0 _ rfl; (with_reducible repeat (first | refine blk_drewN ?_ _ | refine blk_drew ?_ | refine blk_alloc ?_ _)); exact BK222.out⟩
    have n3_ : Aside0 (Below w.heap.size w (((w11.setCell ⟨gb222, 0, none⟩ (.int .u64 t219)).setCell ⟨gb222, 1, none⟩ (.int .u64 t220)).setCell ⟨gb222, 2, none⟩ (.bool t221))) := ⟨by repeat (first | (with_reducible first | exact HB.out | apply below_alloc | apply pw_below_drewN | apply below_drew1 | refine below_set ?_ GE216.out | refine below_set ?_ GE217.out | refine below_set ?_ GE222.out) | exact HB.out)⟩
    (try clear BK216)
    (try clear BK217)
    (try clear BK222)
    (try clear HB)
    generalize (((w11.setCell ⟨gb222, 0, none⟩ (.int .u64 t219)).setCell ⟨gb222, 1, none⟩ (.int .u64 t220)).setCell ⟨gb222, 2, none⟩ (.bool t221)) = w15 at n0_ n1_ n2_ n3_ ⊢
    have BK216 := n0_
    have BK217 := n1_
    have BK222 := n2_
    have HB := n3_
    clear n0_ n1_ n2_ n3_
    have n0_ := Aside0.mk (blk_drew BK216.out)
    have n1_ := Aside0.mk (blk_drew BK217.out)
    have n2_ := Aside0.mk (blk_drew BK222.out)
    have n3_ := Aside0.mk (below_drew1 HB.out)
    clear BK216
    clear BK217
    clear BK222
    clear HB
    have BK216 := n0_
    have BK217 := n1_
    have BK222 := n2_
    have HB := n3_
    clear n0_ n1_ n2_ n3_
    refine start_ (n := 6) (S := fun w' => w'.cell? ⟨gb222, 0, none⟩ = some (.int .u64 t219) ∧ w'.cell? ⟨gb222, 1, none⟩ = some (.int .u64 t220) ∧ w'.cell? ⟨gb222, 2, none⟩ = some (.bool t221) ∧ w'.cell? ⟨gb216, 0, none⟩ = some (.int .u64 a1_0) ∧ w'.cell? ⟨gb216, 1, none⟩ = some (.int .u64 a1_1) ∧ w'.cell? ⟨gb216, 2, none⟩ = some (.int .u64 a1_2) ∧ w'.cell? ⟨gb216, 3, none⟩ = some (.int .u64 a1_3)) (ds := []) #[false, false, false, false, false, false] (by kernel_rfl) rfl rfl ⟨(blk_cell BK222.out 0).trans rfl, (blk_cell BK222.out 1).trans rfl, (blk_cell BK222.out 2).trans rfl, (blk_cell BK216.out 0).trans rfl, (blk_cell BK216.out 1).trans rfl, (blk_cell BK216.out 2).trans rfl, (blk_cell BK216.out 3).trans rfl⟩ (fun hHeld => ?_)
    generalize w15.drew = w16 at BK216 BK217 BK222 HB hHeld ⊢
    refine take_ (i := 0) (N := some 12) (v := ?_) (a' := ?_) #[true, false, false, false, false, false] rfl rfl (by kernel_rfl) (fun _ _ _ h => h) (Or.inl ⟨by rfl, ?_⟩) hHeld ?_ ?_
    rotate_left
    · rintro w' ⟨s0, s1, s2, s3, s4, s5, s6⟩
      go_simp
      with_reducible rfl
    rotate_left
    · simp only [Act.put, List.setIfInBounds_toArray, List.set_cons_zero, List.set_cons_succ, i64_w, i32_w]
      rfl
    refine take_ (i := 1) (N := some 13) (v := ?_) (a' := ?_) #[true, true, false, false, false, false] rfl rfl (by kernel_rfl) (fun _ _ _ h => h) (Or.inl ⟨by rfl, ?_⟩) hHeld ?_ ?_
    rotate_left
    · rintro w' ⟨s0, s1, s2, s3, s4, s5, s6⟩
      go_simp
      with_reducible rfl
    rotate_left
    · simp only [Act.put, List.setIfInBounds_toArray, List.set_cons_zero, List.set_cons_succ, i64_w, i32_w]
      rfl
    refine take_ (i := 2) (N := some 14) (v := ?_) (a' := ?_) #[true, true, true, false, false, false] rfl rfl (by kernel_rfl) (fun _ _ _ h => h) (Or.inl ⟨by rfl, ?_⟩) hHeld ?_ ?_
    rotate_left
    · rintro w' ⟨s0, s1, s2, s3, s4, s5, s6⟩
      go_simp
      with_reducible rfl
    rotate_left
    · simp only [Act.put, List.setIfInBounds_toArray, List.set_cons_zero, List.set_cons_succ, i64_w, i32_w]
      rfl
    refine one_ (i := 3) (N := some 15) #[true, true, true, true, false, false] rfl rfl (by kernel_rfl) (by decide) (fun K hK => ?_)
    refine goes_ Tryd.func37 (by kernel_rfl) rfl #[.agg #[.int .u64 t219, .int .u64 t220, .bool t221], .agg #[.int .u64 a1_0, .int .u64 a1_1, .int .u64 a1_2, .int .u64 a1_3]] (by rfl) rfl rfl (by (try simp only [List.map_toArray, List.map_cons, List.map_nil]); first | done | rfl | (simp only [List.length_drop, List.length_take]; rfl) | (go_simp; done) | (go_simp; rw [Int.tmod_eq_emod_of_nonneg (by omega)]; omega)) ?_
    with_reducible refine (sponge_mixer_reduced.calls t219 t220 t221 a1_0 a1_1 a1_2 a1_3 t223 t224 t225 t226 _ A6.out).mono ?_
    rintro e w17 ⟨rfl, hb⟩
    refine ⟨_, rfl, ?_⟩
    have n0_ := Aside0.mk (blk_below (g := gb216) (o := .cells #[.int .u64 a1_0, .int .u64 a1_1, .int .u64 a1_2, .int .u64 a1_3] 23 (0, 0)) (by (with_reducible repeat (first | refine blk_drewN ?_ _ | refine blk_drew ?_ | refine blk_alloc ?_ _)); exact BK216.out) hb)
    have n1_ := Aside0.mk (blk_below (g := gb217) (o := .cells #[.int .u64 0, .int .u64 0, .int .u64 0, .int .u64 0] 23 (0, 0)) (by (with_reducible repeat (first | refine blk_drewN ?_ _ | refine blk_drew ?_ | refine blk_alloc ?_ _)); exact BK217.out) hb)
    have n2_ := Aside0.mk (blk_below (g := gb222) (o := .cells #[.int .u64 t219, .int .u64 t220, .bool t221] 45 (0, 0)) (by (with_reducible repeat (first | refine blk_drewN ?_ _ | refine blk_drew ?_ | refine blk_alloc ?_ _)); exact BK222.out) hb)
    have n3_ := Aside0.mk (below_step (by repeat (first | (with_reducible first | exact HB.out | apply below_alloc | apply pw_below_drewN | apply below_drew1 | refine below_set ?_ GE216.out | refine below_set ?_ GE217.out | refine below_set ?_ GE222.out) | exact HB.out)) hb)
    clear BK216
    clear BK217
    clear BK222
    clear HB
    have BK216 := n0_
    have BK217 := n1_
    have BK222 := n2_
    have HB := n3_
    clear n0_ n1_ n2_ n3_
    (try clear hb)
    (try clear hb2)
    (try clear hk)
    (try clear hi)
    refine hK.out _ _ ⟨(blk_cell BK222.out 0).trans rfl, (blk_cell BK222.out 1).trans rfl, (blk_cell BK222.out 2).trans rfl, (blk_cell BK216.out 0).trans rfl, (blk_cell BK216.out 1).trans rfl, (blk_cell BK216.out 2).trans rfl, (blk_cell BK216.out 3).trans rfl⟩ (fun hHeld => ?_)
    clear hK K
    refine norm_ (a' := ?_) ?_ ?_
    rotate_left
    · show Act.put _ (some 15) _ = _
      simp only [Act.put, List.setIfInBounds_toArray, List.set_cons_zero, List.set_cons_succ, i64_w, i32_w]
      rfl
    refine one_ (i := 4) (N := some 16) #[true, true, true, true, true, false] rfl rfl (by kernel_rfl) (by decide) (fun K hK => ?_)
    refine goes_ Tryd.func42 (by kernel_rfl) rfl #[.agg #[.int .u64 t219, .int .u64 t220, .bool t221], .agg #[.int .u64 t223, .int .u64 t224, .int .u64 t225, .int .u64 t226]] (by rfl) rfl rfl (by (try simp only [List.map_toArray, List.map_cons, List.map_nil]); first | done | rfl | (simp only [List.length_drop, List.length_take]; rfl) | (go_simp; done) | (go_simp; rw [Int.tmod_eq_emod_of_nonneg (by omega)]; omega)) ?_
    with_reducible refine (sponge_mixer_perm.calls t219 t220 t221 t223 t224 t225 t226 t227 t228 t229 t230 _ A7.out).mono ?_
    rintro e w18 ⟨rfl, hb⟩
    refine ⟨_, rfl, ?_⟩
    have n0_ := Aside0.mk (blk_below (g := gb216) (o := .cells #[.int .u64 a1_0, .int .u64 a1_1, .int .u64 a1_2, .int .u64 a1_3] 23 (0, 0)) (by (with_reducible repeat (first | refine blk_drewN ?_ _ | refine blk_drew ?_ | refine blk_alloc ?_ _)); exact BK216.out) hb)
    have n1_ := Aside0.mk (blk_below (g := gb217) (o := .cells #[.int .u64 0, .int .u64 0, .int .u64 0, .int .u64 0] 23 (0, 0)) (by (with_reducible repeat (first | refine blk_drewN ?_ _ | refine blk_drew ?_ | refine blk_alloc ?_ _)); exact BK217.out) hb)
    have n2_ := Aside0.mk (blk_below (g := gb222) (o := .cells #[.int .u64 t219, .int .u64 t220, .bool t221] 45 (0, 0)) (by (with_reducible repeat (first | refine blk_drewN ?_ _ | refine blk_drew ?_ | refine blk_alloc ?_ _)); exact BK222.out) hb)
    have n3_ := Aside0.mk (below_step (by repeat (first | (with_reducible first | exact HB.out | apply below_alloc | apply pw_below_drewN | apply below_drew1 | refine below_set ?_ GE216.out | refine below_set ?_ GE217.out | refine below_set ?_ GE222.out) | exact HB.out)) hb)
    clear BK216
    clear BK217
    clear BK222
    clear HB
    have BK216 := n0_
    have BK217 := n1_
    have BK222 := n2_
    have HB := n3_
    clear n0_ n1_ n2_ n3_
    (try clear hb)
    (try clear hb2)
    (try clear hk)
    (try clear hi)
    refine hK.out _ _ ⟨(blk_cell BK222.out 0).trans rfl, (blk_cell BK222.out 1).trans rfl, (blk_cell BK222.out 2).trans rfl, (blk_cell BK216.out 0).trans rfl, (blk_cell BK216.out 1).trans rfl, (blk_cell BK216.out 2).trans rfl, (blk_cell BK216.out 3).trans rfl⟩ (fun hHeld => ?_)
    clear hK K
    refine norm_ (a' := ?_) ?_ ?_
    rotate_left
    · show Act.put _ (some 16) _ = _
      simp only [Act.put, List.setIfInBounds_toArray, List.set_cons_zero, List.set_cons_succ, i64_w, i32_w]
      rfl
    refine one_ (i := 5) (N := none) #[true, true, true, true, true, true] rfl rfl (by kernel_rfl) (by decide) (fun K hK => ?_)
    have hs19 : w18.cell? ⟨gb217, 0, none⟩ = some (.int .u64 0) := (blk_cell BK217.out 0).trans rfl
    have hfs19 := blk_frozen BK217.out 0
    have hns19_0 := NB216_217.out
    have hns19_2 := NB222_217.out
    have hms19_0 := NB217_216.out
    have hms19_2 := NB217_222.out
    have hs20 : w18.cell? ⟨gb217, 1, none⟩ = some (.int .u64 0) := (blk_cell BK217.out 1).trans rfl
    have hfs20 := blk_frozen BK217.out 1
    have hns20_0 := NB216_217.out
    have hns20_2 := NB222_217.out
    have hms20_0 := NB217_216.out
    have hms20_2 := NB217_222.out
    have hs21 : w18.cell? ⟨gb217, 2, none⟩ = some (.int .u64 0) := (blk_cell BK217.out 2).trans rfl
    have hfs21 := blk_frozen BK217.out 2
    have hns21_0 := NB216_217.out
    have hns21_2 := NB222_217.out
    have hms21_0 := NB217_216.out
    have hms21_2 := NB217_222.out
    have hs22 : w18.cell? ⟨gb217, 3, none⟩ = some (.int .u64 0) := (blk_cell BK217.out 3).trans rfl
    have hfs22 := blk_frozen BK217.out 3
    have hns22_0 := NB216_217.out
    have hns22_2 := NB222_217.out
    have hms22_0 := NB217_216.out
    have hms22_2 := NB217_222.out
    refine skip_ (w1 := ?_) (by rfl) rfl ?_ ?_
    rotate_left
    · go_simp
      rfl
    refine hK.out _ _ ⟨((cell_far (p := ⟨gb217, _, none⟩) NB222_217.out _).trans (((cell_far (p := ⟨gb217, _, none⟩) NB222_217.out _).trans (((cell_far (p := ⟨gb217, _, none⟩) NB222_217.out _).trans (((cell_far (p := ⟨gb217, _, none⟩) NB222_217.out _).trans (hHeld.1)))))))), ((cell_far (p := ⟨gb217, _, none⟩) NB222_217.out _).trans (((cell_far (p := ⟨gb217, _, none⟩) NB222_217.out _).trans (((cell_far (p := ⟨gb217, _, none⟩) NB222_217.out _).trans (((cell_far (p := ⟨gb217, _, none⟩) NB222_217.out _).trans (hHeld.2.1)))))))), ((cell_far (p := ⟨gb217, _, none⟩) NB222_217.out _).trans (((cell_far (p := ⟨gb217, _, none⟩) NB222_217.out _).trans (((cell_far (p := ⟨gb217, _, none⟩) NB222_217.out _).trans (((cell_far (p := ⟨gb217, _, none⟩) NB222_217.out _).trans (hHeld.2.2.1)))))))), ((cell_far (p := ⟨gb217, _, none⟩) NB216_217.out _).trans (((cell_far (p := ⟨gb217, _, none⟩) NB216_217.out _).trans (((cell_far (p := ⟨gb217, _, none⟩) NB216_217.out _).trans (((cell_far (p := ⟨gb217, _, none⟩) NB216_217.out _).trans (hHeld.2.2.2.1)))))))), ((cell_far (p := ⟨gb217, _, none⟩) NB216_217.out _).trans (((cell_far (p := ⟨gb217, _, none⟩) NB216_217.out _).trans (((cell_far (p := ⟨gb217, _, none⟩) NB216_217.out _).trans (((cell_far (p := ⟨gb217, _, none⟩) NB216_217.out _).trans (hHeld.2.2.2.2.1)))))))), ((cell_far (p := ⟨gb217, _, none⟩) NB216_217.out _).trans (((cell_far (p := ⟨gb217, _, none⟩) NB216_217.out _).trans (((cell_far (p := ⟨gb217, _, none⟩) NB216_217.out _).trans (((cell_far (p := ⟨gb217, _, none⟩) NB216_217.out _).trans (hHeld.2.2.2.2.2.1)))))))), ((cell_far (p := ⟨gb217, _, none⟩) NB216_217.out _).trans (((cell_far (p := ⟨gb217, _, none⟩) NB216_217.out _).trans (((cell_far (p := ⟨gb217, _, none⟩) NB216_217.out _).trans (((cell_far (p := ⟨gb217, _, none⟩) NB216_217.out _).trans (hHeld.2.2.2.2.2.2))))))))⟩ (fun hHeld => ?_)
    clear hK K
    refine done_ (by kernel_rfl) ?_
    try go_wp2
    refine bodyPost_ret (results_cell_row rfl _ _ gb217 23 #[.int .u64 t227, .int .u64 t228, .int .u64 t229, .int .u64 t230] (0, 0) _ rfl (by (with_reducible repeat (first | refine blk_drewN ?_ _ | refine blk_drew ?_ | refine blk_alloc ?_ _)); refine blk_put (cs := #[.int .u64 t227, .int .u64 t228, .int .u64 t229, .int .u64 0]) ?_ 3 _ rfl; (with_reducible repeat (first | refine blk_drewN ?_ _ | refine blk_drew ?_ | refine blk_alloc ?_ _)); refine blk_put (cs := #[.int .u64 t227, .int .u64 t228, .int .u64 0, .int .u64 0]) ?_ 2 _ rfl; (with_reducible repeat (first | refine blk_drewN ?_ _ | refine blk_drew ?_ | refine blk_alloc ?_ _)); refine blk_put (cs := #[.int .u64 t227, .int .u64 0, .int .u64 0, .int .u64 0]) ?_ 1 _ rfl; (with_reducible repeat (first | refine blk_drewN ?_ _ | refine blk_drew ?_ | refine blk_alloc ?_ _)); refine blk_put (cs := #[.int .u64 0, .int .u64 0, .int .u64 0, .int .u64 0]) ?_ 0 _ rfl; (with_reducible repeat (first | refine blk_drewN ?_ _ | refine blk_drew ?_ | refine blk_alloc ?_ _)); exact BK217.out) Tryd.underlying23 rfl (by kernel_rfl)) rfl ?_
    exact ⟨by first | rfl | (simp [errW_none, errW_some] <;> rfl) | (simp [*, errW_none, errW_some] <;> rfl), by repeat (first | (with_reducible first | exact HB.out | apply below_alloc | apply pw_below_drewN | apply below_drew1 | refine below_set ?_ GE216.out | refine below_set ?_ GE217.out | refine below_set ?_ GE222.out) | exact HB.out)⟩
  · replace c4 := Bool.eq_false_iff.mpr c4
    subst c4
    have H1 : (some (0, 0, 0, 0)) = some (r1, r2, r3, r4) := by rw [if_neg (show ¬ (false = true) by decide)] at H; exact H
    clear H
    have H := H1
    clear H1
    simp only [Option.some.injEq, Prod.mk.injEq] at H
    obtain ⟨rfl, rfl, rfl, rfl⟩ := H
    go_enter Tryd.func19, Tryd.ntmps19
    go_wp2_with (first | ((with_reducible refine gate_dst (N := 3) rfl ?_); refine box_event ?hg (N := 3) ?hd (cs := #[.int .u64 a1_0, .int .u64 a1_1, .int .u64 a1_2, .int .u64 a1_3]) (t := 23) ?hr ?_; (case hd => rfl); (case hg => rfl); (case hr => first | (go_simp; done) | (go_simp; rfl)); intro gb216 hg w23 hbox hb; have n0_ := Aside0.mk (below_step (by repeat (first | (with_reducible first | exact HB.out | apply below_alloc | apply pw_below_drewN | apply below_drew1) | exact HB.out)) hb); have n1_ := Aside0.mk (hbox); have n2_ := Aside0.mk ((by rw [hg]; exact (below_size (by repeat (first | (with_reducible first | exact HB.out | apply below_alloc | apply pw_below_drewN | apply below_drew1) | exact HB.out))) : w.heap.size ≤ gb216)); have n3_ := Aside0.mk ((by rw [hg]; exact (below_size (by repeat (first | (with_reducible first | exact HB.out | apply below_alloc | apply pw_below_drewN | apply below_drew1) | exact HB.out))) : w.heap.size ≤ gb216)); clear HB; have HB := n0_; have BK216 := n1_; have GW216 := n2_; have GE216 := n3_; clear n0_ n1_ n2_ n3_; clear hb hbox hg) | ((with_reducible refine gate_dst (N := 4) rfl ?_); refine box_event ?hg (N := 4) ?hd (cs := #[.int .u64 0, .int .u64 0, .int .u64 0, .int .u64 0]) (t := 23) ?hr ?_; (case hd => rfl); (case hg => rfl); (case hr => first | (go_simp; done) | (go_simp; rfl)); intro gb217 hg w24 hbox hb; have n0_ := Aside0.mk (blk_below (g := gb216) (o := .cells #[.int .u64 a1_0, .int .u64 a1_1, .int .u64 a1_2, .int .u64 a1_3] 23 (0, 0)) (by (with_reducible repeat (first | refine blk_drewN ?_ _ | refine blk_drew ?_ | refine blk_alloc ?_ _)); exact BK216.out) hb); have n1_ := Aside0.mk (below_step (by repeat (first | (with_reducible first | exact HB.out | apply below_alloc | apply pw_below_drewN | apply below_drew1 | refine below_set ?_ GE216.out) | exact HB.out)) hb); have n2_ := Aside0.mk (hbox); have n3_ := Aside0.mk ((by rw [hg]; exact (below_size (by repeat (first | (with_reducible first | exact HB.out | apply below_alloc | apply pw_below_drewN | apply below_drew1 | refine below_set ?_ GE216.out) | exact HB.out))) : w.heap.size ≤ gb217)); have n4_ := Aside0.mk ((by rw [hg]; exact (below_size (by repeat (first | (with_reducible first | exact HB.out | apply below_alloc | apply pw_below_drewN | apply below_drew1 | refine below_set ?_ GE216.out) | exact HB.out))) : w.heap.size ≤ gb217)); have n5_ := Aside0.mk ((by rw [hg]; exact Nat.ne_of_lt (blk_lt (g := gb216) (o := .cells #[.int .u64 a1_0, .int .u64 a1_1, .int .u64 a1_2, .int .u64 a1_3] 23 (0, 0)) (by (with_reducible repeat (first | refine blk_drewN ?_ _ | refine blk_drew ?_ | refine blk_alloc ?_ _)); exact BK216.out)) : gb216 ≠ gb217)); have n6_ := Aside0.mk ((by rw [hg]; exact Nat.ne_of_gt (blk_lt (g := gb216) (o := .cells #[.int .u64 a1_0, .int .u64 a1_1, .int .u64 a1_2, .int .u64 a1_3] 23 (0, 0)) (by (with_reducible repeat (first | refine blk_drewN ?_ _ | refine blk_drew ?_ | refine blk_alloc ?_ _)); exact BK216.out)) : gb217 ≠ gb216)); clear BK216; clear HB; have BK216 := n0_; have HB := n1_; have BK217 := n2_; have GW217 := n3_; have GE217 := n4_; have NB216_217 := n5_; have NB217_216 := n6_; clear n0_ n1_ n2_ n3_ n4_ n5_ n6_; clear hb hbox hg) | ((with_reducible refine gate_callee (f := 41) rfl ?_); refine goesL_ (some 7) rfl rfl Tryd.func41 (by kernel_rfl) rfl #[.int .i64 a0] rfl (by (try simp only [List.map_toArray, List.map_cons, List.map_nil]); first | done | rfl | (simp only [List.length_drop, List.length_take]; rfl) | (go_simp; done) | (go_simp; rw [Int.tmod_eq_emod_of_nonneg (by omega)]; omega)) ?_; (with_reducible refine (field_Valid.calls a0 false _ A3.out).mono ?_); rintro e w' ⟨rfl, ⟨nd, rfl⟩⟩; refine ⟨_, rfl, ?_⟩; (try (rw [drewN_self w24]; generalize hq_ : World.drewN w24 _ = w24; have n0_ : Aside0 (w24.heap[gb216]? = some (.cells #[.int .u64 a1_0, .int .u64 a1_1, .int .u64 a1_2, .int .u64 a1_3] 23 (0, 0))) := ⟨by rw [← hq_]; exact (by (with_reducible repeat (first | refine blk_drewN ?_ _ | refine blk_drew ?_ | refine blk_alloc ?_ _)); exact BK216.out)⟩; have n1_ : Aside0 (w24.heap[gb217]? = some (.cells #[.int .u64 0, .int .u64 0, .int .u64 0, .int .u64 0] 23 (0, 0))) := ⟨by rw [← hq_]; exact (by (with_reducible repeat (first | refine blk_drewN ?_ _ | refine blk_drew ?_ | refine blk_alloc ?_ _)); exact BK217.out)⟩; have n2_ : Aside0 (Below w.heap.size w w24) := ⟨by rw [← hq_]; exact (by repeat (first | (with_reducible first | exact HB.out | apply below_alloc | apply pw_below_drewN | apply below_drew1 | refine below_set ?_ GE216.out | refine below_set ?_ GE217.out) | exact HB.out))⟩; clear BK216 BK217 HB hq_; have BK216 := n0_; have BK217 := n1_; have HB := n2_; clear n0_ n1_ n2_)); have hnb25 := NB217_216.out; have hnc25 := NB216_217.out; have hcz26_0 : w24.cell? ⟨gb217, 0, none⟩ = some (.int .u64 0) := (blk_cell BK217.out 0).trans rfl; have hcz26_1 : w24.cell? ⟨gb217, 1, none⟩ = some (.int .u64 0) := (blk_cell BK217.out 1).trans rfl; have hcz26_2 : w24.cell? ⟨gb217, 2, none⟩ = some (.int .u64 0) := (blk_cell BK217.out 2).trans rfl; have hcz26_3 : w24.cell? ⟨gb217, 3, none⟩ = some (.int .u64 0) := (blk_cell BK217.out 3).trans rfl; have hfz26_0 := blk_frozen BK217.out 0; have hfz26_1 := blk_frozen BK217.out 1; have hfz26_2 := blk_frozen BK217.out 2; have hfz26_3 := blk_frozen BK217.out 3))
    refine bodyPost_ret (results_cell_row rfl _ _ gb217 23 #[.int .u64 0, .int .u64 0, .int .u64 0, .int .u64 0] (0, 0) _ rfl (by (with_reducible repeat (first | refine blk_drewN ?_ _ | refine blk_drew ?_ | refine blk_alloc ?_ _)); refine blk_put (cs := #[.int .u64 0, .int .u64 0, .int .u64 0, .int .u64 0]) ?_ 3 _ rfl; (with_reducible repeat (first | refine blk_drewN ?_ _ | refine blk_drew ?_ | refine blk_alloc ?_ _)); refine blk_put (cs := #[.int .u64 0, .int .u64 0, .int .u64 0, .int .u64 0]) ?_ 2 _ rfl; (with_reducible repeat (first | refine blk_drewN ?_ _ | refine blk_drew ?_ | refine blk_alloc ?_ _)); refine blk_put (cs := #[.int .u64 0, .int .u64 0, .int .u64 0, .int .u64 0]) ?_ 1 _ rfl; (with_reducible repeat (first | refine blk_drewN ?_ _ | refine blk_drew ?_ | refine blk_alloc ?_ _)); refine blk_put (cs := #[.int .u64 0, .int .u64 0, .int .u64 0, .int .u64 0]) ?_ 0 _ rfl; (with_reducible repeat (first | refine blk_drewN ?_ _ | refine blk_drew ?_ | refine blk_alloc ?_ _)); exact BK217.out) Tryd.underlying23 rfl (by kernel_rfl)) rfl ?_
    exact ⟨by first | rfl | (simp [errW_none, errW_some] <;> rfl) | (simp [*, errW_none, errW_some] <;> rfl), by repeat (first | (with_reducible first | exact HB.out | apply below_alloc | apply pw_below_drewN | apply below_drew1 | refine below_set ?_ GE216.out | refine below_set ?_ GE217.out) | exact HB.out)⟩

end Go.Proofs.YtjfekjblnoagkaaDoor.Q
end
section
namespace Go.Proofs.YtjfekjblnoagkaaDoor.Q
open Go.RowKit Go.Proofs.YtjfekjblnoagkaaDoorW.PrintWords Go.Proofs.YtjfekjblnoagkaaDoorW.PrintLast Go.Proofs.YtjfekjblnoagkaaDoorW.PrintMore
open Go.Proofs.YtjfekjblnoagkaaDoor.Num
set_option linter.unusedVariables false
set_option linter.unusedSimpArgs false

/-- A state of four numbers. -/
structure S4 where
  a : Nat
  b : Nat
  c : Nat
  d : Nat
def S4.o (s : S4) : Int × Int × Int × Int := ((s.a : Int), (s.b : Int), (s.c : Int), (s.d : Int))
def S4.lt (s : S4) (p : Nat) : Prop := s.a < p ∧ s.b < p ∧ s.c < p ∧ s.d < p
def cst (p g n : Nat) : Nat := (g ^ n % p + 7) % p
def mixd (p a b c d : Nat) : S4 := ⟨(2 * a + 3 * b + c + d) % p, (a + 2 * b + 3 * c + d) % p, (a + b + 2 * c + 3 * d) % p, (3 * a + b + c + 2 * d) % p⟩
/-- A round whose first constant has the exponent n + 1. -/
def rn (p g e n : Nat) (s : S4) : S4 := mixd p ((s.a + cst p g (n + 1)) ^ e % p) ((s.b + cst p g (n + 2)) ^ e % p) ((s.c + cst p g (n + 3)) ^ e % p) ((s.d + cst p g (n + 4)) ^ e % p)
def red (p : Nat) (s : S4) : S4 := ⟨s.a % p, s.b % p, s.c % p, s.d % p⟩
def prm (p g e : Nat) : Nat → S4 → S4
  | 0, s => s
  | n + 1, s => rn p g e (4 * n) (prm p g e n s)
theorem prm_succ (p g e n : Nat) (s : S4) : prm p g e (n + 1) s = rn p g e (4 * n) (prm p g e n s) := rfl
theorem bnd {α β : Type} {o : Option α} {v : α} {F : α → Option β} {r : Option β} (h : o = some v) (g : F v = r) : o.bind F = r := by subst h; exact g
/-- The field f has p elements, the generator g, the exponent e. -/
structure Fd (f : Int) (p g e : Nat) : Prop where
  F : Fld f p
  gen : fg f = (g : Int)
  exp : fe f = (e : Int)
  e53 : e = 5 ∨ e = 3
  glt : g < p
  p96 : 96 < p
theorem fd_of {f : Int} (h0 : 0 ≤ f) (h1 : f < 4) : ∃ p g e, Fd f p g e := by
  rcases (show f = 0 ∨ f = 1 ∨ f = 2 ∨ f = 3 by omega) with rfl | rfl | rfl | rfl
  · exact ⟨97, 5, 5, ⟨by decide, by decide, rfl, pr97, by decide⟩, rfl, rfl, Or.inl rfl, by decide, by decide⟩
  · exact ⟨257, 3, 3, ⟨by decide, by decide, rfl, pr257, by decide⟩, rfl, rfl, Or.inr rfl, by decide, by decide⟩
  · exact ⟨12289, 11, 5, ⟨by decide, by decide, rfl, pr12289, by decide⟩, rfl, rfl, Or.inl rfl, by decide, by decide⟩
  · exact ⟨998244353, 3, 3, ⟨by decide, by decide, rfl, pr998244353, by decide⟩, rfl, rfl, Or.inr rfl, by decide, by decide⟩
theorem rn_lt {p : Nat} (hp : 0 < p) (g e n : Nat) (s : S4) : (rn p g e n s).lt p := ⟨Nat.mod_lt _ hp, Nat.mod_lt _ hp, Nat.mod_lt _ hp, Nat.mod_lt _ hp⟩
theorem red_lt {p : Nat} (hp : 0 < p) (s : S4) : (red p s).lt p := ⟨Nat.mod_lt _ hp, Nat.mod_lt _ hp, Nat.mod_lt _ hp, Nat.mod_lt _ hp⟩
theorem prm_lt {p : Nat} (hp : 0 < p) (g e : Nat) (s : S4) (hs : s.lt p) : ∀ n, (prm p g e n s).lt p
  | 0 => hs
  | n + 1 => rn_lt hp _ _ _ _
theorem red_id {p : Nat} {s : S4} (h : s.lt p) : red p s = s := by
  obtain ⟨a, b, c, d⟩ := s
  obtain ⟨h1, h2, h3, h4⟩ := h
  simp only [red, Nat.mod_eq_of_lt h1, Nat.mod_eq_of_lt h2, Nat.mod_eq_of_lt h3, Nat.mod_eq_of_lt h4]
theorem Fd.pos {f : Int} {p g e : Nat} (D : Fd f p g e) : 0 < p := by have := D.p96; omega

theorem pw5 (p x : Nat) : x * x % p * (x * x % p) % p * x % p = x ^ 5 % p := by
  rw [← Nat.mul_mod, Nat.mul_mod (x * x * (x * x) % p), Nat.mod_mod, ← Nat.mul_mod]
  congr 1
  simp only [Nat.pow_succ, Nat.pow_zero, Nat.one_mul, Nat.mul_assoc]
theorem pw3 (p x : Nat) : x * x % p * x % p = x ^ 3 % p := by
  rw [Nat.mul_mod (x * x % p), Nat.mod_mod, ← Nat.mul_mod]
  congr 1
  simp only [Nat.pow_succ, Nat.pow_zero, Nat.one_mul, Nat.mul_assoc]
theorem castM (a b : Nat) : (a : Int) * (b : Int) = ((a * b : Nat) : Int) := (Int.natCast_mul a b).symm
theorem castA (a b : Nat) : (a : Int) + (b : Int) = ((a + b : Nat) : Int) := (Int.natCast_add a b).symm
theorem power_f {f : Int} {p g e : Nat} (D : Fd f p g e) (x : Nat) (hx : x < p) : sponge_mixer_power.f p g ((e : Int) == 5) x = some ((x ^ e % p : Nat) : Int) := by
  unfold sponge_mixer_power.f
  have hb := D.F.big
  have h1 := mul_lt hb x x hx hx
  have m1 := D.F.md (x * x)
  have h3 := mul_lt hb _ x m1 hx
  rw [if_neg D.F.ne]
  rcases D.e53 with rfl | rfl
  · have h2 := mul_lt hb _ _ m1 m1
    have h4 := mul_lt hb _ x (D.F.md (x * x % p * (x * x % p))) hx
    rw [if_pos (by decide), castM, wrapU h1, tmodN, castM, wrapU h2, tmodN, castM, wrapU h4, tmodN, pw5]
  · rw [if_neg (by decide), castM, wrapU h1, tmodN, castM, wrapU h3, tmodN, pw3]
theorem kstep {f : Int} {p g e : Nat} (D : Fd f p g e) (n : Nat) : Int.tmod (IntKind.u64.wrap (((g ^ n % p : Nat) : Int) * (g : Int))) (p : Int) = ((g ^ (n + 1) % p : Nat) : Int) := by
  rw [castM, wrapU (mul_lt D.F.big _ _ (D.F.md _) D.glt), tmodN, Nat.pow_succ, Nat.mul_mod (g ^ n % p), Nat.mod_mod, ← Nat.mul_mod]
theorem astep {f : Int} {p g e : Nat} (D : Fd f p g e) (n s : Nat) (hs : s < p) : Int.tmod (IntKind.u64.wrap (IntKind.u64.wrap ((s : Int) + ((g ^ n % p : Nat) : Int)) + 7)) (p : Int) = (((s + cst p g n) % p : Nat) : Int) := by
  have h1 := D.F.md (g ^ n)
  have hb := D.F.big
  rw [castA, wrapU (by omega), show (7 : Int) = ((7 : Nat) : Int) from rfl, castA, wrapU (by omega), tmodN, cst, Nat.add_mod_mod, Nat.add_assoc]
theorem mstep {f : Int} {p g e : Nat} (D : Fd f p g e) (a b c d x y : Nat) (ha : a < p) (hb : b < p) (hc : c < p) (hd : d < p) (hx : x < p) (hy : y < p) :
    Int.tmod (IntKind.u64.wrap (IntKind.u64.wrap (IntKind.u64.wrap (IntKind.u64.wrap (IntKind.u64.wrap ((a : Int) + (b : Int)) + (c : Int)) + (d : Int)) + (x : Int)) + IntKind.u64.wrap (2 * (y : Int)))) (p : Int) = (((a + b + c + d + x + 2 * y) % p : Nat) : Int) := by
  have := D.F.big
  rw [castA, wrapU (by omega), castA, wrapU (by omega), castA, wrapU (by omega), castA, wrapU (by omega), show (2 : Int) = ((2 : Nat) : Int) from rfl, castM, wrapU (by omega), castA, wrapU (by omega), tmodN]
theorem round_f {f : Int} {p g e : Nat} (D : Fd f p g e) (n : Nat) (s : S4) (hs : s.lt p) :
    sponge_mixer_round.f p g ((e : Int) == 5) ((g ^ n % p : Nat) : Int) s.a s.b s.c s.d = some (((g ^ (n + 1 + 1 + 1 + 1) % p : Nat) : Int), (rn p g e n s).o) := by
  obtain ⟨h1, h2, h3, h4⟩ := hs
  unfold sponge_mixer_round.f
  rw [if_neg D.F.ne, kstep D n, kstep D (n + 1), kstep D (n + 1 + 1), kstep D (n + 1 + 1 + 1), astep D _ _ h1, astep D _ _ h2, astep D _ _ h3, astep D _ _ h4,
    power_f D _ (D.F.md _), power_f D _ (D.F.md _), power_f D _ (D.F.md _), power_f D _ (D.F.md _)]
  simp only [Option.bind_some]
  rw [mstep D _ _ _ _ _ _ (D.F.md _) (D.F.md _) (D.F.md _) (D.F.md _) (D.F.md _) (D.F.md _), mstep D _ _ _ _ _ _ (D.F.md _) (D.F.md _) (D.F.md _) (D.F.md _) (D.F.md _) (D.F.md _), mstep D _ _ _ _ _ _ (D.F.md _) (D.F.md _) (D.F.md _) (D.F.md _) (D.F.md _) (D.F.md _), mstep D _ _ _ _ _ _ (D.F.md _) (D.F.md _) (D.F.md _) (D.F.md _) (D.F.md _) (D.F.md _)]
  simp only [← Nat.pow_mod, S4.o, rn, mixd]
  generalize (s.a + cst p g (n + 1)) ^ e % p = w
  generalize (s.b + cst p g (n + 2)) ^ e % p = x
  generalize (s.c + cst p g (n + 3)) ^ e % p = y
  generalize (s.d + cst p g (n + 4)) ^ e % p = z
  rw [show w + x + y + z + w + 2 * x = 2 * w + 3 * x + y + z by omega, show w + x + y + z + x + 2 * y = w + 2 * x + 3 * y + z by omega, show w + x + y + z + y + 2 * z = w + x + 2 * y + 3 * z by omega, show w + x + y + z + z + 2 * w = 3 * w + x + y + 2 * z by omega]
theorem perm_f {f : Int} {p g e : Nat} (D : Fd f p g e) (s : S4) (hs : s.lt p) : sponge_mixer_perm.f p g ((e : Int) == 5) s.a s.b s.c s.d = some (prm p g e 8 s).o := by
  have l := prm_lt D.pos g e s hs
  have r : ∀ n, sponge_mixer_round.f p g ((e : Int) == 5) ((g ^ (4 * n) % p : Nat) : Int) (prm p g e n s).a (prm p g e n s).b (prm p g e n s).c (prm p g e n s).d = some (((g ^ (4 * (n + 1)) % p : Nat) : Int), (prm p g e (n + 1) s).o) := fun n => round_f D (4 * n) (prm p g e n s) (l n)
  have one : (1 : Int) = ((g ^ (4 * 0) % p : Nat) : Int) := by rw [Nat.mul_zero, Nat.pow_zero, Nat.mod_eq_of_lt (by have := D.p96; omega)]; rfl
  unfold sponge_mixer_perm.f
  rw [one]
  have r0 := r 0
  have r1 := r 1
  have r2 := r 2
  have r3 := r 3
  have r4 := r 4
  have r5 := r 5
  have r6 := r 6
  have r7 := r 7
  simp only [Nat.zero_add, Nat.reduceAdd] at r0 r1 r2 r3 r4 r5 r6 r7
  generalize prm p g e 8 s = s8 at *
  generalize prm p g e 7 s = s7 at *
  generalize prm p g e 6 s = s6 at *
  generalize prm p g e 5 s = s5 at *
  generalize prm p g e 4 s = s4 at *
  generalize prm p g e 3 s = s3 at *
  generalize prm p g e 2 s = s2 at *
  generalize prm p g e 1 s = s1 at *
  rw [show prm p g e 0 s = s from rfl] at r0
  rw [r0]
  simp only [Option.bind_some, S4.o]
  rw [r1]
  simp only [Option.bind_some, S4.o]
  rw [r2]
  simp only [Option.bind_some, S4.o]
  rw [r3]
  simp only [Option.bind_some, S4.o]
  rw [r4]
  simp only [Option.bind_some, S4.o]
  rw [r5]
  simp only [Option.bind_some, S4.o]
  rw [r6]
  simp only [Option.bind_some, S4.o]
  rw [r7]
  simp only [Option.bind_some, S4.o]
theorem in_f {f : Int} {p g e : Nat} (D : Fd f p g e) : sponge_in.f f = some ((p : Int), (g : Int), ((e : Int) == 5)) := by
  unfold sponge_in.f field_P.f field_Generator.f field_Exponent.f
  simp only [Option.bind_some, D.F.eq, D.gen, D.exp]
theorem red_f {f : Int} {p g e : Nat} (D : Fd f p g e) (g' : Int) (b : Bool) (s : S4) : sponge_mixer_reduced.f p g' b s.a s.b s.c s.d = some (red p s).o := by
  unfold sponge_mixer_reduced.f
  rw [if_neg D.F.ne, tmodN, tmodN, tmodN, tmodN]
  rfl
theorem Perm_f {f : Int} {p g e : Nat} (D : Fd f p g e) (s : S4) : sponge_Perm.f f s.a s.b s.c s.d = some (prm p g e 8 (red p s)).o := by
  unfold sponge_Perm.f
  rw [valid_yes D.F, in_f D]
  simp only [Option.bind_some, if_true]
  rw [red_f D]
  simp only [Option.bind_some, S4.o]
  rw [perm_f D _ (red_lt D.pos s)]
  simp only [Option.bind_some, S4.o]
theorem Perm_no {f : Int} (h : ¬ (0 ≤ f ∧ f < 4)) (a b c d : Int) : sponge_Perm.f f a b c d = some (0, 0, 0, 0) := by
  unfold sponge_Perm.f
  rw [valid_no h]
  rfl
theorem known_f (f r : Int) : sponge_known.f f r = some (decide ((0 ≤ f ∧ f < 4) ∧ 0 ≤ r ∧ r < 8)) := by
  unfold sponge_known.f
  by_cases h : 0 ≤ f ∧ f < 4
  · obtain ⟨p, F⟩ := fld_of h.1 h.2
    rw [valid_yes F]
    simp only [Option.bind_some, if_true]
    by_cases h1 : r ≥ 0
    · rw [if_pos h1]
      simp [h, h1]
    · rw [if_neg h1]
      simp [h1]
  · rw [valid_no h]
    simp [h]
theorem expo (r pl : Nat) (hr : r < 8) (hp : pl < 4) : IntKind.u64.wrap (wrap64 ((wrap64 ((wrap64 (4 * (r : Int))) + (pl : Int))) + 1)) = ((4 * r + (pl + 1) : Nat) : Int) := by
  rw [wrapS (x := 4 * (r : Int)) (by omega) (by omega), wrapS (x := 4 * (r : Int) + (pl : Int)) (by omega) (by omega), wrapS (x := 4 * (r : Int) + (pl : Int) + 1) (by omega) (by omega), show (4 * (r : Int) + (pl : Int) + 1) = ((4 * r + (pl + 1) : Nat) : Int) by omega, wrapU (by omega)]
theorem const_yes {f : Int} {p g e : Nat} (D : Fd f p g e) (k r pl : Nat) (hk : 65 < k) (hr : r < 8) (hp : pl < 4) : sponge_Constant.f k f r pl = some ((cst p g (4 * r + (pl + 1)) : Nat) : Int) := by
  obtain ⟨k, rfl⟩ : ∃ j, k = j + 1 := ⟨k - 1, by omega⟩
  unfold sponge_Constant.f
  rw [known_f, decide_eq_true ⟨⟨D.F.lo, D.F.hi⟩, by omega, by omega⟩]
  simp only [Option.bind_some, if_true]
  rw [if_neg (by omega), decide_eq_false (by omega)]
  simp only [sponge_Constant.j0, Bool.false_eq_true, if_false]
  rw [show field_Generator.f f = some (g : Int) by unfold field_Generator.f; rw [D.gen]]
  simp only [Option.bind_some]
  rw [expo r pl hr hp, pow_f D.F k g _ (by omega) (by omega)]
  simp only [Option.bind_some]
  rw [show (7 : Int) = ((7 : Nat) : Int) from rfl, add_f D.F]
  rfl
theorem const_no (f r pl : Int) (k : Nat) (h : ¬ ((0 ≤ f ∧ f < 4) ∧ (0 ≤ r ∧ r < 8) ∧ 0 ≤ pl ∧ pl < 4)) : sponge_Constant.f (k + 1) f r pl = some 0 := by
  unfold sponge_Constant.f
  rw [known_f]
  simp only [Option.bind_some]
  by_cases h1 : (0 ≤ f ∧ f < 4) ∧ 0 ≤ r ∧ r < 8
  · rw [if_pos (decide_eq_true h1)]
    by_cases h2 : pl < 0
    · rw [if_pos h2]
      simp only [sponge_Constant.j0, if_true]
    · rw [if_neg h2, decide_eq_true (by omega)]
      simp only [sponge_Constant.j0, if_true]
  · rw [if_neg (by simpa using h1)]
    simp only [sponge_Constant.j0, if_true]
theorem Round_yes {f : Int} {p g e : Nat} (D : Fd f p g e) (k r : Nat) (hk : 64 < k) (hr : r < 8) (s : S4) : sponge_Round.f k f r s.a s.b s.c s.d = some (rn p g e (4 * r) (red p s)).o := by
  unfold sponge_Round.f
  rw [known_f, decide_eq_true ⟨⟨D.F.lo, D.F.hi⟩, by omega, by omega⟩, in_f D]
  simp only [Option.bind_some, if_true]
  rw [wrapS (x := 4 * (r : Int)) (by omega) (by omega), show (4 * (r : Int)) = ((4 * r : Nat) : Int) by omega, wrapU (by omega), pow_f D.F k g _ hk (by omega)]
  simp only [Option.bind_some]
  rw [red_f D]
  simp only [Option.bind_some, S4.o]
  rw [round_f D _ _ (red_lt D.pos s)]
  simp only [Option.bind_some, S4.o]
theorem Round_no (f r a b c d : Int) (k : Nat) (h : ¬ ((0 ≤ f ∧ f < 4) ∧ 0 ≤ r ∧ r < 8)) : sponge_Round.f k f r a b c d = some (0, 0, 0, 0) := by
  unfold sponge_Round.f
  rw [known_f, decide_eq_false h]
  rfl
end Go.Proofs.YtjfekjblnoagkaaDoor.Q
end
section
namespace Go.Proofs.YtjfekjblnoagkaaDoor.Q
open Go.RowKit Go.Proofs.YtjfekjblnoagkaaDoorW.PrintWords Go.Proofs.YtjfekjblnoagkaaDoorW.PrintLast Go.Proofs.YtjfekjblnoagkaaDoorW.PrintMore
section
variable {P : Program} {d : Nat} {xs ys : Array Value} {e : TypeId} {c j : Nat} {js : List Nat} {a b : Value} {r s : Bool} {w : World}
theorem eqi_last (ha : (part e xs (j * c)).run P w = .ok a w) (hb : (part e ys (j * c)).run P w = .ok b w) (he : (Op.equalIn d e a b).run P w = .ok r w) : (Op.eqItems d e c xs ys [j]).run P w = .ok r w := by
  simp only [Op.eqItems, Sem.run_bind, ha, hb, he, Result.andThen_ok]
  cases r <;> simp
theorem eqi_cons (ha : (part e xs (j * c)).run P w = .ok a w) (hb : (part e ys (j * c)).run P w = .ok b w) (he : (Op.equalIn d e a b).run P w = .ok r w) (hr : (Op.eqItems d e c xs ys js).run P w = .ok s w) : (Op.eqItems d e c xs ys (j :: js)).run P w = .ok (r && s) w := by
  simp only [Op.eqItems, Sem.run_bind, ha, hb, he, Result.andThen_ok]
  cases r
  · simp
  · simpa using hr
theorem eqarr_of {t : TypeId} {n : Nat} {l : List Nat} (hu : P.underlying t = some (.array n e)) (hi : (P.info? e).isSome = true) (hc : P.cellsOf e = c) (hl : List.range n = l) (h : (Op.eqItems d e c xs ys l).run P w = .ok r w) : (Op.equalIn (d + 1) t (.agg xs) (.agg ys)).run P w = .ok r w := by
  obtain ⟨i, hi⟩ := Option.isSome_iff_exists.mp hi
  rw [Go.run_equalIn_array w d xs ys hu hi, hc, hl]
  exact h
end
end Go.Proofs.YtjfekjblnoagkaaDoor.Q
end
section
namespace Go.Proofs.YtjfekjblnoagkaaDoor.Q
open Go.RowKit Go.Proofs.YtjfekjblnoagkaaDoorW.PrintWords Go.Proofs.YtjfekjblnoagkaaDoorW.PrintLast Go.Proofs.YtjfekjblnoagkaaDoorW.PrintMore
attribute [local go_sem] max2_int min2_int max_two min_two max_three min_three max_four min_four   -- for this text's walks alone
set_option linter.unusedVariables false
set_option linter.unusedSimpArgs false

theorem eqA23 (d : Nat) (w : World) (x0 y0 : Int) (x1 y1 : Int) (x2 y2 : Int) (x3 y3 : Int) :
    (Op.equalIn (d + 2) 23 (.agg #[.int .u64 x0, .int .u64 x1, .int .u64 x2, .int .u64 x3]) (.agg #[.int .u64 y0, .int .u64 y1, .int .u64 y2, .int .u64 y3])).run Tryd.prog w = .ok (x0 == y0 && (x1 == y1 && (x2 == y2 && (x3 == y3)))) w := by
  refine eqarr_of (c := 1) (l := [0, 1, 2, 3]) Tryd.underlying23 (by kernel_rfl) (by kernel_rfl) (by rfl) ?_
  refine eqi_cons (by go_simp; rfl) (by go_simp; rfl) (by go_simp) ?_
  refine eqi_cons (by go_simp; rfl) (by go_simp; rfl) (by go_simp) ?_
  refine eqi_cons (by go_simp; rfl) (by go_simp; rfl) (by go_simp) ?_
  exact eqi_last (by go_simp; rfl) (by go_simp; rfl) (by go_simp)
end Go.Proofs.YtjfekjblnoagkaaDoor.Q
end
section
namespace Go.Proofs.YtjfekjblnoagkaaDoor.Q
open Go.RowKit Go.Proofs.YtjfekjblnoagkaaDoorW.PrintWords Go.Proofs.YtjfekjblnoagkaaDoorW.PrintLast Go.Proofs.YtjfekjblnoagkaaDoorW.PrintMore
attribute [local go_sem] max2_int min2_int max_two min_two max_three min_three max_four min_four   -- for this text's walks alone
set_option linter.unusedVariables false
set_option linter.unusedSimpArgs false

theorem eqA30 (d : Nat) (w : World) (x0 y0 : Int) (x1 y1 : Int) :
    (Op.equalIn (d + 2) 30 (.agg #[.int .u64 x0, .int .u64 x1]) (.agg #[.int .u64 y0, .int .u64 y1])).run Tryd.prog w = .ok (x0 == y0 && (x1 == y1)) w := by
  refine eqarr_of (c := 1) (l := [0, 1]) Tryd.underlying30 (by kernel_rfl) (by kernel_rfl) (by rfl) ?_
  refine eqi_cons (by go_simp; rfl) (by go_simp; rfl) (by go_simp) ?_
  exact eqi_last (by go_simp; rfl) (by go_simp; rfl) (by go_simp)
end Go.Proofs.YtjfekjblnoagkaaDoor.Q
end
