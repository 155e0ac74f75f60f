/- Several texts in one, in build order. What they prove, each by its own first remark:
Written by our own copy of a printing program (a twelfth state) out of the translation. Not trusted: Lean checks it.
The states that the laws on the channel make: reduced.
What the layer channel and its reference have in common, and small facts for its laws. -/
import Derived.Test.YtkailiemikjfbaaDoorM2
import Derived.Test.YtkailiemikjfbaaDoorM4
import Derived.Test.YtkailiemikjfbaaDoorM5
section
namespace Go.Proofs.YtkailiemikjfbaaDoor.Q
open Go.RowKit Go.Proofs.YtkailiemikjfbaaDoorW.PrintWords Go.Proofs.YtkailiemikjfbaaDoorW.PrintLast Go.Proofs.YtkailiemikjfbaaDoorW.PrintMore
attribute [local go_sem] max2_int min2_int max_two min_two max_three min_three max_four min_four   -- for this text's walks alone
set_option linter.unusedVariables false
set_option linter.unusedSimpArgs false

/-! ### attestorlaw08_reduced: function 19 -/
def attestorlaw08_reduced.l0 : Nat → Int → Int → Int → Int → Int → Int → Int → Int → Int → Int → Option (Int × Int × Int × Int × Int)
  | 0, _, _, _, _, _, _, _, _, _, _ => none
  | k + 1, x6, x453000, x453001, x453002, x453003, x455000, x455001, x455002, x455003, x455004 => if x6 < 4 then (if 0 ≤ x6 then ((attestorref01_P.f x455000).bind fun t455 => (if t455 = 0 then (none) else (attestorlaw08_reduced.l0 k (wrap64 (x6 + 1)) x453000 x453001 x453002 x453003 x455000 (updv x455001 0 x6 (Int.tmod (rd ([x453000, x453001, x453002, x453003] : List Int) x6) t455)) (updv x455002 1 x6 (Int.tmod (rd ([x453000, x453001, x453002, x453003] : List Int) x6) t455)) (updv x455003 2 x6 (Int.tmod (rd ([x453000, x453001, x453002, x453003] : List Int) x6) t455)) (updv x455004 3 x6 (Int.tmod (rd ([x453000, x453001, x453002, x453003] : List Int) x6) t455))))) else (none)) else (some (x455000, x455001, x455002, x455003, x455004))
def attestorlaw08_reduced.f (k : Nat) (a0 : Int) (a1_0 : Int) (a1_1 : Int) (a1_2 : Int) (a1_3 : Int) : Option (Int × Int × Int × Int × Int) := attestorlaw08_reduced.l0 k 0 a1_0 a1_1 a1_2 a1_3 (wrap64 (Int.tmod a0 4)) a1_0 a1_1 a1_2 a1_3
theorem attestorlaw08_reduced.mono_l : ∀ k, (∀ y0 y1 y2 y3 y4 y5 y6 y7 y8 y9, LeO (attestorlaw08_reduced.l0 k y0 y1 y2 y3 y4 y5 y6 y7 y8 y9) (attestorlaw08_reduced.l0 (k + 1) y0 y1 y2 y3 y4 y5 y6 y7 y8 y9))
  | 0 => fun _ _ _ _ _ _ _ _ _ _ r h => by simp [attestorlaw08_reduced.l0] at h
  | k + 1 => by
    have ih0 := attestorlaw08_reduced.mono_l k
    · intro y0 y1 y2 y3 y4 y5 y6 y7 y8 y9
      unfold attestorlaw08_reduced.l0
      repeat' first
      | (with_reducible exact ih0 _ _ _ _ _ _ _ _ _ _)
      | (with_reducible exact LeO.refl _)
      | (with_reducible exact LeO.none _)
      | (with_reducible refine LeO.ite ?_ ?_)
      | (with_reducible refine LeO.bind ?_ (fun _ => ?_))
      | exact ih0 _ _ _ _ _ _ _ _ _ _
      | exact LeO.none _
      | refine LeO.ite ?_ ?_
      | refine LeO.bind ?_ (fun _ => ?_)
theorem attestorlaw08_reduced.mono : ∀ a0 a1 a2 a3 a4 k, LeO (attestorlaw08_reduced.f k a0 a1 a2 a3 a4) (attestorlaw08_reduced.f (k + 1) a0 a1 a2 a3 a4) := by
  intro a0 a1 a2 a3 a4 k
  have ih0 := attestorlaw08_reduced.mono_l k
  unfold attestorlaw08_reduced.f
  repeat' first
      | (with_reducible exact ih0 _ _ _ _ _ _ _ _ _ _)
      | (with_reducible exact LeO.refl _)
      | (with_reducible exact LeO.none _)
      | (with_reducible refine LeO.ite ?_ ?_)
      | (with_reducible refine LeO.bind ?_ (fun _ => ?_))
      | exact ih0 _ _ _ _ _ _ _ _ _ _
      | exact LeO.none _
      | refine LeO.ite ?_ ?_
      | refine LeO.bind ?_ (fun _ => ?_)
def attestorlaw08_reduced.T5 : Bool × List (List Nat × List Nat) := (true, [([], []), ([], []), ([1], [1]), ([2], [2]), ([], []), ([4], [4]), ([5], [5]), ([3, 6], [3, 6]), ([], []), ([8, 0, 0, 1, 2, 3, 4, 5, 6, 7], [0, 8]), ([9, 7, 6, 0, 1, 2, 3, 4, 5, 6, 7], [7, 9])])
def attestorlaw08_reduced.B5 : List Nat := [0, 0, 2, 6, 0, 16, 48, 126, 0, 511, 1023]
theorem attestorlaw08_reduced.tab5 : rtab .any (opsOf Tryd.f19 5) = attestorlaw08_reduced.T5 := by kernel_rfl
theorem attestorlaw08_reduced.bits5 : waitsOk attestorlaw08_reduced.T5.2 attestorlaw08_reduced.B5 = true := by kernel_rfl
set_option maxHeartbeats 8000000 in
set_option maxRecDepth 100000 in
theorem attestorlaw08_reduced.calls (k : Nat) (a0 : Int) (a1_0 : Int) (a1_1 : Int) (a1_2 : Int) (a1_3 : Int) (r1 : Int) (r2 : Int) (r3 : Int) (r4 : Int) (r5 : Int) (w : World) (h : attestorlaw08_reduced.f k a0 a1_0 a1_1 a1_2 a1_3 = some (r1, r2, r3, r4, r5)) :
    Calls Tryd.prog 19 #[.int .u8 a0, .agg #[.int .u64 a1_0, .int .u64 a1_1, .int .u64 a1_2, .int .u64 a1_3]] w fun e w' => e = .returned (.agg #[.int .i64 r1, .int .u64 r2, .int .u64 r3, .int .u64 r4, .int .u64 r5]) ∧ Below w.heap.size w w' := by
  have hu23 := Tryd.underlying23
  have hu25 := Tryd.underlying25
  have HB := Aside0.mk (Below.refl w.heap.size w)
  have H : (attestorlaw08_reduced.l0 k 0 a1_0 a1_1 a1_2 a1_3 (wrap64 (Int.tmod a0 4)) a1_0 a1_1 a1_2 a1_3) = some (r1, r2, r3, r4, r5) := h
  clear h
  have H' := Aside0.mk H
  clear H
  go_enter Tryd.func19, Tryd.ntmps19
  go_wp2_with (first | ((with_reducible refine gate_dst (N := 3) rfl ?_); refine box_event ?hg (N := 3) ?hd (cs := #[.int .u64 a1_0, .int .u64 a1_1, .int .u64 a1_2, .int .u64 a1_3]) (t := 23) ?hr ?_; (case hd => rfl); (case hg => rfl); (case hr => first | (go_simp; done) | (go_simp; rfl)); intro gb452 hg w3 hbox hb; have n0_ := Aside0.mk (below_step (by repeat (first | (with_reducible first | exact HB.out | apply below_alloc | apply pw_below_drewN | apply below_drew1) | exact HB.out)) hb); have n1_ := Aside0.mk (hbox); have n2_ := Aside0.mk ((by rw [hg]; exact (below_size (by repeat (first | (with_reducible first | exact HB.out | apply below_alloc | apply pw_below_drewN | apply below_drew1) | exact HB.out))) : w.heap.size ≤ gb452)); have n3_ := Aside0.mk ((by rw [hg]; exact (below_size (by repeat (first | (with_reducible first | exact HB.out | apply below_alloc | apply pw_below_drewN | apply below_drew1) | exact HB.out))) : w.heap.size ≤ gb452)); clear HB; have HB := n0_; have BK452 := n1_; have GW452 := n2_; have GE452 := n3_; clear n0_ n1_ n2_ n3_; clear hb hbox hg) | ((with_reducible refine gate_dst (N := 4) rfl ?_); refine box_event ?hg (N := 4) ?hd (cs := #[.int .i64 0, .int .u64 0, .int .u64 0, .int .u64 0, .int .u64 0]) (t := 25) ?hr ?_; (case hd => rfl); (case hg => rfl); (case hr => first | (go_simp; done) | (go_simp; rfl)); intro gb453 hg w4 hbox hb; have n0_ := Aside0.mk (blk_below (g := gb452) (o := .cells #[.int .u64 a1_0, .int .u64 a1_1, .int .u64 a1_2, .int .u64 a1_3] 23 (0, 0)) (by (with_reducible repeat (first | refine blk_drewN ?_ _ | refine blk_drew ?_ | refine blk_alloc ?_ _)); exact BK452.out) hb); have n1_ := Aside0.mk (below_step (by repeat (first | (with_reducible first | exact HB.out | apply below_alloc | apply pw_below_drewN | apply below_drew1 | refine below_set ?_ GE452.out) | exact HB.out)) hb); have n2_ := Aside0.mk (hbox); have n3_ := Aside0.mk ((by rw [hg]; exact (below_size (by repeat (first | (with_reducible first | exact HB.out | apply below_alloc | apply pw_below_drewN | apply below_drew1 | refine below_set ?_ GE452.out) | exact HB.out))) : w.heap.size ≤ gb453)); have n4_ := Aside0.mk ((by rw [hg]; exact (below_size (by repeat (first | (with_reducible first | exact HB.out | apply below_alloc | apply pw_below_drewN | apply below_drew1 | refine below_set ?_ GE452.out) | exact HB.out))) : w.heap.size ≤ gb453)); have n5_ := Aside0.mk ((by rw [hg]; exact Nat.ne_of_lt (blk_lt (g := gb452) (o := .cells #[.int .u64 a1_0, .int .u64 a1_1, .int .u64 a1_2, .int .u64 a1_3] 23 (0, 0)) (by (with_reducible repeat (first | refine blk_drewN ?_ _ | refine blk_drew ?_ | refine blk_alloc ?_ _)); exact BK452.out)) : gb452 ≠ gb453)); have n6_ := Aside0.mk ((by rw [hg]; exact Nat.ne_of_gt (blk_lt (g := gb452) (o := .cells #[.int .u64 a1_0, .int .u64 a1_1, .int .u64 a1_2, .int .u64 a1_3] 23 (0, 0)) (by (with_reducible repeat (first | refine blk_drewN ?_ _ | refine blk_drew ?_ | refine blk_alloc ?_ _)); exact BK452.out)) : gb453 ≠ gb452)); clear BK452; clear HB; have BK452 := n0_; have HB := n1_; have BK453 := n2_; have GW453 := n3_; have GE453 := n4_; have NB452_453 := n5_; have NB453_452 := n6_; clear n0_ n1_ n2_ n3_ n4_ n5_ n6_; clear hb hbox hg; have hnb5 := NB452_453.out; have hnc5 := NB453_452.out; have hcz6_0 : w4.cell? ⟨gb452, 0, none⟩ = some (.int .u64 a1_0) := (blk_cell BK452.out 0).trans rfl; have hcz6_1 : w4.cell? ⟨gb452, 1, none⟩ = some (.int .u64 a1_1) := (blk_cell BK452.out 1).trans rfl; have hcz6_2 : w4.cell? ⟨gb452, 2, none⟩ = some (.int .u64 a1_2) := (blk_cell BK452.out 2).trans rfl; have hcz6_3 : w4.cell? ⟨gb452, 3, none⟩ = some (.int .u64 a1_3) := (blk_cell BK452.out 3).trans rfl; have hfz6_0 := blk_frozen BK452.out 0; have hfz6_1 := blk_frozen BK452.out 1; have hfz6_2 := blk_frozen BK452.out 2; have hfz6_3 := blk_frozen BK452.out 3) | ((with_reducible refine gate_dst (N := 5) rfl ?_); refine box_event ?hg (N := 5) ?hd (cs := #[.int .i64 0, .int .u64 0, .int .u64 0, .int .u64 0, .int .u64 0]) (t := 25) ?hr ?_; (case hd => rfl); (case hg => rfl); (case hr => first | (go_simp; done) | (go_simp; rfl)); intro gb454 hg w7 hbox hb; have n0_ := Aside0.mk (blk_below (g := gb452) (o := .cells #[.int .u64 a1_0, .int .u64 a1_1, .int .u64 a1_2, .int .u64 a1_3] 23 (0, 0)) (by (with_reducible repeat (first | refine blk_drewN ?_ _ | refine blk_drew ?_ | refine blk_alloc ?_ _)); exact BK452.out) hb); have n1_ := Aside0.mk (blk_below (g := gb453) (o := .cells #[.int .i64 0, .int .u64 0, .int .u64 0, .int .u64 0, .int .u64 0] 25 (0, 0)) (by (with_reducible repeat (first | refine blk_drewN ?_ _ | refine blk_drew ?_ | refine blk_alloc ?_ _)); exact BK453.out) hb); have n2_ := Aside0.mk (below_step (by repeat (first | (with_reducible first | exact HB.out | apply below_alloc | apply pw_below_drewN | apply below_drew1 | refine below_set ?_ GE452.out | refine below_set ?_ GE453.out) | exact HB.out)) hb); have n3_ := Aside0.mk (hbox); have n4_ := Aside0.mk ((by rw [hg]; exact (below_size (by repeat (first | (with_reducible first | exact HB.out | apply below_alloc | apply pw_below_drewN | apply below_drew1 | refine below_set ?_ GE452.out | refine below_set ?_ GE453.out) | exact HB.out))) : w.heap.size ≤ gb454)); have n5_ := Aside0.mk ((by rw [hg]; exact (below_size (by repeat (first | (with_reducible first | exact HB.out | apply below_alloc | apply pw_below_drewN | apply below_drew1 | refine below_set ?_ GE452.out | refine below_set ?_ GE453.out) | exact HB.out))) : w.heap.size ≤ gb454)); have n6_ := Aside0.mk ((by rw [hg]; exact Nat.ne_of_lt (blk_lt (g := gb452) (o := .cells #[.int .u64 a1_0, .int .u64 a1_1, .int .u64 a1_2, .int .u64 a1_3] 23 (0, 0)) (by (with_reducible repeat (first | refine blk_drewN ?_ _ | refine blk_drew ?_ | refine blk_alloc ?_ _)); exact BK452.out)) : gb452 ≠ gb454)); have n7_ := Aside0.mk ((by rw [hg]; exact Nat.ne_of_gt (blk_lt (g := gb452) (o := .cells #[.int .u64 a1_0, .int .u64 a1_1, .int .u64 a1_2, .int .u64 a1_3] 23 (0, 0)) (by (with_reducible repeat (first | refine blk_drewN ?_ _ | refine blk_drew ?_ | refine blk_alloc ?_ _)); exact BK452.out)) : gb454 ≠ gb452)); have n8_ := Aside0.mk ((by rw [hg]; exact Nat.ne_of_lt (blk_lt (g := gb453) (o := .cells #[.int .i64 0, .int .u64 0, .int .u64 0, .int .u64 0, .int .u64 0] 25 (0, 0)) (by (with_reducible repeat (first | refine blk_drewN ?_ _ | refine blk_drew ?_ | refine blk_alloc ?_ _)); exact BK453.out)) : gb453 ≠ gb454)); have n9_ := Aside0.mk ((by rw [hg]; exact Nat.ne_of_gt (blk_lt (g := gb453) (o := .cells #[.int .i64 0, .int .u64 0, .int .u64 0, .int .u64 0, .int .u64 0] 25 (0, 0)) (by (with_reducible repeat (first | refine blk_drewN ?_ _ | refine blk_drew ?_ | refine blk_alloc ?_ _)); exact BK453.out)) : gb454 ≠ gb453)); clear BK452; clear BK453; clear HB; have BK452 := n0_; have BK453 := n1_; have HB := n2_; have BK454 := n3_; have GW454 := n4_; have GE454 := n5_; have NB452_454 := n6_; have NB454_452 := n7_; have NB453_454 := n8_; have NB454_453 := n9_; clear n0_ n1_ n2_ n3_ n4_ n5_ n6_ n7_ n8_ n9_; clear hb hbox hg; have hnb8 := NB454_452.out; have hnc8 := NB452_454.out; have hnb9 := NB454_453.out; have hnc9 := NB453_454.out; have hcz10_0 : w7.cell? ⟨gb454, 0, none⟩ = some (.int .i64 0) := (blk_cell BK454.out 0).trans rfl; have hcz10_1 : w7.cell? ⟨gb454, 1, none⟩ = some (.int .u64 0) := (blk_cell BK454.out 1).trans rfl; have hcz10_2 : w7.cell? ⟨gb454, 2, none⟩ = some (.int .u64 0) := (blk_cell BK454.out 2).trans rfl; have hcz10_3 : w7.cell? ⟨gb454, 3, none⟩ = some (.int .u64 0) := (blk_cell BK454.out 3).trans rfl; have hcz10_4 : w7.cell? ⟨gb454, 4, none⟩ = some (.int .u64 0) := (blk_cell BK454.out 4).trans rfl; have hfz10_0 := blk_frozen BK454.out 0; have hfz10_1 := blk_frozen BK454.out 1; have hfz10_2 := blk_frozen BK454.out 2; have hfz10_3 := blk_frozen BK454.out 3; have hfz10_4 := blk_frozen BK454.out 4))
  go_loopg [6] k (fun kq v6 w' => ∃ (x6_1 : Int) (x455001_1 : Int) (x455002_1 : Int) (x455003_1 : Int) (x455004_1 : Int), v6 = .int .i64 x6_1 ∧ Aside0 (attestorlaw08_reduced.l0 kq x6_1 a1_0 a1_1 a1_2 a1_3 (wrap64 (Int.tmod a0 4)) x455001_1 x455002_1 x455003_1 x455004_1 = some (r1, r2, r3, r4, r5)) ∧ Aside0 (kq ≤ k) ∧ Aside0 (w'.heap[gb452]? = some (.cells #[.int .u64 a1_0, .int .u64 a1_1, .int .u64 a1_2, .int .u64 a1_3] 23 (0, 0))) ∧ Aside0 (w'.heap[gb453]? = some (.cells #[.int .i64 0, .int .u64 0, .int .u64 0, .int .u64 0, .int .u64 0] 25 (0, 0))) ∧ Aside0 (w'.heap[gb454]? = some (.cells #[.int .i64 (wrap64 (Int.tmod a0 4)), .int .u64 x455001_1, .int .u64 x455002_1, .int .u64 x455003_1, .int .u64 x455004_1] 25 (0, 0))) ∧ Aside0 (Below w.heap.size w w'))
  case atStart => exact ⟨(0), (a1_0), (a1_1), (a1_2), (a1_3), (by first | rfl | (simp; done) | (simp [*]; done) | (simp; rfl) | (simp; decide +kernel)), H', ⟨Nat.le_refl _⟩, ⟨by (with_reducible repeat (first | refine blk_drewN ?_ _ | refine blk_drew ?_ | refine blk_alloc ?_ _)); refine blk_far ?_ NB452_454.out _; (with_reducible repeat (first | refine blk_drewN ?_ _ | refine blk_drew ?_ | refine blk_alloc ?_ _)); refine blk_far ?_ NB452_454.out _; (with_reducible repeat (first | refine blk_drewN ?_ _ | refine blk_drew ?_ | refine blk_alloc ?_ _)); refine blk_far ?_ NB452_454.out _; (with_reducible repeat (first | refine blk_drewN ?_ _ | refine blk_drew ?_ | refine blk_alloc ?_ _)); refine blk_far ?_ NB452_454.out _; (with_reducible repeat (first | refine blk_drewN ?_ _ | refine blk_drew ?_ | refine blk_alloc ?_ _)); refine blk_far ?_ NB452_454.out _; (with_reducible repeat (first | refine blk_drewN ?_ _ | refine blk_drew ?_ | refine blk_alloc ?_ _)); exact BK452.out⟩, ⟨by (with_reducible repeat (first | refine blk_drewN ?_ _ | refine blk_drew ?_ | refine blk_alloc ?_ _)); refine blk_far ?_ NB453_454.out _; (with_reducible repeat (first | refine blk_drewN ?_ _ | refine blk_drew ?_ | refine blk_alloc ?_ _)); refine blk_far ?_ NB453_454.out _; (with_reducible repeat (first | refine blk_drewN ?_ _ | refine blk_drew ?_ | refine blk_alloc ?_ _)); refine blk_far ?_ NB453_454.out _; (with_reducible repeat (first | refine blk_drewN ?_ _ | refine blk_drew ?_ | refine blk_alloc ?_ _)); refine blk_far ?_ NB453_454.out _; (with_reducible repeat (first | refine blk_drewN ?_ _ | refine blk_drew ?_ | refine blk_alloc ?_ _)); refine blk_far ?_ NB453_454.out _; (with_reducible repeat (first | refine blk_drewN ?_ _ | refine blk_drew ?_ | refine blk_alloc ?_ _)); exact BK453.out⟩, ⟨by (with_reducible repeat (first | refine blk_drewN ?_ _ | refine blk_drew ?_ | refine blk_alloc ?_ _)); refine blk_put (cs := #[.int .i64 (wrap64 (Int.tmod a0 4)), .int .u64 a1_0, .int .u64 a1_1, .int .u64 a1_2, .int .u64 0]) ?_ 4 _ rfl; (with_reducible repeat (first | refine blk_drewN ?_ _ | refine blk_drew ?_ | refine blk_alloc ?_ _)); refine blk_put (cs := #[.int .i64 (wrap64 (Int.tmod a0 4)), .int .u64 a1_0, .int .u64 a1_1, .int .u64 0, .int .u64 0]) ?_ 3 _ rfl; (with_reducible repeat (first | refine blk_drewN ?_ _ | refine blk_drew ?_ | refine blk_alloc ?_ _)); refine blk_put (cs := #[.int .i64 (wrap64 (Int.tmod a0 4)), .int .u64 a1_0, .int .u64 0, .int .u64 0, .int .u64 0]) ?_ 2 _ rfl; (with_reducible repeat (first | refine blk_drewN ?_ _ | refine blk_drew ?_ | refine blk_alloc ?_ _)); refine blk_put (cs := #[.int .i64 (wrap64 (Int.tmod a0 4)), .int .u64 0, .int .u64 0, .int .u64 0, .int .u64 0]) ?_ 1 _ rfl; (with_reducible repeat (first | refine blk_drewN ?_ _ | refine blk_drew ?_ | refine blk_alloc ?_ _)); refine blk_put (cs := #[.int .i64 0, .int .u64 0, .int .u64 0, .int .u64 0, .int .u64 0]) ?_ 0 _ rfl; (with_reducible repeat (first | refine blk_drewN ?_ _ | refine blk_drew ?_ | refine blk_alloc ?_ _)); exact BK454.out⟩, ⟨by repeat (first | (with_reducible first | exact HB.out | apply below_alloc | apply pw_below_drewN | apply below_drew1 | refine below_set ?_ GE452.out | refine below_set ?_ GE453.out | refine below_set ?_ GE454.out) | exact HB.out)⟩⟩
  case round =>
    clear H'
    try clear c1
    try clear p2
    try clear c5
    try clear p6
    try clear c8
    try clear c9
    try clear hcz10_0
    try clear hcz10_1
    try clear hcz10_2
    try clear hcz10_3
    try clear hcz10_4
    try clear hcz6_0
    try clear hcz6_1
    try clear hcz6_2
    try clear hcz6_3
    try clear hfz10_0
    try clear hfz10_1
    try clear hfz10_2
    try clear hfz10_3
    try clear hfz10_4
    try clear hfz6_0
    try clear hfz6_1
    try clear hfz6_2
    try clear hfz6_3
    obtain ⟨x6_1, x455001_1, x455002_1, x455003_1, x455004_1, rfl, HA, HK1, BK452, BK453, BK454, HB⟩ := hrel
    cases gk with
    | zero => exact absurd HA.out (by simp [attestorlaw08_reduced.l0])
    | succ k1 =>
      have H := HA.out
      clear HA
      simp only [attestorlaw08_reduced.l0] at H
      by_cases c11 : x6_1 < 4
      · rw [if_pos c11] at H
        have c11b0 : decide (x6_1 < 4) = true := decide_eq_true c11
        clear c11
        by_cases c12 : 0 ≤ x6_1
        · rw [if_pos c12] at H
          have c12b0 := eq_true c12
          have c12b1 : decide (0 ≤ x6_1) = true := decide_eq_true c12
          clear c12
          replace H := Option.bind_eq_some_iff.mp H
          obtain ⟨t455, A130, H⟩ := H
          replace H : (if t455 = 0 then (none) else (attestorlaw08_reduced.l0 k1 (wrap64 (x6_1 + 1)) a1_0 a1_1 a1_2 a1_3 (wrap64 (Int.tmod a0 4)) (updv x455001_1 0 x6_1 (Int.tmod (rd ([a1_0, a1_1, a1_2, a1_3] : List Int) x6_1) t455)) (updv x455002_1 1 x6_1 (Int.tmod (rd ([a1_0, a1_1, a1_2, a1_3] : List Int) x6_1) t455)) (updv x455003_1 2 x6_1 (Int.tmod (rd ([a1_0, a1_1, a1_2, a1_3] : List Int) x6_1) t455)) (updv x455004_1 3 x6_1 (Int.tmod (rd ([a1_0, a1_1, a1_2, a1_3] : List Int) x6_1) t455)))) = some (r1, r2, r3, r4, r5) := H
          have A13 := Aside0.mk A130
          clear A130
          by_cases c14 : t455 = 0
          · rw [if_pos c14] at H
            exact absurd H (by simp)
          · rw [if_neg c14] at H
            have c14b0 : (t455 == 0) = false := beq_eq_false_iff_ne.mpr c14
            have c14b1 : (t455 != 0) = true := bne_iff_ne.mpr c14
            have H' := Aside0.mk H
            clear H
            try go_wp2
            have n0_ := Aside0.mk (blk_drew BK452.out)
            have n1_ := Aside0.mk (blk_drew BK453.out)
            have n2_ := Aside0.mk (blk_drew BK454.out)
            have n3_ := Aside0.mk (below_drew1 HB.out)
            clear BK452
            clear BK453
            clear BK454
            clear HB
            have BK452 := n0_
            have BK453 := n1_
            have BK454 := n2_
            have HB := n3_
            clear n0_ n1_ n2_ n3_
            have hlt16 : (x6_1 < 4) = True := eq_true (of_decide_eq_true (by first | (with_reducible assumption) | assumption))
            have hge17 : (0 ≤ x6_1) = True := eq_true (of_decide_eq_true (by first | (with_reducible assumption) | assumption))
            have hlt20 : (x6_1 < 4) = True := eq_true (of_decide_eq_true (by first | (with_reducible assumption) | assumption))
            have hge21 : (0 ≤ x6_1) = True := eq_true (of_decide_eq_true (by first | (with_reducible assumption) | assumption))
            refine start_ (n := 11) (S := fun w' => w'.cell? ⟨gb454, 0, none⟩ = some (.int .i64 (wrap64 (Int.tmod a0 4))) ∧ w'.cell? ⟨gb454, 1, none⟩ = some (.int .u64 x455001_1) ∧ w'.cell? ⟨gb454, 2, none⟩ = some (.int .u64 x455002_1) ∧ w'.cell? ⟨gb454, 3, none⟩ = some (.int .u64 x455003_1) ∧ w'.cell? ⟨gb454, 4, none⟩ = some (.int .u64 x455004_1) ∧ w'.cell? ⟨gb452, (x6_1).toNat, none⟩ = some (.int .u64 (rd ([a1_0, a1_1, a1_2, a1_3] : List Int) x6_1))) (ds := [10]) #[false, false, false, false, false, false, false, false, false, false, false] (by kernel_rfl) rfl rfl ⟨(blk_cell BK454.out 0).trans rfl, (blk_cell BK454.out 1).trans rfl, (blk_cell BK454.out 2).trans rfl, (blk_cell BK454.out 3).trans rfl, (blk_cell BK454.out 4).trans rfl, (sel_at (pre := []) (l := ([a1_0, a1_1, a1_2, a1_3] : List Int)) (post := []) BK452.out rfl (by simp) (of_decide_eq_true (by first | (with_reducible assumption) | assumption)) (of_decide_eq_true (by first | (with_reducible assumption) | assumption)))⟩ (fun hHeld => ?_); refine with_tabW attestorlaw08_reduced.tab5 attestorlaw08_reduced.bits5 (fun HT_ HW_ => ?_)
            generalize wr.drew = w15 at BK452 BK453 BK454 HB hHeld ⊢
            refine pure_ (i := 0) (N := some 16) (v := ?_) (a' := ?_) #[true, false, false, false, false, false, false, false, false, false, false] rfl rfl (any_of HT_.out (by kernel_rfl)) (fun _ _ _ h => h) (Or.inl ⟨by rfl, ?_⟩) ?_ ?_
            rotate_left
            · intro w'
              go_simp
              with_reducible rfl
            rotate_left
            · simp only [Act.put, List.setIfInBounds_toArray, List.set_cons_zero, List.set_cons_succ, i64_w, i32_w]
              rfl
            refine pure_ (i := 1) (N := some 17) (v := ?_) (a' := ?_) #[true, true, false, false, false, false, false, false, false, false, false] rfl rfl (any_of HT_.out (by kernel_rfl)) (fun _ _ _ h => h) (Or.inl ⟨by rfl, ?_⟩) ?_ ?_
            rotate_left
            · intro w'
              go_simp
              with_reducible rfl
            rotate_left
            · simp only [Act.put, List.setIfInBounds_toArray, List.set_cons_zero, List.set_cons_succ, i64_w, i32_w]
              rfl
            refine pure_ (i := 2) (N := some 18) (v := ?_) (a' := ?_) #[true, true, true, false, false, false, false, false, false, false, false] rfl rfl (any_of HT_.out (by kernel_rfl)) (fun _ _ _ h => h) (Or.inl ⟨by rfl, ?_⟩) ?_ ?_
            rotate_left
            · intro w'
              go_simp
              with_reducible rfl
            rotate_left
            · simp only [Act.put, List.setIfInBounds_toArray, List.set_cons_zero, List.set_cons_succ, i64_w, i32_w]
              rfl
            refine pure_ (i := 4) (N := some 20) (v := ?_) (a' := ?_) #[true, true, true, false, true, false, false, false, false, false, false] rfl rfl (any_of HT_.out (by kernel_rfl)) (fun _ _ _ h => h) (Or.inl ⟨by rfl, ?_⟩) ?_ ?_
            rotate_left
            · intro w'
              go_simp
              with_reducible rfl
            rotate_left
            · simp only [Act.put, List.setIfInBounds_toArray, List.set_cons_zero, List.set_cons_succ, i64_w, i32_w]
              rfl
            refine pure_ (i := 8) (N := some 24) (v := ?_) (a' := ?_) #[true, true, true, false, true, false, false, false, true, false, false] rfl rfl (any_of HT_.out (by kernel_rfl)) (fun _ _ _ h => h) (Or.inl ⟨by rfl, ?_⟩) ?_ ?_
            rotate_left
            · intro w'
              go_simp
              with_reducible rfl
            rotate_left
            · simp only [Act.put, List.setIfInBounds_toArray, List.set_cons_zero, List.set_cons_succ, i64_w, i32_w]
              rfl
            refine take_ (i := 3) (N := some 19) (v := ?_) (a' := ?_) #[true, true, true, true, true, false, false, false, true, false, false] rfl rfl (take_ofW HT_.out HW_.out (by kernel_rfl)) (fun _ _ _ h => h) (Or.inl ⟨by rfl, ?_⟩) hHeld ?_ ?_
            rotate_left
            · rintro w' ⟨s0, s1, s2, s3, s4, s5⟩
              go_simp
              with_reducible rfl
            rotate_left
            · simp only [Act.put, List.setIfInBounds_toArray, List.set_cons_zero, List.set_cons_succ, i64_w, i32_w]
              rfl
            refine take_ (i := 5) (N := some 21) (v := ?_) (a' := ?_) #[true, true, true, true, true, true, false, false, true, false, false] rfl rfl (take_ofW HT_.out HW_.out (by kernel_rfl)) (fun _ _ _ h => h) (Or.inl ⟨by rfl, ?_⟩) hHeld ?_ ?_
            rotate_left
            · rintro w' ⟨s0, s1, s2, s3, s4, s5⟩
              go_simp
              with_reducible rfl
            rotate_left
            · simp only [Act.put, List.setIfInBounds_toArray, List.set_cons_zero, List.set_cons_succ, i64_w, i32_w]
              rfl
            refine one_ (i := 6) (N := some 22) #[true, true, true, true, true, true, true, false, true, false, false] rfl rfl (one_of HT_.out (by kernel_rfl)) (by decide) (fun K hK => ?_)
            refine goes_ Tryd.func20 (by kernel_rfl) rfl #[.int .i64 (wrap64 (Int.tmod a0 4))] (by rfl) rfl rfl (by (try simp only [List.map_toArray, List.map_cons, List.map_nil]); first | done | rfl | (simp only [List.length_drop, List.length_take]; rfl) | (go_simp; done) | (go_simp; rw [Int.tmod_eq_emod_of_nonneg (by omega)]; omega)) ?_
            with_reducible refine (attestorref01_P.calls (wrap64 (Int.tmod a0 4)) t455 _ A13.out).mono ?_
            rintro e w' ⟨rfl, ⟨nd, rfl⟩⟩
            refine ⟨_, rfl, ?_⟩
            (try (rw [drewN_self w15]; generalize hq_ : World.drewN w15 _ = w15; have n0_ := Aside0.mk (blk_at hq_ BK452.out); have n1_ := Aside0.mk (blk_at hq_ BK453.out); have n2_ := Aside0.mk (blk_at hq_ BK454.out); have n3_ := Aside0.mk (below_at hq_ HB.out); clear hq_ BK452 BK453 BK454 HB; have BK452 := n0_; have BK453 := n1_; have BK454 := n2_; have HB := n3_; clear n0_ n1_ n2_ n3_))
            refine hK.out _ _ ⟨(blk_cell BK454.out 0).trans rfl, (blk_cell BK454.out 1).trans rfl, (blk_cell BK454.out 2).trans rfl, (blk_cell BK454.out 3).trans rfl, (blk_cell BK454.out 4).trans rfl, (sel_at (pre := []) (l := ([a1_0, a1_1, a1_2, a1_3] : List Int)) (post := []) BK452.out rfl (by simp) (of_decide_eq_true (by first | (with_reducible assumption) | assumption)) (of_decide_eq_true (by first | (with_reducible assumption) | assumption)))⟩ (fun hHeld => ?_)
            clear hK K
            refine norm_ (a' := ?_) ?_ ?_
            rotate_left
            · show Act.put _ (some 22) _ = _
              simp only [Act.put, List.setIfInBounds_toArray, List.set_cons_zero, List.set_cons_succ, i64_w, i32_w]
              rfl
            refine pure_ (i := 7) (N := some 23) (v := ?_) (a' := ?_) #[true, true, true, true, true, true, true, true, true, false, false] rfl rfl (any_of HT_.out (by kernel_rfl)) (fun _ _ _ h => h) (Or.inl ⟨by rfl, ?_⟩) ?_ ?_
            rotate_left
            · intro w'
              go_simp
              with_reducible rfl
            rotate_left
            · simp only [Act.put, List.setIfInBounds_toArray, List.set_cons_zero, List.set_cons_succ, i64_w, i32_w]
              rfl
            refine pure_ (i := 9) (N := some 25) (v := ?_) (a' := ?_) #[true, true, true, true, true, true, true, true, true, true, false] rfl rfl (any_of HT_.out (by kernel_rfl)) (fun _ _ _ h => h) (Or.inl ⟨by rfl, ?_⟩) ?_ ?_
            rotate_left
            · intro w'
              go_simp
              with_reducible rfl
            rotate_left
            · simp only [Act.put, List.setIfInBounds_toArray, List.set_cons_zero, List.set_cons_succ, i64_w, i32_w]
              rfl
            refine last_ (i := 10) (N := none) #[true, true, true, true, true, true, true, true, true, true, true] rfl rfl (one_of HT_.out (by kernel_rfl)) (by decide) (fun K hK => ?_)
            have hsv18 : w15.cell? ⟨gb454, 1 + (x6_1).toNat, none⟩ = some (.int .u64 (rd ([x455001_1, x455002_1, x455003_1, x455004_1] : List Int) x6_1)) := (sel_at (pre := [.int .i64 (wrap64 (Int.tmod a0 4))]) (l := ([x455001_1, x455002_1, x455003_1, x455004_1] : List Int)) (post := []) BK454.out rfl (by simp) (of_decide_eq_true (by first | (with_reducible assumption) | assumption)) (of_decide_eq_true (by first | (with_reducible assumption) | assumption)))
            have hfv19 := blk_frozen BK454.out (1 + (x6_1).toNat)
            have hns22_0 := NB452_454.out
            have hns22_1 := NB453_454.out
            have hms22_0 := NB454_452.out
            have hms22_1 := NB454_453.out
            refine skip_ (w1 := ?_) (by rfl) rfl ?_ ?_
            rotate_left
            · go_simp
              rfl
            refine hK.out _ _ ?_
            clear hK K
            refine done_ (done_of HT_.out (by kernel_rfl)) ?_
            try go_wp2
            go_roundg k1
            case measure => have := HK1.out; omega
            case rel => exact ⟨(wrap64 (x6_1 + 1)), ((updv x455001_1 0 x6_1 (Int.tmod (rd ([a1_0, a1_1, a1_2, a1_3] : List Int) x6_1) t455))), ((updv x455002_1 1 x6_1 (Int.tmod (rd ([a1_0, a1_1, a1_2, a1_3] : List Int) x6_1) t455))), ((updv x455003_1 2 x6_1 (Int.tmod (rd ([a1_0, a1_1, a1_2, a1_3] : List Int) x6_1) t455))), ((updv x455004_1 3 x6_1 (Int.tmod (rd ([a1_0, a1_1, a1_2, a1_3] : List Int) x6_1) t455))), (by first | rfl | (simp; done) | (simp [*]; done) | (simp; rfl) | (simp; decide +kernel)), H', ⟨by have := HK1.out; omega⟩, ⟨by (with_reducible repeat (first | refine blk_drewN ?_ _ | refine blk_drew ?_ | refine blk_alloc ?_ _)); refine blk_far ?_ NB452_454.out _; (with_reducible repeat (first | refine blk_drewN ?_ _ | refine blk_drew ?_ | refine blk_alloc ?_ _)); exact BK452.out⟩, ⟨by (with_reducible repeat (first | refine blk_drewN ?_ _ | refine blk_drew ?_ | refine blk_alloc ?_ _)); refine blk_far ?_ NB453_454.out _; (with_reducible repeat (first | refine blk_drewN ?_ _ | refine blk_drew ?_ | refine blk_alloc ?_ _)); exact BK453.out⟩, ⟨by (with_reducible repeat (first | refine blk_drewN ?_ _ | refine blk_drew ?_ | refine blk_alloc ?_ _)); refine sel_put (pre := [.int .i64 (wrap64 (Int.tmod a0 4))]) (l := ([x455001_1, x455002_1, x455003_1, x455004_1] : List Int)) (post := []) ?_ rfl rfl (by simp) (of_decide_eq_true (by first | (with_reducible assumption) | assumption)) (of_decide_eq_true (by first | (with_reducible assumption) | assumption)); (with_reducible repeat (first | refine blk_drewN ?_ _ | refine blk_drew ?_ | refine blk_alloc ?_ _)); exact BK454.out⟩, ⟨by repeat (first | (with_reducible first | exact HB.out | apply below_alloc | apply pw_below_drewN | apply below_drew1 | refine below_set ?_ GE452.out | refine below_set ?_ GE453.out | refine below_set ?_ GE454.out) | exact HB.out)⟩⟩
        · rw [if_neg c12] at H
          exact absurd H (by simp)
      · rw [if_neg c11] at H
        have c11b0 : decide (x6_1 < 4) = false := decide_eq_false c11
        clear c11
        simp only [Option.some.injEq, Prod.mk.injEq] at H
        obtain ⟨rfl, rfl, rfl, rfl, rfl⟩ := H
        have hnb23 := NB454_452.out
        have hnc23 := NB452_454.out
        have hnb24 := NB454_453.out
        have hnc24 := NB453_454.out
        have hcz25_0 : wr.cell? ⟨gb454, 0, none⟩ = some (.int .i64 (wrap64 (Int.tmod a0 4))) := (blk_cell BK454.out 0).trans rfl
        have hcz25_1 : wr.cell? ⟨gb454, 1, none⟩ = some (.int .u64 x455001_1) := (blk_cell BK454.out 1).trans rfl
        have hcz25_2 : wr.cell? ⟨gb454, 2, none⟩ = some (.int .u64 x455002_1) := (blk_cell BK454.out 2).trans rfl
        have hcz25_3 : wr.cell? ⟨gb454, 3, none⟩ = some (.int .u64 x455003_1) := (blk_cell BK454.out 3).trans rfl
        have hcz25_4 : wr.cell? ⟨gb454, 4, none⟩ = some (.int .u64 x455004_1) := (blk_cell BK454.out 4).trans rfl
        have hfz25_0 := blk_frozen BK454.out 0
        have hfz25_1 := blk_frozen BK454.out 1
        have hfz25_2 := blk_frozen BK454.out 2
        have hfz25_3 := blk_frozen BK454.out 3
        have hfz25_4 := blk_frozen BK454.out 4
        have hnb26 := NB453_452.out
        have hnc26 := NB452_453.out
        have hcz27_0 : wr.cell? ⟨gb453, 0, none⟩ = some (.int .i64 0) := (blk_cell BK453.out 0).trans rfl
        have hcz27_1 : wr.cell? ⟨gb453, 1, none⟩ = some (.int .u64 0) := (blk_cell BK453.out 1).trans rfl
        have hcz27_2 : wr.cell? ⟨gb453, 2, none⟩ = some (.int .u64 0) := (blk_cell BK453.out 2).trans rfl
        have hcz27_3 : wr.cell? ⟨gb453, 3, none⟩ = some (.int .u64 0) := (blk_cell BK453.out 3).trans rfl
        have hcz27_4 : wr.cell? ⟨gb453, 4, none⟩ = some (.int .u64 0) := (blk_cell BK453.out 4).trans rfl
        have hfz27_0 := blk_frozen BK453.out 0
        have hfz27_1 := blk_frozen BK453.out 1
        have hfz27_2 := blk_frozen BK453.out 2
        have hfz27_3 := blk_frozen BK453.out 3
        have hfz27_4 := blk_frozen BK453.out 4
        go_wp2
        refine bodyPost_ret (results_cell_row rfl _ _ gb453 25 #[.int .i64 (wrap64 (Int.tmod a0 4)), .int .u64 x455001_1, .int .u64 x455002_1, .int .u64 x455003_1, .int .u64 x455004_1] (0, 0) _ rfl (by (with_reducible repeat (first | refine blk_drewN ?_ _ | refine blk_drew ?_ | refine blk_alloc ?_ _)); refine blk_put (cs := #[.int .i64 (wrap64 (Int.tmod a0 4)), .int .u64 x455001_1, .int .u64 x455002_1, .int .u64 x455003_1, .int .u64 0]) ?_ 4 _ rfl; (with_reducible repeat (first | refine blk_drewN ?_ _ | refine blk_drew ?_ | refine blk_alloc ?_ _)); refine blk_put (cs := #[.int .i64 (wrap64 (Int.tmod a0 4)), .int .u64 x455001_1, .int .u64 x455002_1, .int .u64 0, .int .u64 0]) ?_ 3 _ rfl; (with_reducible repeat (first | refine blk_drewN ?_ _ | refine blk_drew ?_ | refine blk_alloc ?_ _)); refine blk_put (cs := #[.int .i64 (wrap64 (Int.tmod a0 4)), .int .u64 x455001_1, .int .u64 0, .int .u64 0, .int .u64 0]) ?_ 2 _ rfl; (with_reducible repeat (first | refine blk_drewN ?_ _ | refine blk_drew ?_ | refine blk_alloc ?_ _)); refine blk_put (cs := #[.int .i64 (wrap64 (Int.tmod a0 4)), .int .u64 0, .int .u64 0, .int .u64 0, .int .u64 0]) ?_ 1 _ rfl; (with_reducible repeat (first | refine blk_drewN ?_ _ | refine blk_drew ?_ | refine blk_alloc ?_ _)); refine blk_put (cs := #[.int .i64 0, .int .u64 0, .int .u64 0, .int .u64 0, .int .u64 0]) ?_ 0 _ rfl; (with_reducible repeat (first | refine blk_drewN ?_ _ | refine blk_drew ?_ | refine blk_alloc ?_ _)); exact BK453.out) Tryd.underlying25 rfl (by kernel_rfl)) rfl ?_
        exact ⟨by first | rfl | (simp [errW_none, errW_some] <;> rfl) | (simp [*, errW_none, errW_some] <;> rfl), by repeat (first | (with_reducible first | exact HB.out | apply below_alloc | apply pw_below_drewN | apply below_drew1 | refine below_set ?_ GE452.out | refine below_set ?_ GE453.out | refine below_set ?_ GE454.out) | exact HB.out)⟩

end Go.Proofs.YtkailiemikjfbaaDoor.Q
end
section
namespace Go.Proofs.YtkailiemikjfbaaDoor.Q
open Go.RowKit Go.Proofs.YtkailiemikjfbaaDoorW.PrintWords Go.Proofs.YtkailiemikjfbaaDoorW.PrintLast Go.Proofs.YtkailiemikjfbaaDoorW.PrintMore
open Go.Proofs.YtkailiemikjfbaaDoor.Num
set_option linter.unusedVariables false
set_option linter.unusedSimpArgs false

theorem reduced_f {f : Int} {p g e : Nat} (D : Fd f p g e) (w : Int) (hw : wrap64 (Int.tmod w 4) = f) (s : S4) (k : Nat) (hk : 4 < k) : attestorlaw08_reduced.f k w s.a s.b s.c s.d = some (chO f (red p s)) := by
  obtain ⟨k, rfl⟩ : ∃ j, k = j + 5 := ⟨k - 5, by omega⟩
  unfold attestorlaw08_reduced.f
  rw [hw, attestorlaw08_reduced.l0, if_pos (by decide), if_pos (by decide)]
  refine bnd (rp_eq f) ?_
  rw [D.F.eq, if_neg D.F.ne, v01]
  show attestorlaw08_reduced.l0 _ 1 _ _ _ _ f ((s.a % p : Nat) : Int) s.b s.c s.d = _
  rw [attestorlaw08_reduced.l0, if_pos (by decide), if_pos (by decide)]
  refine bnd (rp_eq f) ?_
  rw [D.F.eq, if_neg D.F.ne, v12]
  show attestorlaw08_reduced.l0 _ 2 _ _ _ _ f ((s.a % p : Nat) : Int) ((s.b % p : Nat) : Int) s.c s.d = _
  rw [attestorlaw08_reduced.l0, if_pos (by decide), if_pos (by decide)]
  refine bnd (rp_eq f) ?_
  rw [D.F.eq, if_neg D.F.ne, v23]
  show attestorlaw08_reduced.l0 _ 3 _ _ _ _ f ((s.a % p : Nat) : Int) ((s.b % p : Nat) : Int) ((s.c % p : Nat) : Int) s.d = _
  rw [attestorlaw08_reduced.l0, if_pos (by decide), if_pos (by decide)]
  refine bnd (rp_eq f) ?_
  rw [D.F.eq, if_neg D.F.ne, v34]
  show attestorlaw08_reduced.l0 _ 4 _ _ _ _ f ((s.a % p : Nat) : Int) ((s.b % p : Nat) : Int) ((s.c % p : Nat) : Int) ((s.d % p : Nat) : Int) = _
  rw [attestorlaw08_reduced.l0, if_neg (by decide)]
  rfl
end Go.Proofs.YtkailiemikjfbaaDoor.Q
end
section
namespace Go.Proofs.YtkailiemikjfbaaDoor.Q
open Go.RowKit Go.Proofs.YtkailiemikjfbaaDoorW.PrintWords Go.Proofs.YtkailiemikjfbaaDoorW.PrintLast Go.Proofs.YtkailiemikjfbaaDoorW.PrintMore
open Go.Proofs.YtkailiemikjfbaaDoor.Num
set_option linter.unusedVariables false
set_option linter.unusedSimpArgs false

theorem draw_both (f : Int) (s : S4) (k : Nat) (hk : 400 ≤ k) : ∃ v, channel_Draw.f k f s.a s.b s.c s.d = some v ∧ attestorref08_Draw.f k f s.a s.b s.c s.d = some v := by
  by_cases h : 0 ≤ f ∧ f < 4
  · obtain ⟨p, g, e, D⟩ := fd_of h.1 h.2
    exact ⟨_, draw_f D k (by omega) s, rdraw_f D k (by omega) s⟩
  · exact ⟨_, draw_no h k _ _ _ _, rdraw_no h k _ _ _ _⟩
theorem pos_both (f : Int) (s : S4) (n : Int) (k : Nat) (hk : 400 ≤ k) : ∃ v, channel_Position.f k f s.a s.b s.c s.d n = some v ∧ attestorref08_Position.f k f s.a s.b s.c s.d n = some v := by
  by_cases h : (0 ≤ f ∧ f < 4) ∧ 0 ≤ n ∧ n ≤ 24
  · obtain ⟨p, g, e, D⟩ := fd_of h.1.1 h.1.2
    obtain ⟨b, rfl⟩ := Int.eq_ofNat_of_zero_le h.2.1
    exact ⟨_, pos_f D k b (by omega) (by omega) s, rpos_f D k b (by omega) (by omega) s⟩
  · exact ⟨_, pos_no n h k _ _ _ _, rpos_no n h k _ _ _ _⟩
theorem grind_both (f : Int) (s : S4) (n : Int) (x : Nat) (k : Nat) (hk : 400 ≤ k) : ∃ v, channel_Grind.f k f s.a s.b s.c s.d x n = some v ∧ attestorref08_Grind.f k f s.a s.b s.c s.d x n = some v := by
  by_cases h : (0 ≤ f ∧ f < 4) ∧ 0 ≤ n ∧ n ≤ 24
  · obtain ⟨p, g, e, D⟩ := fd_of h.1.1 h.1.2
    obtain ⟨b, rfl⟩ := Int.eq_ofNat_of_zero_le h.2.1
    exact ⟨_, grind_f D k b x (by omega) (by omega) s, rgrind_f D k b x (by omega) (by omega) s⟩
  · exact ⟨_, grind_no n h k _ _ _ _ _, rgrind_no n h k _ _ _ _ _⟩
theorem search_both (f : Int) (s : S4) (n most : Int) (k : Nat) (hm : most ≤ 200) (hk : 1000 ≤ k) : ∃ v, channel_Search.f k f s.a s.b s.c s.d n most = some v ∧ attestorref08_Search.f k f s.a s.b s.c s.d n most = some v := by
  by_cases h : (0 ≤ f ∧ f < 4) ∧ 0 ≤ n ∧ n ≤ 24
  · obtain ⟨p, g, e, D⟩ := fd_of h.1.1 h.1.2
    obtain ⟨b, rfl⟩ := Int.eq_ofNat_of_zero_le h.2.1
    have hl : lim p most ≤ 200 := by unfold lim mn; repeat' split <;> omega
    exact ⟨_, search_f D k b most (by omega) (by omega) s, rsearch_f D k b most (by omega) (by omega) s⟩
  · exact ⟨_, search_no n h k _ _ _ _ _, rsearch_no n h k _ _ _ _ _⟩
theorem same5 (a b c d e : Int) : ¬ ((!(a == a) || ((!(b == b) || (!(c == c) || (!(d == d) || (!(e == e)))))))) = true := by simp
theorem mn_le (a b : Int) : mn a b ≤ b := by unfold mn; split <;> omega
theorem tmod_small (a m : Int) (ha : 0 ≤ a) (hm : 0 < m) (hb : m < 1000) : ∃ n : Nat, wrap64 (Int.tmod a m) = (n : Int) ∧ (n : Int) < m := by
  have h0 : 0 ≤ Int.tmod a m := by rw [Int.tmod_eq_emod_of_nonneg ha]; exact Int.emod_nonneg _ (by omega)
  have h1 : Int.tmod a m < m := by rw [Int.tmod_eq_emod_of_nonneg ha]; exact Int.emod_lt_of_pos _ hm
  rw [wrapS (by omega) (by omega)]
  exact ⟨(Int.tmod a m).toNat, by omega, by omega⟩
theorem sr_good (good : Nat → Bool) : ∀ (d n : Nat), ((sr good d n).2 = true → ∃ m : Nat, (sr good d n).1 = m ∧ good m = true ∧ n ≤ m ∧ m < n + d ∧ ∀ i, n ≤ i → i < m → good i = false) ∧ ((sr good d n).2 = false → (sr good d n).1 = 0 ∧ ∀ i, n ≤ i → i < n + d → good i = false)
  | 0, n => ⟨fun h => by simp [sr] at h, fun _ => ⟨rfl, fun i h1 h2 => by omega⟩⟩
  | d + 1, n => by
    have ih := sr_good good d (n + 1)
    unfold sr
    by_cases h : good n = true
    · rw [if_pos h]
      exact ⟨fun _ => ⟨n, rfl, h, Nat.le_refl _, by omega, fun i h1 h2 => by omega⟩, fun h' => by simp at h'⟩
    · rw [if_neg h]
      have hn : good n = false := by simpa using h
      refine ⟨fun h' => ?_, fun h' => ?_⟩
      · obtain ⟨m, e, hm, h1, h2, h3⟩ := ih.1 h'
        refine ⟨m, e, hm, by omega, by omega, fun i i1 i2 => ?_⟩
        by_cases hi : i = n
        · rw [hi]; exact hn
        · exact h3 i (by omega) i2
      · obtain ⟨e, h3⟩ := ih.2 h'
        refine ⟨e, fun i i1 i2 => ?_⟩
        by_cases hi : i = n
        · rw [hi]; exact hn
        · exact h3 i (by omega) (by omega)
theorem mn_cast (m p : Nat) : mn (m : Int) (p : Int) = ((min m p : Nat) : Int) := by unfold mn; split <;> omega
theorem eq5 (a b c d e : Int) : (a == a && ((b == b && (c == c && (d == d && (e == e)))))) = true := by simp
theorem red_red (p : Nat) (s : S4) : red p (red p s) = red p s := by simp only [red, Nat.mod_mod]
end Go.Proofs.YtkailiemikjfbaaDoor.Q
end
