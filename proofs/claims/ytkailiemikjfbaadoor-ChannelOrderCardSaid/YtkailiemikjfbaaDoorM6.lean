/- Several texts in one, in build order. What they prove, each by its own first remark:
Written by our own copy of a printing program (a twelfth state) out of the translation. Not trusted: Lean checks it.
The states that the laws on the channel make: reduced.
What the layer channel and its reference have in common, and small facts for its laws.
channel.AbsorbCap by hand (it appends the elements of each digest's own copy): what it computes, and its contract.
The plain law of ChannelOrder.
For all arguments attestorlaw08.ChannelOrder returns true and leaves them as they were, where the variable 'fields' holds what the program's text lays (the card ties that): no other condition. -/
import Derived.Test.YtkailiemikjfbaaDoorM2
import Derived.Test.YtkailiemikjfbaaDoorM4
import Derived.Test.YtkailiemikjfbaaDoorM5
import Derived.Test.YtkailiemikjfbaaDoorM3
import Derived.Test.YtkailiemikjfbaaDoorCards
import Derived.Test.YtkailiemikjfbaaDoorTie
import Derived.SevenTiedAt
import Derived.SizedLaws
import Derived.ShutString
import Derived.ChangeOld
import Derived.ProofKit
import Derived.Below
import Derived.OpenShut
section
namespace Go.Proofs.YtkailiemikjfbaaDoor.Q
open Go.RowKit Go.Proofs.YtkailiemikjfbaaDoorW.PrintWords Go.Proofs.YtkailiemikjfbaaDoorW.PrintLast Go.Proofs.YtkailiemikjfbaaDoorW.PrintMore
attribute [local go_sem] max2_int min2_int max_two min_two max_three min_three max_four min_four   -- for this text's walks alone
set_option linter.unusedVariables false
set_option linter.unusedSimpArgs false

/-! ### attestorlaw08_reduced: function 19 -/
def attestorlaw08_reduced.l0 : Nat → Int → Int → Int → Int → Int → Int → Int → Int → Int → Int → Option (Int × Int × Int × Int × Int)
  | 0, _, _, _, _, _, _, _, _, _, _ => none
  | k + 1, x6, x453000, x453001, x453002, x453003, x455000, x455001, x455002, x455003, x455004 => if x6 < 4 then (if 0 ≤ x6 then ((attestorref01_P.f x455000).bind fun t455 => (if t455 = 0 then (none) else (attestorlaw08_reduced.l0 k (wrap64 (x6 + 1)) x453000 x453001 x453002 x453003 x455000 (updv x455001 0 x6 (Int.tmod (rd ([x453000, x453001, x453002, x453003] : List Int) x6) t455)) (updv x455002 1 x6 (Int.tmod (rd ([x453000, x453001, x453002, x453003] : List Int) x6) t455)) (updv x455003 2 x6 (Int.tmod (rd ([x453000, x453001, x453002, x453003] : List Int) x6) t455)) (updv x455004 3 x6 (Int.tmod (rd ([x453000, x453001, x453002, x453003] : List Int) x6) t455))))) else (none)) else (some (x455000, x455001, x455002, x455003, x455004))
def attestorlaw08_reduced.f (k : Nat) (a0 : Int) (a1_0 : Int) (a1_1 : Int) (a1_2 : Int) (a1_3 : Int) : Option (Int × Int × Int × Int × Int) := attestorlaw08_reduced.l0 k 0 a1_0 a1_1 a1_2 a1_3 (wrap64 (Int.tmod a0 4)) a1_0 a1_1 a1_2 a1_3
theorem attestorlaw08_reduced.mono_l : ∀ k, (∀ y0 y1 y2 y3 y4 y5 y6 y7 y8 y9, LeO (attestorlaw08_reduced.l0 k y0 y1 y2 y3 y4 y5 y6 y7 y8 y9) (attestorlaw08_reduced.l0 (k + 1) y0 y1 y2 y3 y4 y5 y6 y7 y8 y9))
  | 0 => fun _ _ _ _ _ _ _ _ _ _ r h => by simp [attestorlaw08_reduced.l0] at h
  | k + 1 => by
    have ih0 := attestorlaw08_reduced.mono_l k
    · intro y0 y1 y2 y3 y4 y5 y6 y7 y8 y9
      unfold attestorlaw08_reduced.l0
      repeat' first
      | (with_reducible exact ih0 _ _ _ _ _ _ _ _ _ _)
      | (with_reducible exact LeO.refl _)
      | (with_reducible exact LeO.none _)
      | (with_reducible refine LeO.ite ?_ ?_)
      | (with_reducible refine LeO.bind ?_ (fun _ => ?_))
      | exact ih0 _ _ _ _ _ _ _ _ _ _
      | exact LeO.none _
      | refine LeO.ite ?_ ?_
      | refine LeO.bind ?_ (fun _ => ?_)
theorem attestorlaw08_reduced.mono : ∀ a0 a1 a2 a3 a4 k, LeO (attestorlaw08_reduced.f k a0 a1 a2 a3 a4) (attestorlaw08_reduced.f (k + 1) a0 a1 a2 a3 a4) := by
  intro a0 a1 a2 a3 a4 k
  have ih0 := attestorlaw08_reduced.mono_l k
  unfold attestorlaw08_reduced.f
  repeat' first
      | (with_reducible exact ih0 _ _ _ _ _ _ _ _ _ _)
      | (with_reducible exact LeO.refl _)
      | (with_reducible exact LeO.none _)
      | (with_reducible refine LeO.ite ?_ ?_)
      | (with_reducible refine LeO.bind ?_ (fun _ => ?_))
      | exact ih0 _ _ _ _ _ _ _ _ _ _
      | exact LeO.none _
      | refine LeO.ite ?_ ?_
      | refine LeO.bind ?_ (fun _ => ?_)
def attestorlaw08_reduced.T5 : Bool × List (List Nat × List Nat) := (true, [([], []), ([], []), ([1], [1]), ([2], [2]), ([], []), ([4], [4]), ([5], [5]), ([3, 6], [3, 6]), ([], []), ([8, 0, 0, 1, 2, 3, 4, 5, 6, 7], [0, 8]), ([9, 7, 6, 0, 1, 2, 3, 4, 5, 6, 7], [7, 9])])
def attestorlaw08_reduced.B5 : List Nat := [0, 0, 2, 6, 0, 16, 48, 126, 0, 511, 1023]
theorem attestorlaw08_reduced.tab5 : rtab .any (opsOf Tryd.f19 5) = attestorlaw08_reduced.T5 := by kernel_rfl
theorem attestorlaw08_reduced.bits5 : waitsOk attestorlaw08_reduced.T5.2 attestorlaw08_reduced.B5 = true := by kernel_rfl
set_option maxHeartbeats 8000000 in
set_option maxRecDepth 100000 in
theorem attestorlaw08_reduced.calls (k : Nat) (a0 : Int) (a1_0 : Int) (a1_1 : Int) (a1_2 : Int) (a1_3 : Int) (r1 : Int) (r2 : Int) (r3 : Int) (r4 : Int) (r5 : Int) (w : World) (h : attestorlaw08_reduced.f k a0 a1_0 a1_1 a1_2 a1_3 = some (r1, r2, r3, r4, r5)) :
    Calls Tryd.prog 19 #[.int .u8 a0, .agg #[.int .u64 a1_0, .int .u64 a1_1, .int .u64 a1_2, .int .u64 a1_3]] w fun e w' => e = .returned (.agg #[.int .i64 r1, .int .u64 r2, .int .u64 r3, .int .u64 r4, .int .u64 r5]) ∧ Below w.heap.size w w' := by
  have hu23 := Tryd.underlying23
  have hu25 := Tryd.underlying25
  have HB := Aside0.mk (Below.refl w.heap.size w)
  have H : (attestorlaw08_reduced.l0 k 0 a1_0 a1_1 a1_2 a1_3 (wrap64 (Int.tmod a0 4)) a1_0 a1_1 a1_2 a1_3) = some (r1, r2, r3, r4, r5) := h
  clear h
  have H' := Aside0.mk H
  clear H
  go_enter Tryd.func19, Tryd.ntmps19
  go_wp2_with (first | ((with_reducible refine gate_dst (N := 3) rfl ?_); refine box_event ?hg (N := 3) ?hd (cs := #[.int .u64 a1_0, .int .u64 a1_1, .int .u64 a1_2, .int .u64 a1_3]) (t := 23) ?hr ?_; (case hd => rfl); (case hg => rfl); (case hr => first | (go_simp; done) | (go_simp; rfl)); intro gb452 hg w3 hbox hb; have n0_ := Aside0.mk (below_step (by repeat (first | (with_reducible first | exact HB.out | apply below_alloc | apply pw_below_drewN | apply below_drew1) | exact HB.out)) hb); have n1_ := Aside0.mk (hbox); have n2_ := Aside0.mk ((by rw [hg]; exact (below_size (by repeat (first | (with_reducible first | exact HB.out | apply below_alloc | apply pw_below_drewN | apply below_drew1) | exact HB.out))) : w.heap.size ≤ gb452)); have n3_ := Aside0.mk ((by rw [hg]; exact (below_size (by repeat (first | (with_reducible first | exact HB.out | apply below_alloc | apply pw_below_drewN | apply below_drew1) | exact HB.out))) : w.heap.size ≤ gb452)); clear HB; have HB := n0_; have BK452 := n1_; have GW452 := n2_; have GE452 := n3_; clear n0_ n1_ n2_ n3_; clear hb hbox hg) | ((with_reducible refine gate_dst (N := 4) rfl ?_); refine box_event ?hg (N := 4) ?hd (cs := #[.int .i64 0, .int .u64 0, .int .u64 0, .int .u64 0, .int .u64 0]) (t := 25) ?hr ?_; (case hd => rfl); (case hg => rfl); (case hr => first | (go_simp; done) | (go_simp; rfl)); intro gb453 hg w4 hbox hb; have n0_ := Aside0.mk (blk_below (g := gb452) (o := .cells #[.int .u64 a1_0, .int .u64 a1_1, .int .u64 a1_2, .int .u64 a1_3] 23 (0, 0)) (by (with_reducible repeat (first | refine blk_drewN ?_ _ | refine blk_drew ?_ | refine blk_alloc ?_ _)); exact BK452.out) hb); have n1_ := Aside0.mk (below_step (by repeat (first | (with_reducible first | exact HB.out | apply below_alloc | apply pw_below_drewN | apply below_drew1 | refine below_set ?_ GE452.out) | exact HB.out)) hb); have n2_ := Aside0.mk (hbox); have n3_ := Aside0.mk ((by rw [hg]; exact (below_size (by repeat (first | (with_reducible first | exact HB.out | apply below_alloc | apply pw_below_drewN | apply below_drew1 | refine below_set ?_ GE452.out) | exact HB.out))) : w.heap.size ≤ gb453)); have n4_ := Aside0.mk ((by rw [hg]; exact (below_size (by repeat (first | (with_reducible first | exact HB.out | apply below_alloc | apply pw_below_drewN | apply below_drew1 | refine below_set ?_ GE452.out) | exact HB.out))) : w.heap.size ≤ gb453)); have n5_ := Aside0.mk ((by rw [hg]; exact Nat.ne_of_lt (blk_lt (g := gb452) (o := .cells #[.int .u64 a1_0, .int .u64 a1_1, .int .u64 a1_2, .int .u64 a1_3] 23 (0, 0)) (by (with_reducible repeat (first | refine blk_drewN ?_ _ | refine blk_drew ?_ | refine blk_alloc ?_ _)); exact BK452.out)) : gb452 ≠ gb453)); have n6_ := Aside0.mk ((by rw [hg]; exact Nat.ne_of_gt (blk_lt (g := gb452) (o := .cells #[.int .u64 a1_0, .int .u64 a1_1, .int .u64 a1_2, .int .u64 a1_3] 23 (0, 0)) (by (with_reducible repeat (first | refine blk_drewN ?_ _ | refine blk_drew ?_ | refine blk_alloc ?_ _)); exact BK452.out)) : gb453 ≠ gb452)); clear BK452; clear HB; have BK452 := n0_; have HB := n1_; have BK453 := n2_; have GW453 := n3_; have GE453 := n4_; have NB452_453 := n5_; have NB453_452 := n6_; clear n0_ n1_ n2_ n3_ n4_ n5_ n6_; clear hb hbox hg; have hnb5 := NB452_453.out; have hnc5 := NB453_452.out; have hcz6_0 : w4.cell? ⟨gb452, 0, none⟩ = some (.int .u64 a1_0) := (blk_cell BK452.out 0).trans rfl; have hcz6_1 : w4.cell? ⟨gb452, 1, none⟩ = some (.int .u64 a1_1) := (blk_cell BK452.out 1).trans rfl; have hcz6_2 : w4.cell? ⟨gb452, 2, none⟩ = some (.int .u64 a1_2) := (blk_cell BK452.out 2).trans rfl; have hcz6_3 : w4.cell? ⟨gb452, 3, none⟩ = some (.int .u64 a1_3) := (blk_cell BK452.out 3).trans rfl; have hfz6_0 := blk_frozen BK452.out 0; have hfz6_1 := blk_frozen BK452.out 1; have hfz6_2 := blk_frozen BK452.out 2; have hfz6_3 := blk_frozen BK452.out 3) | ((with_reducible refine gate_dst (N := 5) rfl ?_); refine box_event ?hg (N := 5) ?hd (cs := #[.int .i64 0, .int .u64 0, .int .u64 0, .int .u64 0, .int .u64 0]) (t := 25) ?hr ?_; (case hd => rfl); (case hg => rfl); (case hr => first | (go_simp; done) | (go_simp; rfl)); intro gb454 hg w7 hbox hb; have n0_ := Aside0.mk (blk_below (g := gb452) (o := .cells #[.int .u64 a1_0, .int .u64 a1_1, .int .u64 a1_2, .int .u64 a1_3] 23 (0, 0)) (by (with_reducible repeat (first | refine blk_drewN ?_ _ | refine blk_drew ?_ | refine blk_alloc ?_ _)); exact BK452.out) hb); have n1_ := Aside0.mk (blk_below (g := gb453) (o := .cells #[.int .i64 0, .int .u64 0, .int .u64 0, .int .u64 0, .int .u64 0] 25 (0, 0)) (by (with_reducible repeat (first | refine blk_drewN ?_ _ | refine blk_drew ?_ | refine blk_alloc ?_ _)); exact BK453.out) hb); have n2_ := Aside0.mk (below_step (by repeat (first | (with_reducible first | exact HB.out | apply below_alloc | apply pw_below_drewN | apply below_drew1 | refine below_set ?_ GE452.out | refine below_set ?_ GE453.out) | exact HB.out)) hb); have n3_ := Aside0.mk (hbox); have n4_ := Aside0.mk ((by rw [hg]; exact (below_size (by repeat (first | (with_reducible first | exact HB.out | apply below_alloc | apply pw_below_drewN | apply below_drew1 | refine below_set ?_ GE452.out | refine below_set ?_ GE453.out) | exact HB.out))) : w.heap.size ≤ gb454)); have n5_ := Aside0.mk ((by rw [hg]; exact (below_size (by repeat (first | (with_reducible first | exact HB.out | apply below_alloc | apply pw_below_drewN | apply below_drew1 | refine below_set ?_ GE452.out | refine below_set ?_ GE453.out) | exact HB.out))) : w.heap.size ≤ gb454)); have n6_ := Aside0.mk ((by rw [hg]; exact Nat.ne_of_lt (blk_lt (g := gb452) (o := .cells #[.int .u64 a1_0, .int .u64 a1_1, .int .u64 a1_2, .int .u64 a1_3] 23 (0, 0)) (by (with_reducible repeat (first | refine blk_drewN ?_ _ | refine blk_drew ?_ | refine blk_alloc ?_ _)); exact BK452.out)) : gb452 ≠ gb454)); have n7_ := Aside0.mk ((by rw [hg]; exact Nat.ne_of_gt (blk_lt (g := gb452) (o := .cells #[.int .u64 a1_0, .int .u64 a1_1, .int .u64 a1_2, .int .u64 a1_3] 23 (0, 0)) (by (with_reducible repeat (first | refine blk_drewN ?_ _ | refine blk_drew ?_ | refine blk_alloc ?_ _)); exact BK452.out)) : gb454 ≠ gb452)); have n8_ := Aside0.mk ((by rw [hg]; exact Nat.ne_of_lt (blk_lt (g := gb453) (o := .cells #[.int .i64 0, .int .u64 0, .int .u64 0, .int .u64 0, .int .u64 0] 25 (0, 0)) (by (with_reducible repeat (first | refine blk_drewN ?_ _ | refine blk_drew ?_ | refine blk_alloc ?_ _)); exact BK453.out)) : gb453 ≠ gb454)); have n9_ := Aside0.mk ((by rw [hg]; exact Nat.ne_of_gt (blk_lt (g := gb453) (o := .cells #[.int .i64 0, .int .u64 0, .int .u64 0, .int .u64 0, .int .u64 0] 25 (0, 0)) (by (with_reducible repeat (first | refine blk_drewN ?_ _ | refine blk_drew ?_ | refine blk_alloc ?_ _)); exact BK453.out)) : gb454 ≠ gb453)); clear BK452; clear BK453; clear HB; have BK452 := n0_; have BK453 := n1_; have HB := n2_; have BK454 := n3_; have GW454 := n4_; have GE454 := n5_; have NB452_454 := n6_; have NB454_452 := n7_; have NB453_454 := n8_; have NB454_453 := n9_; clear n0_ n1_ n2_ n3_ n4_ n5_ n6_ n7_ n8_ n9_; clear hb hbox hg; have hnb8 := NB454_452.out; have hnc8 := NB452_454.out; have hnb9 := NB454_453.out; have hnc9 := NB453_454.out; have hcz10_0 : w7.cell? ⟨gb454, 0, none⟩ = some (.int .i64 0) := (blk_cell BK454.out 0).trans rfl; have hcz10_1 : w7.cell? ⟨gb454, 1, none⟩ = some (.int .u64 0) := (blk_cell BK454.out 1).trans rfl; have hcz10_2 : w7.cell? ⟨gb454, 2, none⟩ = some (.int .u64 0) := (blk_cell BK454.out 2).trans rfl; have hcz10_3 : w7.cell? ⟨gb454, 3, none⟩ = some (.int .u64 0) := (blk_cell BK454.out 3).trans rfl; have hcz10_4 : w7.cell? ⟨gb454, 4, none⟩ = some (.int .u64 0) := (blk_cell BK454.out 4).trans rfl; have hfz10_0 := blk_frozen BK454.out 0; have hfz10_1 := blk_frozen BK454.out 1; have hfz10_2 := blk_frozen BK454.out 2; have hfz10_3 := blk_frozen BK454.out 3; have hfz10_4 := blk_frozen BK454.out 4))
  go_loopg [6] k (fun kq v6 w' => ∃ (x6_1 : Int) (x455001_1 : Int) (x455002_1 : Int) (x455003_1 : Int) (x455004_1 : Int), v6 = .int .i64 x6_1 ∧ Aside0 (attestorlaw08_reduced.l0 kq x6_1 a1_0 a1_1 a1_2 a1_3 (wrap64 (Int.tmod a0 4)) x455001_1 x455002_1 x455003_1 x455004_1 = some (r1, r2, r3, r4, r5)) ∧ Aside0 (kq ≤ k) ∧ Aside0 (w'.heap[gb452]? = some (.cells #[.int .u64 a1_0, .int .u64 a1_1, .int .u64 a1_2, .int .u64 a1_3] 23 (0, 0))) ∧ Aside0 (w'.heap[gb453]? = some (.cells #[.int .i64 0, .int .u64 0, .int .u64 0, .int .u64 0, .int .u64 0] 25 (0, 0))) ∧ Aside0 (w'.heap[gb454]? = some (.cells #[.int .i64 (wrap64 (Int.tmod a0 4)), .int .u64 x455001_1, .int .u64 x455002_1, .int .u64 x455003_1, .int .u64 x455004_1] 25 (0, 0))) ∧ Aside0 (Below w.heap.size w w'))
  case atStart => exact ⟨(0), (a1_0), (a1_1), (a1_2), (a1_3), (by first | rfl | (simp; done) | (simp [*]; done) | (simp; rfl) | (simp; decide +kernel)), H', ⟨Nat.le_refl _⟩, ⟨by (with_reducible repeat (first | refine blk_drewN ?_ _ | refine blk_drew ?_ | refine blk_alloc ?_ _)); refine blk_far ?_ NB452_454.out _; (with_reducible repeat (first | refine blk_drewN ?_ _ | refine blk_drew ?_ | refine blk_alloc ?_ _)); refine blk_far ?_ NB452_454.out _; (with_reducible repeat (first | refine blk_drewN ?_ _ | refine blk_drew ?_ | refine blk_alloc ?_ _)); refine blk_far ?_ NB452_454.out _; (with_reducible repeat (first | refine blk_drewN ?_ _ | refine blk_drew ?_ | refine blk_alloc ?_ _)); refine blk_far ?_ NB452_454.out _; (with_reducible repeat (first | refine blk_drewN ?_ _ | refine blk_drew ?_ | refine blk_alloc ?_ _)); refine blk_far ?_ NB452_454.out _; (with_reducible repeat (first | refine blk_drewN ?_ _ | refine blk_drew ?_ | refine blk_alloc ?_ _)); exact BK452.out⟩, ⟨by (with_reducible repeat (first | refine blk_drewN ?_ _ | refine blk_drew ?_ | refine blk_alloc ?_ _)); refine blk_far ?_ NB453_454.out _; (with_reducible repeat (first | refine blk_drewN ?_ _ | refine blk_drew ?_ | refine blk_alloc ?_ _)); refine blk_far ?_ NB453_454.out _; (with_reducible repeat (first | refine blk_drewN ?_ _ | refine blk_drew ?_ | refine blk_alloc ?_ _)); refine blk_far ?_ NB453_454.out _; (with_reducible repeat (first | refine blk_drewN ?_ _ | refine blk_drew ?_ | refine blk_alloc ?_ _)); refine blk_far ?_ NB453_454.out _; (with_reducible repeat (first | refine blk_drewN ?_ _ | refine blk_drew ?_ | refine blk_alloc ?_ _)); refine blk_far ?_ NB453_454.out _; (with_reducible repeat (first | refine blk_drewN ?_ _ | refine blk_drew ?_ | refine blk_alloc ?_ _)); exact BK453.out⟩, ⟨by (with_reducible repeat (first | refine blk_drewN ?_ _ | refine blk_drew ?_ | refine blk_alloc ?_ _)); refine blk_put (cs := #[.int .i64 (wrap64 (Int.tmod a0 4)), .int .u64 a1_0, .int .u64 a1_1, .int .u64 a1_2, .int .u64 0]) ?_ 4 _ rfl; (with_reducible repeat (first | refine blk_drewN ?_ _ | refine blk_drew ?_ | refine blk_alloc ?_ _)); refine blk_put (cs := #[.int .i64 (wrap64 (Int.tmod a0 4)), .int .u64 a1_0, .int .u64 a1_1, .int .u64 0, .int .u64 0]) ?_ 3 _ rfl; (with_reducible repeat (first | refine blk_drewN ?_ _ | refine blk_drew ?_ | refine blk_alloc ?_ _)); refine blk_put (cs := #[.int .i64 (wrap64 (Int.tmod a0 4)), .int .u64 a1_0, .int .u64 0, .int .u64 0, .int .u64 0]) ?_ 2 _ rfl; (with_reducible repeat (first | refine blk_drewN ?_ _ | refine blk_drew ?_ | refine blk_alloc ?_ _)); refine blk_put (cs := #[.int .i64 (wrap64 (Int.tmod a0 4)), .int .u64 0, .int .u64 0, .int .u64 0, .int .u64 0]) ?_ 1 _ rfl; (with_reducible repeat (first | refine blk_drewN ?_ _ | refine blk_drew ?_ | refine blk_alloc ?_ _)); refine blk_put (cs := #[.int .i64 0, .int .u64 0, .int .u64 0, .int .u64 0, .int .u64 0]) ?_ 0 _ rfl; (with_reducible repeat (first | refine blk_drewN ?_ _ | refine blk_drew ?_ | refine blk_alloc ?_ _)); exact BK454.out⟩, ⟨by repeat (first | (with_reducible first | exact HB.out | apply below_alloc | apply pw_below_drewN | apply below_drew1 | refine below_set ?_ GE452.out | refine below_set ?_ GE453.out | refine below_set ?_ GE454.out) | exact HB.out)⟩⟩
  case round =>
    clear H'
    try clear c1
    try clear p2
    try clear c5
    try clear p6
    try clear c8
    try clear c9
    try clear hcz10_0
    try clear hcz10_1
    try clear hcz10_2
    try clear hcz10_3
    try clear hcz10_4
    try clear hcz6_0
    try clear hcz6_1
    try clear hcz6_2
    try clear hcz6_3
    try clear hfz10_0
    try clear hfz10_1
    try clear hfz10_2
    try clear hfz10_3
    try clear hfz10_4
    try clear hfz6_0
    try clear hfz6_1
    try clear hfz6_2
    try clear hfz6_3
    obtain ⟨x6_1, x455001_1, x455002_1, x455003_1, x455004_1, rfl, HA, HK1, BK452, BK453, BK454, HB⟩ := hrel
    cases gk with
    | zero => exact absurd HA.out (by simp [attestorlaw08_reduced.l0])
    | succ k1 =>
      have H := HA.out
      clear HA
      simp only [attestorlaw08_reduced.l0] at H
      by_cases c11 : x6_1 < 4
      · rw [if_pos c11] at H
        have c11b0 : decide (x6_1 < 4) = true := decide_eq_true c11
        clear c11
        by_cases c12 : 0 ≤ x6_1
        · rw [if_pos c12] at H
          have c12b0 := eq_true c12
          have c12b1 : decide (0 ≤ x6_1) = true := decide_eq_true c12
          clear c12
          replace H := Option.bind_eq_some_iff.mp H
          obtain ⟨t455, A130, H⟩ := H
          replace H : (if t455 = 0 then (none) else (attestorlaw08_reduced.l0 k1 (wrap64 (x6_1 + 1)) a1_0 a1_1 a1_2 a1_3 (wrap64 (Int.tmod a0 4)) (updv x455001_1 0 x6_1 (Int.tmod (rd ([a1_0, a1_1, a1_2, a1_3] : List Int) x6_1) t455)) (updv x455002_1 1 x6_1 (Int.tmod (rd ([a1_0, a1_1, a1_2, a1_3] : List Int) x6_1) t455)) (updv x455003_1 2 x6_1 (Int.tmod (rd ([a1_0, a1_1, a1_2, a1_3] : List Int) x6_1) t455)) (updv x455004_1 3 x6_1 (Int.tmod (rd ([a1_0, a1_1, a1_2, a1_3] : List Int) x6_1) t455)))) = some (r1, r2, r3, r4, r5) := H
          have A13 := Aside0.mk A130
          clear A130
          by_cases c14 : t455 = 0
          · rw [if_pos c14] at H
            exact absurd H (by simp)
          · rw [if_neg c14] at H
            have c14b0 : (t455 == 0) = false := beq_eq_false_iff_ne.mpr c14
            have c14b1 : (t455 != 0) = true := bne_iff_ne.mpr c14
            have H' := Aside0.mk H
            clear H
            try go_wp2
            have n0_ := Aside0.mk (blk_drew BK452.out)
            have n1_ := Aside0.mk (blk_drew BK453.out)
            have n2_ := Aside0.mk (blk_drew BK454.out)
            have n3_ := Aside0.mk (below_drew1 HB.out)
            clear BK452
            clear BK453
            clear BK454
            clear HB
            have BK452 := n0_
            have BK453 := n1_
            have BK454 := n2_
            have HB := n3_
            clear n0_ n1_ n2_ n3_
            have hlt16 : (x6_1 < 4) = True := eq_true (of_decide_eq_true (by first | (with_reducible assumption) | assumption))
            have hge17 : (0 ≤ x6_1) = True := eq_true (of_decide_eq_true (by first | (with_reducible assumption) | assumption))
            have hlt20 : (x6_1 < 4) = True := eq_true (of_decide_eq_true (by first | (with_reducible assumption) | assumption))
            have hge21 : (0 ≤ x6_1) = True := eq_true (of_decide_eq_true (by first | (with_reducible assumption) | assumption))
            refine start_ (n := 11) (S := fun w' => w'.cell? ⟨gb454, 0, none⟩ = some (.int .i64 (wrap64 (Int.tmod a0 4))) ∧ w'.cell? ⟨gb454, 1, none⟩ = some (.int .u64 x455001_1) ∧ w'.cell? ⟨gb454, 2, none⟩ = some (.int .u64 x455002_1) ∧ w'.cell? ⟨gb454, 3, none⟩ = some (.int .u64 x455003_1) ∧ w'.cell? ⟨gb454, 4, none⟩ = some (.int .u64 x455004_1) ∧ w'.cell? ⟨gb452, (x6_1).toNat, none⟩ = some (.int .u64 (rd ([a1_0, a1_1, a1_2, a1_3] : List Int) x6_1))) (ds := [10]) #[false, false, false, false, false, false, false, false, false, false, false] (by kernel_rfl) rfl rfl ⟨(blk_cell BK454.out 0).trans rfl, (blk_cell BK454.out 1).trans rfl, (blk_cell BK454.out 2).trans rfl, (blk_cell BK454.out 3).trans rfl, (blk_cell BK454.out 4).trans rfl, (sel_at (pre := []) (l := ([a1_0, a1_1, a1_2, a1_3] : List Int)) (post := []) BK452.out rfl (by simp) (of_decide_eq_true (by first | (with_reducible assumption) | assumption)) (of_decide_eq_true (by first | (with_reducible assumption) | assumption)))⟩ (fun hHeld => ?_); refine with_tabW attestorlaw08_reduced.tab5 attestorlaw08_reduced.bits5 (fun HT_ HW_ => ?_)
            generalize wr.drew = w15 at BK452 BK453 BK454 HB hHeld ⊢
            refine pure_ (i := 0) (N := some 16) (v := ?_) (a' := ?_) #[true, false, false, false, false, false, false, false, false, false, false] rfl rfl (any_of HT_.out (by kernel_rfl)) (fun _ _ _ h => h) (Or.inl ⟨by rfl, ?_⟩) ?_ ?_
            rotate_left
            · intro w'
              go_simp
              with_reducible rfl
            rotate_left
            · simp only [Act.put, List.setIfInBounds_toArray, List.set_cons_zero, List.set_cons_succ, i64_w, i32_w]
              rfl
            refine pure_ (i := 1) (N := some 17) (v := ?_) (a' := ?_) #[true, true, false, false, false, false, false, false, false, false, false] rfl rfl (any_of HT_.out (by kernel_rfl)) (fun _ _ _ h => h) (Or.inl ⟨by rfl, ?_⟩) ?_ ?_
            rotate_left
            · intro w'
              go_simp
              with_reducible rfl
            rotate_left
            · simp only [Act.put, List.setIfInBounds_toArray, List.set_cons_zero, List.set_cons_succ, i64_w, i32_w]
              rfl
            refine pure_ (i := 2) (N := some 18) (v := ?_) (a' := ?_) #[true, true, true, false, false, false, false, false, false, false, false] rfl rfl (any_of HT_.out (by kernel_rfl)) (fun _ _ _ h => h) (Or.inl ⟨by rfl, ?_⟩) ?_ ?_
            rotate_left
            · intro w'
              go_simp
              with_reducible rfl
            rotate_left
            · simp only [Act.put, List.setIfInBounds_toArray, List.set_cons_zero, List.set_cons_succ, i64_w, i32_w]
              rfl
            refine pure_ (i := 4) (N := some 20) (v := ?_) (a' := ?_) #[true, true, true, false, true, false, false, false, false, false, false] rfl rfl (any_of HT_.out (by kernel_rfl)) (fun _ _ _ h => h) (Or.inl ⟨by rfl, ?_⟩) ?_ ?_
            rotate_left
            · intro w'
              go_simp
              with_reducible rfl
            rotate_left
            · simp only [Act.put, List.setIfInBounds_toArray, List.set_cons_zero, List.set_cons_succ, i64_w, i32_w]
              rfl
            refine pure_ (i := 8) (N := some 24) (v := ?_) (a' := ?_) #[true, true, true, false, true, false, false, false, true, false, false] rfl rfl (any_of HT_.out (by kernel_rfl)) (fun _ _ _ h => h) (Or.inl ⟨by rfl, ?_⟩) ?_ ?_
            rotate_left
            · intro w'
              go_simp
              with_reducible rfl
            rotate_left
            · simp only [Act.put, List.setIfInBounds_toArray, List.set_cons_zero, List.set_cons_succ, i64_w, i32_w]
              rfl
            refine take_ (i := 3) (N := some 19) (v := ?_) (a' := ?_) #[true, true, true, true, true, false, false, false, true, false, false] rfl rfl (take_ofW HT_.out HW_.out (by kernel_rfl)) (fun _ _ _ h => h) (Or.inl ⟨by rfl, ?_⟩) hHeld ?_ ?_
            rotate_left
            · rintro w' ⟨s0, s1, s2, s3, s4, s5⟩
              go_simp
              with_reducible rfl
            rotate_left
            · simp only [Act.put, List.setIfInBounds_toArray, List.set_cons_zero, List.set_cons_succ, i64_w, i32_w]
              rfl
            refine take_ (i := 5) (N := some 21) (v := ?_) (a' := ?_) #[true, true, true, true, true, true, false, false, true, false, false] rfl rfl (take_ofW HT_.out HW_.out (by kernel_rfl)) (fun _ _ _ h => h) (Or.inl ⟨by rfl, ?_⟩) hHeld ?_ ?_
            rotate_left
            · rintro w' ⟨s0, s1, s2, s3, s4, s5⟩
              go_simp
              with_reducible rfl
            rotate_left
            · simp only [Act.put, List.setIfInBounds_toArray, List.set_cons_zero, List.set_cons_succ, i64_w, i32_w]
              rfl
            refine one_ (i := 6) (N := some 22) #[true, true, true, true, true, true, true, false, true, false, false] rfl rfl (one_of HT_.out (by kernel_rfl)) (by decide) (fun K hK => ?_)
            refine goes_ Tryd.func20 (by kernel_rfl) rfl #[.int .i64 (wrap64 (Int.tmod a0 4))] (by rfl) rfl rfl (by (try simp only [List.map_toArray, List.map_cons, List.map_nil]); first | done | rfl | (simp only [List.length_drop, List.length_take]; rfl) | (go_simp; done) | (go_simp; rw [Int.tmod_eq_emod_of_nonneg (by omega)]; omega)) ?_
            with_reducible refine (attestorref01_P.calls (wrap64 (Int.tmod a0 4)) t455 _ A13.out).mono ?_
            rintro e w' ⟨rfl, ⟨nd, rfl⟩⟩
            refine ⟨_, rfl, ?_⟩
            (try (rw [drewN_self w15]; generalize hq_ : World.drewN w15 _ = w15; have n0_ := Aside0.mk (blk_at hq_ BK452.out); have n1_ := Aside0.mk (blk_at hq_ BK453.out); have n2_ := Aside0.mk (blk_at hq_ BK454.out); have n3_ := Aside0.mk (below_at hq_ HB.out); clear hq_ BK452 BK453 BK454 HB; have BK452 := n0_; have BK453 := n1_; have BK454 := n2_; have HB := n3_; clear n0_ n1_ n2_ n3_))
            refine hK.out _ _ ⟨(blk_cell BK454.out 0).trans rfl, (blk_cell BK454.out 1).trans rfl, (blk_cell BK454.out 2).trans rfl, (blk_cell BK454.out 3).trans rfl, (blk_cell BK454.out 4).trans rfl, (sel_at (pre := []) (l := ([a1_0, a1_1, a1_2, a1_3] : List Int)) (post := []) BK452.out rfl (by simp) (of_decide_eq_true (by first | (with_reducible assumption) | assumption)) (of_decide_eq_true (by first | (with_reducible assumption) | assumption)))⟩ (fun hHeld => ?_)
            clear hK K
            refine norm_ (a' := ?_) ?_ ?_
            rotate_left
            · show Act.put _ (some 22) _ = _
              simp only [Act.put, List.setIfInBounds_toArray, List.set_cons_zero, List.set_cons_succ, i64_w, i32_w]
              rfl
            refine pure_ (i := 7) (N := some 23) (v := ?_) (a' := ?_) #[true, true, true, true, true, true, true, true, true, false, false] rfl rfl (any_of HT_.out (by kernel_rfl)) (fun _ _ _ h => h) (Or.inl ⟨by rfl, ?_⟩) ?_ ?_
            rotate_left
            · intro w'
              go_simp
              with_reducible rfl
            rotate_left
            · simp only [Act.put, List.setIfInBounds_toArray, List.set_cons_zero, List.set_cons_succ, i64_w, i32_w]
              rfl
            refine pure_ (i := 9) (N := some 25) (v := ?_) (a' := ?_) #[true, true, true, true, true, true, true, true, true, true, false] rfl rfl (any_of HT_.out (by kernel_rfl)) (fun _ _ _ h => h) (Or.inl ⟨by rfl, ?_⟩) ?_ ?_
            rotate_left
            · intro w'
              go_simp
              with_reducible rfl
            rotate_left
            · simp only [Act.put, List.setIfInBounds_toArray, List.set_cons_zero, List.set_cons_succ, i64_w, i32_w]
              rfl
            refine last_ (i := 10) (N := none) #[true, true, true, true, true, true, true, true, true, true, true] rfl rfl (one_of HT_.out (by kernel_rfl)) (by decide) (fun K hK => ?_)
            have hsv18 : w15.cell? ⟨gb454, 1 + (x6_1).toNat, none⟩ = some (.int .u64 (rd ([x455001_1, x455002_1, x455003_1, x455004_1] : List Int) x6_1)) := (sel_at (pre := [.int .i64 (wrap64 (Int.tmod a0 4))]) (l := ([x455001_1, x455002_1, x455003_1, x455004_1] : List Int)) (post := []) BK454.out rfl (by simp) (of_decide_eq_true (by first | (with_reducible assumption) | assumption)) (of_decide_eq_true (by first | (with_reducible assumption) | assumption)))
            have hfv19 := blk_frozen BK454.out (1 + (x6_1).toNat)
            have hns22_0 := NB452_454.out
            have hns22_1 := NB453_454.out
            have hms22_0 := NB454_452.out
            have hms22_1 := NB454_453.out
            refine skip_ (w1 := ?_) (by rfl) rfl ?_ ?_
            rotate_left
            · go_simp
              rfl
            refine hK.out _ _ ?_
            clear hK K
            refine done_ (done_of HT_.out (by kernel_rfl)) ?_
            try go_wp2
            go_roundg k1
            case measure => have := HK1.out; omega
            case rel => exact ⟨(wrap64 (x6_1 + 1)), ((updv x455001_1 0 x6_1 (Int.tmod (rd ([a1_0, a1_1, a1_2, a1_3] : List Int) x6_1) t455))), ((updv x455002_1 1 x6_1 (Int.tmod (rd ([a1_0, a1_1, a1_2, a1_3] : List Int) x6_1) t455))), ((updv x455003_1 2 x6_1 (Int.tmod (rd ([a1_0, a1_1, a1_2, a1_3] : List Int) x6_1) t455))), ((updv x455004_1 3 x6_1 (Int.tmod (rd ([a1_0, a1_1, a1_2, a1_3] : List Int) x6_1) t455))), (by first | rfl | (simp; done) | (simp [*]; done) | (simp; rfl) | (simp; decide +kernel)), H', ⟨by have := HK1.out; omega⟩, ⟨by (with_reducible repeat (first | refine blk_drewN ?_ _ | refine blk_drew ?_ | refine blk_alloc ?_ _)); refine blk_far ?_ NB452_454.out _; (with_reducible repeat (first | refine blk_drewN ?_ _ | refine blk_drew ?_ | refine blk_alloc ?_ _)); exact BK452.out⟩, ⟨by (with_reducible repeat (first | refine blk_drewN ?_ _ | refine blk_drew ?_ | refine blk_alloc ?_ _)); refine blk_far ?_ NB453_454.out _; (with_reducible repeat (first | refine blk_drewN ?_ _ | refine blk_drew ?_ | refine blk_alloc ?_ _)); exact BK453.out⟩, ⟨by (with_reducible repeat (first | refine blk_drewN ?_ _ | refine blk_drew ?_ | refine blk_alloc ?_ _)); refine sel_put (pre := [.int .i64 (wrap64 (Int.tmod a0 4))]) (l := ([x455001_1, x455002_1, x455003_1, x455004_1] : List Int)) (post := []) ?_ rfl rfl (by simp) (of_decide_eq_true (by first | (with_reducible assumption) | assumption)) (of_decide_eq_true (by first | (with_reducible assumption) | assumption)); (with_reducible repeat (first | refine blk_drewN ?_ _ | refine blk_drew ?_ | refine blk_alloc ?_ _)); exact BK454.out⟩, ⟨by repeat (first | (with_reducible first | exact HB.out | apply below_alloc | apply pw_below_drewN | apply below_drew1 | refine below_set ?_ GE452.out | refine below_set ?_ GE453.out | refine below_set ?_ GE454.out) | exact HB.out)⟩⟩
        · rw [if_neg c12] at H
          exact absurd H (by simp)
      · rw [if_neg c11] at H
        have c11b0 : decide (x6_1 < 4) = false := decide_eq_false c11
        clear c11
        simp only [Option.some.injEq, Prod.mk.injEq] at H
        obtain ⟨rfl, rfl, rfl, rfl, rfl⟩ := H
        have hnb23 := NB454_452.out
        have hnc23 := NB452_454.out
        have hnb24 := NB454_453.out
        have hnc24 := NB453_454.out
        have hcz25_0 : wr.cell? ⟨gb454, 0, none⟩ = some (.int .i64 (wrap64 (Int.tmod a0 4))) := (blk_cell BK454.out 0).trans rfl
        have hcz25_1 : wr.cell? ⟨gb454, 1, none⟩ = some (.int .u64 x455001_1) := (blk_cell BK454.out 1).trans rfl
        have hcz25_2 : wr.cell? ⟨gb454, 2, none⟩ = some (.int .u64 x455002_1) := (blk_cell BK454.out 2).trans rfl
        have hcz25_3 : wr.cell? ⟨gb454, 3, none⟩ = some (.int .u64 x455003_1) := (blk_cell BK454.out 3).trans rfl
        have hcz25_4 : wr.cell? ⟨gb454, 4, none⟩ = some (.int .u64 x455004_1) := (blk_cell BK454.out 4).trans rfl
        have hfz25_0 := blk_frozen BK454.out 0
        have hfz25_1 := blk_frozen BK454.out 1
        have hfz25_2 := blk_frozen BK454.out 2
        have hfz25_3 := blk_frozen BK454.out 3
        have hfz25_4 := blk_frozen BK454.out 4
        have hnb26 := NB453_452.out
        have hnc26 := NB452_453.out
        have hcz27_0 : wr.cell? ⟨gb453, 0, none⟩ = some (.int .i64 0) := (blk_cell BK453.out 0).trans rfl
        have hcz27_1 : wr.cell? ⟨gb453, 1, none⟩ = some (.int .u64 0) := (blk_cell BK453.out 1).trans rfl
        have hcz27_2 : wr.cell? ⟨gb453, 2, none⟩ = some (.int .u64 0) := (blk_cell BK453.out 2).trans rfl
        have hcz27_3 : wr.cell? ⟨gb453, 3, none⟩ = some (.int .u64 0) := (blk_cell BK453.out 3).trans rfl
        have hcz27_4 : wr.cell? ⟨gb453, 4, none⟩ = some (.int .u64 0) := (blk_cell BK453.out 4).trans rfl
        have hfz27_0 := blk_frozen BK453.out 0
        have hfz27_1 := blk_frozen BK453.out 1
        have hfz27_2 := blk_frozen BK453.out 2
        have hfz27_3 := blk_frozen BK453.out 3
        have hfz27_4 := blk_frozen BK453.out 4
        go_wp2
        refine bodyPost_ret (results_cell_row rfl _ _ gb453 25 #[.int .i64 (wrap64 (Int.tmod a0 4)), .int .u64 x455001_1, .int .u64 x455002_1, .int .u64 x455003_1, .int .u64 x455004_1] (0, 0) _ rfl (by (with_reducible repeat (first | refine blk_drewN ?_ _ | refine blk_drew ?_ | refine blk_alloc ?_ _)); refine blk_put (cs := #[.int .i64 (wrap64 (Int.tmod a0 4)), .int .u64 x455001_1, .int .u64 x455002_1, .int .u64 x455003_1, .int .u64 0]) ?_ 4 _ rfl; (with_reducible repeat (first | refine blk_drewN ?_ _ | refine blk_drew ?_ | refine blk_alloc ?_ _)); refine blk_put (cs := #[.int .i64 (wrap64 (Int.tmod a0 4)), .int .u64 x455001_1, .int .u64 x455002_1, .int .u64 0, .int .u64 0]) ?_ 3 _ rfl; (with_reducible repeat (first | refine blk_drewN ?_ _ | refine blk_drew ?_ | refine blk_alloc ?_ _)); refine blk_put (cs := #[.int .i64 (wrap64 (Int.tmod a0 4)), .int .u64 x455001_1, .int .u64 0, .int .u64 0, .int .u64 0]) ?_ 2 _ rfl; (with_reducible repeat (first | refine blk_drewN ?_ _ | refine blk_drew ?_ | refine blk_alloc ?_ _)); refine blk_put (cs := #[.int .i64 (wrap64 (Int.tmod a0 4)), .int .u64 0, .int .u64 0, .int .u64 0, .int .u64 0]) ?_ 1 _ rfl; (with_reducible repeat (first | refine blk_drewN ?_ _ | refine blk_drew ?_ | refine blk_alloc ?_ _)); refine blk_put (cs := #[.int .i64 0, .int .u64 0, .int .u64 0, .int .u64 0, .int .u64 0]) ?_ 0 _ rfl; (with_reducible repeat (first | refine blk_drewN ?_ _ | refine blk_drew ?_ | refine blk_alloc ?_ _)); exact BK453.out) Tryd.underlying25 rfl (by kernel_rfl)) rfl ?_
        exact ⟨by first | rfl | (simp [errW_none, errW_some] <;> rfl) | (simp [*, errW_none, errW_some] <;> rfl), by repeat (first | (with_reducible first | exact HB.out | apply below_alloc | apply pw_below_drewN | apply below_drew1 | refine below_set ?_ GE452.out | refine below_set ?_ GE453.out | refine below_set ?_ GE454.out) | exact HB.out)⟩

end Go.Proofs.YtkailiemikjfbaaDoor.Q
end
section
namespace Go.Proofs.YtkailiemikjfbaaDoor.Q
open Go.RowKit Go.Proofs.YtkailiemikjfbaaDoorW.PrintWords Go.Proofs.YtkailiemikjfbaaDoorW.PrintLast Go.Proofs.YtkailiemikjfbaaDoorW.PrintMore
open Go.Proofs.YtkailiemikjfbaaDoor.Num
set_option linter.unusedVariables false
set_option linter.unusedSimpArgs false

theorem reduced_f {f : Int} {p g e : Nat} (D : Fd f p g e) (w : Int) (hw : wrap64 (Int.tmod w 4) = f) (s : S4) (k : Nat) (hk : 4 < k) : attestorlaw08_reduced.f k w s.a s.b s.c s.d = some (chO f (red p s)) := by
  obtain ⟨k, rfl⟩ : ∃ j, k = j + 5 := ⟨k - 5, by omega⟩
  unfold attestorlaw08_reduced.f
  rw [hw, attestorlaw08_reduced.l0, if_pos (by decide), if_pos (by decide)]
  refine bnd (rp_eq f) ?_
  rw [D.F.eq, if_neg D.F.ne, v01]
  show attestorlaw08_reduced.l0 _ 1 _ _ _ _ f ((s.a % p : Nat) : Int) s.b s.c s.d = _
  rw [attestorlaw08_reduced.l0, if_pos (by decide), if_pos (by decide)]
  refine bnd (rp_eq f) ?_
  rw [D.F.eq, if_neg D.F.ne, v12]
  show attestorlaw08_reduced.l0 _ 2 _ _ _ _ f ((s.a % p : Nat) : Int) ((s.b % p : Nat) : Int) s.c s.d = _
  rw [attestorlaw08_reduced.l0, if_pos (by decide), if_pos (by decide)]
  refine bnd (rp_eq f) ?_
  rw [D.F.eq, if_neg D.F.ne, v23]
  show attestorlaw08_reduced.l0 _ 3 _ _ _ _ f ((s.a % p : Nat) : Int) ((s.b % p : Nat) : Int) ((s.c % p : Nat) : Int) s.d = _
  rw [attestorlaw08_reduced.l0, if_pos (by decide), if_pos (by decide)]
  refine bnd (rp_eq f) ?_
  rw [D.F.eq, if_neg D.F.ne, v34]
  show attestorlaw08_reduced.l0 _ 4 _ _ _ _ f ((s.a % p : Nat) : Int) ((s.b % p : Nat) : Int) ((s.c % p : Nat) : Int) ((s.d % p : Nat) : Int) = _
  rw [attestorlaw08_reduced.l0, if_neg (by decide)]
  rfl
end Go.Proofs.YtkailiemikjfbaaDoor.Q
end
section
namespace Go.Proofs.YtkailiemikjfbaaDoor.Q
open Go.RowKit Go.Proofs.YtkailiemikjfbaaDoorW.PrintWords Go.Proofs.YtkailiemikjfbaaDoorW.PrintLast Go.Proofs.YtkailiemikjfbaaDoorW.PrintMore
open Go.Proofs.YtkailiemikjfbaaDoor.Num
set_option linter.unusedVariables false
set_option linter.unusedSimpArgs false

theorem draw_both (f : Int) (s : S4) (k : Nat) (hk : 400 ≤ k) : ∃ v, channel_Draw.f k f s.a s.b s.c s.d = some v ∧ attestorref08_Draw.f k f s.a s.b s.c s.d = some v := by
  by_cases h : 0 ≤ f ∧ f < 4
  · obtain ⟨p, g, e, D⟩ := fd_of h.1 h.2
    exact ⟨_, draw_f D k (by omega) s, rdraw_f D k (by omega) s⟩
  · exact ⟨_, draw_no h k _ _ _ _, rdraw_no h k _ _ _ _⟩
theorem pos_both (f : Int) (s : S4) (n : Int) (k : Nat) (hk : 400 ≤ k) : ∃ v, channel_Position.f k f s.a s.b s.c s.d n = some v ∧ attestorref08_Position.f k f s.a s.b s.c s.d n = some v := by
  by_cases h : (0 ≤ f ∧ f < 4) ∧ 0 ≤ n ∧ n ≤ 24
  · obtain ⟨p, g, e, D⟩ := fd_of h.1.1 h.1.2
    obtain ⟨b, rfl⟩ := Int.eq_ofNat_of_zero_le h.2.1
    exact ⟨_, pos_f D k b (by omega) (by omega) s, rpos_f D k b (by omega) (by omega) s⟩
  · exact ⟨_, pos_no n h k _ _ _ _, rpos_no n h k _ _ _ _⟩
theorem grind_both (f : Int) (s : S4) (n : Int) (x : Nat) (k : Nat) (hk : 400 ≤ k) : ∃ v, channel_Grind.f k f s.a s.b s.c s.d x n = some v ∧ attestorref08_Grind.f k f s.a s.b s.c s.d x n = some v := by
  by_cases h : (0 ≤ f ∧ f < 4) ∧ 0 ≤ n ∧ n ≤ 24
  · obtain ⟨p, g, e, D⟩ := fd_of h.1.1 h.1.2
    obtain ⟨b, rfl⟩ := Int.eq_ofNat_of_zero_le h.2.1
    exact ⟨_, grind_f D k b x (by omega) (by omega) s, rgrind_f D k b x (by omega) (by omega) s⟩
  · exact ⟨_, grind_no n h k _ _ _ _ _, rgrind_no n h k _ _ _ _ _⟩
theorem search_both (f : Int) (s : S4) (n most : Int) (k : Nat) (hm : most ≤ 200) (hk : 1000 ≤ k) : ∃ v, channel_Search.f k f s.a s.b s.c s.d n most = some v ∧ attestorref08_Search.f k f s.a s.b s.c s.d n most = some v := by
  by_cases h : (0 ≤ f ∧ f < 4) ∧ 0 ≤ n ∧ n ≤ 24
  · obtain ⟨p, g, e, D⟩ := fd_of h.1.1 h.1.2
    obtain ⟨b, rfl⟩ := Int.eq_ofNat_of_zero_le h.2.1
    have hl : lim p most ≤ 200 := by unfold lim mn; repeat' split <;> omega
    exact ⟨_, search_f D k b most (by omega) (by omega) s, rsearch_f D k b most (by omega) (by omega) s⟩
  · exact ⟨_, search_no n h k _ _ _ _ _, rsearch_no n h k _ _ _ _ _⟩
theorem same5 (a b c d e : Int) : ¬ ((!(a == a) || ((!(b == b) || (!(c == c) || (!(d == d) || (!(e == e)))))))) = true := by simp
theorem mn_le (a b : Int) : mn a b ≤ b := by unfold mn; split <;> omega
theorem tmod_small (a m : Int) (ha : 0 ≤ a) (hm : 0 < m) (hb : m < 1000) : ∃ n : Nat, wrap64 (Int.tmod a m) = (n : Int) ∧ (n : Int) < m := by
  have h0 : 0 ≤ Int.tmod a m := by rw [Int.tmod_eq_emod_of_nonneg ha]; exact Int.emod_nonneg _ (by omega)
  have h1 : Int.tmod a m < m := by rw [Int.tmod_eq_emod_of_nonneg ha]; exact Int.emod_lt_of_pos _ hm
  rw [wrapS (by omega) (by omega)]
  exact ⟨(Int.tmod a m).toNat, by omega, by omega⟩
theorem sr_good (good : Nat → Bool) : ∀ (d n : Nat), ((sr good d n).2 = true → ∃ m : Nat, (sr good d n).1 = m ∧ good m = true ∧ n ≤ m ∧ m < n + d ∧ ∀ i, n ≤ i → i < m → good i = false) ∧ ((sr good d n).2 = false → (sr good d n).1 = 0 ∧ ∀ i, n ≤ i → i < n + d → good i = false)
  | 0, n => ⟨fun h => by simp [sr] at h, fun _ => ⟨rfl, fun i h1 h2 => by omega⟩⟩
  | d + 1, n => by
    have ih := sr_good good d (n + 1)
    unfold sr
    by_cases h : good n = true
    · rw [if_pos h]
      exact ⟨fun _ => ⟨n, rfl, h, Nat.le_refl _, by omega, fun i h1 h2 => by omega⟩, fun h' => by simp at h'⟩
    · rw [if_neg h]
      have hn : good n = false := by simpa using h
      refine ⟨fun h' => ?_, fun h' => ?_⟩
      · obtain ⟨m, e, hm, h1, h2, h3⟩ := ih.1 h'
        refine ⟨m, e, hm, by omega, by omega, fun i i1 i2 => ?_⟩
        by_cases hi : i = n
        · rw [hi]; exact hn
        · exact h3 i (by omega) i2
      · obtain ⟨e, h3⟩ := ih.2 h'
        refine ⟨e, fun i i1 i2 => ?_⟩
        by_cases hi : i = n
        · rw [hi]; exact hn
        · exact h3 i (by omega) (by omega)
theorem mn_cast (m p : Nat) : mn (m : Int) (p : Int) = ((min m p : Nat) : Int) := by unfold mn; split <;> omega
theorem eq5 (a b c d e : Int) : (a == a && ((b == b && (c == c && (d == d && (e == e)))))) = true := by simp
theorem red_red (p : Nat) (s : S4) : red p (red p s) = red p s := by simp only [red, Nat.mod_mod]
end Go.Proofs.YtkailiemikjfbaaDoor.Q
end
section
namespace Go.Proofs.YtkailiemikjfbaaDoor.Q
open Go.RowKit Go.Proofs.YtkailiemikjfbaaDoorW.PrintWords Go.Proofs.YtkailiemikjfbaaDoorW.PrintLast Go.Proofs.YtkailiemikjfbaaDoorW.PrintMore
set_option linter.unusedVariables false
set_option linter.unusedSimpArgs false
def capNums : List S51 → List Int
  | [] => []
  | x :: l => x.f0 :: x.f1 :: capNums l
theorem capNums_length : ∀ l, (capNums l).length = 2 * l.length
  | [] => rfl
  | x :: l => by simp only [capNums, List.length_cons, capNums_length l]; omega
theorem capNums_append : ∀ a b, capNums (a ++ b) = capNums a ++ capNums b
  | [], b => rfl
  | x :: a, b => by simp only [List.cons_append, capNums, capNums_append a b]
theorem capNums_take (l : List S51) (i : Int) (h0 : 0 ≤ i) (h : i < l.length) : capNums (l.take (i + 1).toNat) = capNums (l.take i.toNat) ++ [(rd_T51 l i).f0, (rd_T51 l i).f1] := by
  have e : (i + 1).toNat = i.toNat + 1 := by omega
  have hl : i.toNat < l.length := by omega
  rw [e, List.take_add_one, capNums_append, List.getElem?_eq_getElem hl]
  simp only [rd_T51, List.getD_eq_getElem?_getD, List.getElem?_eq_getElem hl, Option.getD_some, Option.toList_some, capNums]
def channel_AbsorbCap.f (k : Nat) (a0 a1 a2 a3 a4 : Int) (l : List S51) : Option (Int × Int × Int × Int × Int) := if l.length < 1000000 then channel_Absorb.f k a0 a1 a2 a3 a4 (capNums l) else none
theorem channel_AbsorbCap.mono : ∀ a0 a1 a2 a3 a4 l k, LeO (channel_AbsorbCap.f k a0 a1 a2 a3 a4 l) (channel_AbsorbCap.f (k + 1) a0 a1 a2 a3 a4 l) := by
  intro a0 a1 a2 a3 a4 l k
  unfold channel_AbsorbCap.f
  exact LeO.ite (channel_Absorb.mono _ _ _ _ _ _ _) (LeO.refl _)
/-- A row of its own is no block of another type. -/
theorem cap_apart {w : World} {base g e t : Nat} {ok : Nat → Prop} {v : Value} {xs : List Int} {cs : Array Value} (h : Kd.R (Kd.int .u64) e w base ok v xs) (hb : w.heap[g]? = some (.cells cs t (0, 0))) (hne : e ≠ t) : some g ≠ v.ownBlock := by
  intro hg
  obtain ⟨_, inner, ho, _⟩ := h
  obtain ⟨cells, hc⟩ := own_typed ho g hg.symm
  rw [hc] at hb
  injection hb with hb
  injection hb with _ hb
  exact hne hb
/-- A block of two numbers, read as a row. -/
theorem cap_row {w : World} {g t : Nat} {a b : Int} (h : w.heap[g]? = some (.cells #[.int .u64 a, .int .u64 b] t (0, 0))) : Kd.C (Kd.int .u64) w (some ⟨g, 0, none⟩) 2 [a, b] := by
  refine ⟨rfl, by decide, fun _ => ⟨_, rfl, fun j p hj => ?_⟩⟩
  match j, hj with
  | 0, hj => obtain rfl := Option.some.inj hj; exact ⟨[.int .u64 a], rfl, rfl, fun i u hu => by
      match i, hu with
      | 0, hu => obtain rfl := Option.some.inj hu; exact (blk_cell h 0).trans rfl⟩
  | 1, hj => obtain rfl := Option.some.inj hj; exact ⟨[.int .u64 b], rfl, rfl, fun i u hu => by
      match i, hu with
      | 0, hu => obtain rfl := Option.some.inj hu; exact (blk_cell h 1).trans rfl⟩
set_option maxHeartbeats 4000000 in
set_option maxRecDepth 100000 in
theorem channel_AbsorbCap.calls (k : Nat) (a0 a1 a2 a3 a4 : Int) (A1 : Option Addr) (c1 : Nat) (l1 : List S51) (r1 r2 r3 r4 r5 : Int) (w : World) (hr1 : Kd.C k51 w A1 l1.length l1) (hc1 : l1.length ≤ c1) (hrG : GL w) (h : channel_AbsorbCap.f k a0 a1 a2 a3 a4 l1 = some (r1, r2, r3, r4, r5)) :
    Calls Tryd.prog 24 #[.agg #[.int .i64 a0, .int .u64 a1, .int .u64 a2, .int .u64 a3, .int .u64 a4], .slice A1 l1.length c1] w fun e w' => e = .returned (.agg #[.int .i64 r1, .int .u64 r2, .int .u64 r3, .int .u64 r4, .int .u64 r5]) ∧ Below w.heap.size w w' := by
  have hu25 := Tryd.underlying25
  have hu51 := Tryd.underlying51
  have HR1 := Aside0.mk hr1
  have HC1 := Aside0.mk hc1
  have HRG := Aside0.mk hrG
  have HB0 := Aside0.mk (Below.refl w.heap.size w)
  clear hr1 hc1 hrG
  unfold channel_AbsorbCap.f at h
  by_cases hl : l1.length < 1000000
  · rw [if_pos hl] at h
    have H := Aside0.mk h
    have HL := Aside0.mk hl
    clear h hl
    go_enter Tryd.func24, Tryd.ntmps24
    go_wp2_with (first
      | ((with_reducible refine gate_dst (N := 2) rfl ?_); refine box_event ?hg (N := 2) ?hd (cs := #[.int .i64 a0, .int .u64 a1, .int .u64 a2, .int .u64 a3, .int .u64 a4]) (t := 25) ?hr ?_; (case hd => rfl); (case hg => rfl); (case hr => first | (go_simp; done) | (go_simp; rfl)); intro g2 hg w1 hbox hb; have HB2 := Aside0.mk (below_step HB0.out hb); have B2 := Aside0.mk hbox; have G2 := Aside0.mk (show w.heap.size ≤ g2 by omega); clear hbox hb hg)
      | ((with_reducible refine gate_dst (N := 4) rfl ?_); refine box_event ?hg (N := 4) ?hd (cs := #[.int .i64 0, .int .u64 0, .int .u64 0, .int .u64 0, .int .u64 0]) (t := 25) ?hr ?_; (case hd => rfl); (case hg => rfl); (case hr => first | (go_simp; done) | (go_simp; rfl)); intro g4 hg w2 hbox hb; have HB4 := Aside0.mk (below_step HB2.out hb); have B24 := Aside0.mk (blk_below B2.out hb); have B4 := Aside0.mk hbox; have G4 := Aside0.mk (show w.heap.size ≤ g4 by have := below_size HB2.out; omega); have N24 := Aside0.mk (show g2 ≠ g4 by have := blk_lt B2.out; omega); clear hbox hb hg))
    go_loopg [5, 10] (l1.length + 1) (fun kq v5 v10 wr => ∃ n : Int, v10 = .int .i64 n ∧ Aside0 (0 ≤ n) ∧ Aside0 (n + kq = l1.length + 1) ∧ Aside0 (1 ≤ kq) ∧ Aside0 (Kd.R (Kd.int .u64) 22 wr w.heap.size (fun _ => True) v5 (capNums (l1.take n.toNat))) ∧ Aside0 (wr.heap[g2]? = some (.cells #[.int .i64 a0, .int .u64 a1, .int .u64 a2, .int .u64 a3, .int .u64 a4] 25 (0, 0))) ∧ Aside0 (wr.heap[g4]? = some (.cells #[.int .i64 0, .int .u64 0, .int .u64 0, .int .u64 0, .int .u64 0] 25 (0, 0))) ∧ Aside0 (Below w.heap.size w wr))
    case atStart => exact ⟨0, rfl, ⟨by decide⟩, ⟨by omega⟩, ⟨by omega⟩, ⟨Kd.R_nil _ _ _ _ _⟩, B24, B4, HB4⟩
    case round =>
      obtain ⟨n, rfl, N0, NK, NK1, HO, B2r, B4r, HBr⟩ := hrel
      clear B2 B24 B4 HB0 HB2 HB4
      by_cases hn : n < (l1.length : Int)
      · have hnb : decide (n < (l1.length : Int)) = true := decide_eq_true hn
        have hn0 : 0 ≤ n := N0.out
        obtain ⟨ad, rfl, e0, e1⟩ := at_T51 (Kd.C_below HR1.out HBr.out) n hn0 hn
        have X0 := Aside0.mk (e0)
        have X1 := Aside0.mk (e1)
        have hlt : (capNums (l1.take n.toNat)).length < 2000000 := by
          have := HL.out
          rw [capNums_length, List.length_take]
          omega
        have LT := Aside0.mk hlt
        have EQ := Aside0.mk (capNums_take l1 n hn0 hn)
        clear hlt
        generalize hxs : capNums (l1.take n.toNat) = xs at *
        generalize (rd_T51 l1 n).f0 = x at *
        generalize (rd_T51 l1 n).f1 = y at *
        go_wp2_with (first
          | ((with_reducible refine gate_dst (N := 7) rfl ?_); refine box_event ?hg (N := 7) ?hd (cs := #[.int .u64 0, .int .u64 0]) (t := 51) ?hr ?_; (case hd => rfl); (case hg => rfl); (case hr => first | (go_simp; done) | (go_simp; rfl)); intro g7 hg w3 hbox hb; have HB7 := Aside0.mk (below_step HBr.out hb); have B27 := Aside0.mk (blk_below B2r.out hb); have B47 := Aside0.mk (blk_below B4r.out hb); have HO7 := Aside0.mk (Kd.R_below HO.out hb); have B7 := Aside0.mk hbox; have z0 : w3.cell? ⟨g7, 0, none⟩ = some (.int .u64 0) := (blk_cell hbox 0).trans rfl; have z1 : w3.cell? ⟨g7, 1, none⟩ = some (.int .u64 0) := (blk_cell hbox 1).trans rfl; have zf0 := blk_frozen hbox 0; have zf1 := blk_frozen hbox 1; have G7 := Aside0.mk (show w.heap.size ≤ g7 by have := below_size HBr.out; omega); have N27 := Aside0.mk (show g2 ≠ g7 by have := blk_lt B2r.out; omega); have N47 := Aside0.mk (show g4 ≠ g7 by have := blk_lt B4r.out; omega); clear hbox hb hg)
          | ((with_reducible refine gate_builtin (b := .append) (xs := #[.tmp 14, .tmp 15]) rfl ?_); at_builtin; have B7' := blk_put (blk_put B7.out 0 (.int .u64 x) rfl) 1 (.int .u64 y) rfl; have HO8 := Kd.R_set (Kd.R_set HO7.out B7.out (by decide) 0 (.int .u64 x)) (blk_put B7.out 0 (.int .u64 x) rfl) (by decide) 1 (.int .u64 y); have B28 := blk_far (blk_far B27.out (p := ⟨g7, 0, none⟩) N27.out (.int .u64 x)) (p := ⟨g7, 1, none⟩) N27.out (.int .u64 y); have B48 := blk_far (blk_far B47.out (p := ⟨g7, 0, none⟩) N47.out (.int .u64 x)) (p := ⟨g7, 1, none⟩) N47.out (.int .u64 y); have HB8 := below_set (j := 1) (v := .int .u64 y) (below_set (j := 0) (v := .int .u64 x) HB7.out G7.out) G7.out; refine Kd.R_append_row (fun u : Int => Value.int .u64 u) 0 (w0 := w) w.heap.size rfl (.tmp 14) (.tmp 15) 49 22 (.int .u64 0) 8 rfl Tryd.underlying49 info22 rfl (by decide) _ xs [x, y] _ 2 2 (fun _ => True) rfl rfl (fun _ _ => trivial) HO8 (cap_row B7') HB8 (below_size HB8) (by have := LT.out; omega) ?_; intro v1 w6 ho hb hg hat; have HO9 := Aside0.mk ho; have B29 := Aside0.mk (blk_grown B28 hg (cap_apart HO8 B28 (by decide))); have B49 := Aside0.mk (blk_grown B48 hg (cap_apart HO8 B48 (by decide))); have HB9 := Aside0.mk hb; clear ho hb hg hat HO8 B7' B28 B48 HB8))
        go_roundg (gk - 1)
        case measure => have := NK1.out; omega
        case rel => 
          have hw : wrap64 (n + 1) = n + 1 := by have := HL.out; unfold wrap64; omega
          rw [hw]
          exact ⟨n + 1, rfl, ⟨by omega⟩, ⟨by have := NK.out; have := NK1.out; omega⟩, ⟨by have := NK.out; have := NK1.out; omega⟩, ⟨by rw [EQ.out]; exact HO9.out⟩, B29, B49, HB9⟩
      · have hnb : decide (n < (l1.length : Int)) = false := decide_eq_false hn
        have ht : l1.take n.toNat = l1 := List.take_of_length_le (by omega)
        rw [ht] at HO
        obtain ⟨Av, cv, rfl, hcv, hCv⟩ := Kd.R_reads HO.out
        have CV := Aside0.mk hCv
        have HCV := Aside0.mk hcv
        have GL1 := Aside0.mk (GL.below HRG.out HBr.out)
        have s0 : wr.cell? ⟨g2, 0, none⟩ = some (.int .i64 a0) := (blk_cell B2r.out 0).trans rfl
        have s1 : wr.cell? ⟨g2, 1, none⟩ = some (.int .u64 a1) := (blk_cell B2r.out 1).trans rfl
        have s2 : wr.cell? ⟨g2, 2, none⟩ = some (.int .u64 a2) := (blk_cell B2r.out 2).trans rfl
        have s3 : wr.cell? ⟨g2, 3, none⟩ = some (.int .u64 a3) := (blk_cell B2r.out 3).trans rfl
        have s4 : wr.cell? ⟨g2, 4, none⟩ = some (.int .u64 a4) := (blk_cell B2r.out 4).trans rfl
        clear hcv hCv hn ht
        go_wp2_with (go_at_call 22; (with_reducible refine (channel_Absorb.calls k a0 a1 a2 a3 a4 Av cv (capNums l1) r1 r2 r3 r4 r5 _ CV.out HCV.out GL1.out H.out).mono ?_); rintro e w4 ⟨rfl, hb⟩; have HB5 := Aside0.mk (below_step HBr.out hb); have B45 := Aside0.mk (blk_below B4r.out hb); have y0 : w4.cell? ⟨g4, 0, none⟩ = some (.int .i64 0) := (blk_cell B45.out 0).trans rfl; have y1 : w4.cell? ⟨g4, 1, none⟩ = some (.int .u64 0) := (blk_cell B45.out 1).trans rfl; have y2 : w4.cell? ⟨g4, 2, none⟩ = some (.int .u64 0) := (blk_cell B45.out 2).trans rfl; have y3 : w4.cell? ⟨g4, 3, none⟩ = some (.int .u64 0) := (blk_cell B45.out 3).trans rfl; have y4 : w4.cell? ⟨g4, 4, none⟩ = some (.int .u64 0) := (blk_cell B45.out 4).trans rfl; have yf0 := blk_frozen B45.out 0; have yf1 := blk_frozen B45.out 1; have yf2 := blk_frozen B45.out 2; have yf3 := blk_frozen B45.out 3; have yf4 := blk_frozen B45.out 4; clear hb)
        refine bodyPost_ret (results_cell_row rfl _ _ g4 25 #[.int .i64 r1, .int .u64 r2, .int .u64 r3, .int .u64 r4, .int .u64 r5] (0, 0) _ rfl (blk_put (cs := #[.int .i64 r1, .int .u64 r2, .int .u64 r3, .int .u64 r4, .int .u64 0]) (cs' := #[.int .i64 r1, .int .u64 r2, .int .u64 r3, .int .u64 r4, .int .u64 r5]) (blk_put (cs := #[.int .i64 r1, .int .u64 r2, .int .u64 r3, .int .u64 0, .int .u64 0]) (cs' := #[.int .i64 r1, .int .u64 r2, .int .u64 r3, .int .u64 r4, .int .u64 0]) (blk_put (cs := #[.int .i64 r1, .int .u64 r2, .int .u64 0, .int .u64 0, .int .u64 0]) (cs' := #[.int .i64 r1, .int .u64 r2, .int .u64 r3, .int .u64 0, .int .u64 0]) (blk_put (cs := #[.int .i64 r1, .int .u64 0, .int .u64 0, .int .u64 0, .int .u64 0]) (cs' := #[.int .i64 r1, .int .u64 r2, .int .u64 0, .int .u64 0, .int .u64 0]) (blk_put (cs := #[.int .i64 0, .int .u64 0, .int .u64 0, .int .u64 0, .int .u64 0]) (cs' := #[.int .i64 r1, .int .u64 0, .int .u64 0, .int .u64 0, .int .u64 0]) B45.out 0 (.int .i64 r1) rfl) 1 (.int .u64 r2) rfl) 2 (.int .u64 r3) rfl) 3 (.int .u64 r4) rfl) 4 (.int .u64 r5) rfl) Tryd.underlying25 rfl (by kernel_rfl)) rfl ?_
        exact ⟨rfl, below_set (below_set (below_set (below_set (below_set HB5.out G4.out) G4.out) G4.out) G4.out) G4.out⟩
  · rw [if_neg hl] at h
    simp at h
end Go.Proofs.YtkailiemikjfbaaDoor.Q
end
section
namespace Go.Proofs.YtkailiemikjfbaaDoor.Q
open Go.RowKit Go.Proofs.YtkailiemikjfbaaDoorW.PrintWords Go.Proofs.YtkailiemikjfbaaDoorW.PrintLast Go.Proofs.YtkailiemikjfbaaDoorW.PrintMore
attribute [local go_sem] max2_int min2_int max_two min_two max_three min_three max_four min_four   -- for this text's walks alone
set_option linter.unusedVariables false
set_option linter.unusedSimpArgs false

attribute [local go_sem high] eqA25
/-! ### attestorlaw08_ChannelOrder: function 9 -/
mutual
def attestorlaw08_ChannelOrder.l0 : Nat → List (S51) → List Int → Int → Int → Int → Int → Int → Int → Int → Int → Int → Int → Int → Option (Bool)
  | 0, _, _, _, _, _, _, _, _, _, _, _, _, _ => none
  | k + 1, x2, x9, x10, x715000, x715001, x715002, x715003, x715004, x721000, x721001, x721002, x721003, x721004 => if x10 < (x2.length : Int) then (attestorlaw08_ChannelOrder.l1 k x2 x9 x10 0 x715000 x715001 x715002 x715003 x715004 x721000 x721001 x721002 x721003 x721004) else ((channel_AbsorbCap.f k x715000 x715001 x715002 x715003 x715004 x2).bind fun bt721 => (if (bt721.1 == x721000 && ((bt721.2.1 == x721001 && (bt721.2.2.1 == x721002 && (bt721.2.2.2.1 == x721003 && (bt721.2.2.2.2 == x721004)))))) = true then ((channel_Absorb.f k x715000 x715001 x715002 x715003 x715004 x9).bind fun bt726 => (if (bt726.1 == x721000 && ((bt726.2.1 == x721001 && (bt726.2.2.1 == x721002 && (bt726.2.2.2.1 == x721003 && (bt726.2.2.2.2 == x721004)))))) = true then ((attestorlaw08_lives.f k).bind fun t731 => (some t731)) else (none))) else (none)))
def attestorlaw08_ChannelOrder.l1 : Nat → List (S51) → List Int → Int → Int → Int → Int → Int → Int → Int → Int → Int → Int → Int → Int → Option (Bool)
  | 0, _, _, _, _, _, _, _, _, _, _, _, _, _, _ => none
  | k + 1, x2, x9, x10, x11, x715000, x715001, x715002, x715003, x715004, x721000, x721001, x721002, x721003, x721004 => if x11 < 2 then (if 0 ≤ x10 then (if x10 < (x2.length : Int) then (if 0 ≤ x11 then (if x11 = 0 then ((channel_Absorb.f k x721000 x721001 x721002 x721003 x721004 (([(rd_T51 x2 x10).f0] : List Int))).bind fun bt736 => ((attestorref01_P.f x715000).bind fun t742 => (if t742 = 0 then (none) else (if x9.length < 17592186044416 then (attestorlaw08_ChannelOrder.l1 k x2 (x9 ++ [Int.tmod ((rd_T51 x2 x10).f0) t742]) x10 (wrap64 (x11 + 1)) x715000 x715001 x715002 x715003 x715004 bt736.1 bt736.2.1 bt736.2.2.1 bt736.2.2.2.1 bt736.2.2.2.2) else (none))))) else (if x11 = 1 then ((channel_Absorb.f k x721000 x721001 x721002 x721003 x721004 (([(rd_T51 x2 x10).f1] : List Int))).bind fun bt749 => ((attestorref01_P.f x715000).bind fun t755 => (if t755 = 0 then (none) else (if x9.length < 17592186044416 then (attestorlaw08_ChannelOrder.l1 k x2 (x9 ++ [Int.tmod ((rd_T51 x2 x10).f1) t755]) x10 (wrap64 (x11 + 1)) x715000 x715001 x715002 x715003 x715004 bt749.1 bt749.2.1 bt749.2.2.1 bt749.2.2.2.1 bt749.2.2.2.2) else (none))))) else (none))) else (none)) else (none)) else (none)) else (attestorlaw08_ChannelOrder.l0 k x2 x9 (wrap64 (x10 + 1)) x715000 x715001 x715002 x715003 x715004 x721000 x721001 x721002 x721003 x721004)
end
def attestorlaw08_ChannelOrder.f (k : Nat) (a0 : Int) (a1_0 : Int) (a1_1 : Int) (a1_2 : Int) (a1_3 : Int) (l2 : List (S51)) : Option (Bool) := if 0 ≤ (mn (l2.length : Int) 40) then (if (mn (l2.length : Int) 40) ≤ (l2.length : Int) then ((attestorlaw08_reduced.f k a0 a1_0 a1_1 a1_2 a1_3).bind fun bt715 => (attestorlaw08_ChannelOrder.l0 k (l2.take ((mn (l2.length : Int) 40) : Int).toNat) ([] : List Int) 0 (wrap64 (Int.tmod a0 4)) a1_0 a1_1 a1_2 a1_3 bt715.1 bt715.2.1 bt715.2.2.1 bt715.2.2.2.1 bt715.2.2.2.2)) else (none)) else (none)
theorem attestorlaw08_ChannelOrder.mono_l : ∀ k, (∀ y0 y1 y2 y3 y4 y5 y6 y7 y8 y9 y10 y11 y12, LeO (attestorlaw08_ChannelOrder.l0 k y0 y1 y2 y3 y4 y5 y6 y7 y8 y9 y10 y11 y12) (attestorlaw08_ChannelOrder.l0 (k + 1) y0 y1 y2 y3 y4 y5 y6 y7 y8 y9 y10 y11 y12)) ∧ (∀ y0 y1 y2 y3 y4 y5 y6 y7 y8 y9 y10 y11 y12 y13, LeO (attestorlaw08_ChannelOrder.l1 k y0 y1 y2 y3 y4 y5 y6 y7 y8 y9 y10 y11 y12 y13) (attestorlaw08_ChannelOrder.l1 (k + 1) y0 y1 y2 y3 y4 y5 y6 y7 y8 y9 y10 y11 y12 y13))
  | 0 => ⟨fun _ _ _ _ _ _ _ _ _ _ _ _ _ r h => by simp [attestorlaw08_ChannelOrder.l0] at h, fun _ _ _ _ _ _ _ _ _ _ _ _ _ _ r h => by simp [attestorlaw08_ChannelOrder.l1] at h⟩
  | k + 1 => by
    obtain ⟨ih0, ih1⟩ := attestorlaw08_ChannelOrder.mono_l k
    refine ⟨?_, ?_⟩
    · intro y0 y1 y2 y3 y4 y5 y6 y7 y8 y9 y10 y11 y12
      unfold attestorlaw08_ChannelOrder.l0
      repeat' first
      | (with_reducible exact ih0 _ _ _ _ _ _ _ _ _ _ _ _ _)
      | (with_reducible exact ih1 _ _ _ _ _ _ _ _ _ _ _ _ _ _)
      | (with_reducible exact attestorlaw08_lives.mono _)
      | (with_reducible exact attestorlaw08_reduced.mono _ _ _ _ _ _)
      | (with_reducible exact channel_Absorb.mono _ _ _ _ _ _ _)
      | (with_reducible exact channel_AbsorbCap.mono _ _ _ _ _ _ _)
      | (with_reducible exact LeO.refl _)
      | (with_reducible exact LeO.none _)
      | (with_reducible refine LeO.ite ?_ ?_)
      | (with_reducible refine LeO.bind ?_ (fun _ => ?_))
      | exact ih0 _ _ _ _ _ _ _ _ _ _ _ _ _
      | exact ih1 _ _ _ _ _ _ _ _ _ _ _ _ _ _
      | exact attestorlaw08_lives.mono _
      | exact attestorlaw08_reduced.mono _ _ _ _ _ _
      | exact channel_Absorb.mono _ _ _ _ _ _ _
      | exact channel_AbsorbCap.mono _ _ _ _ _ _ _
      | exact LeO.none _
      | refine LeO.ite ?_ ?_
      | refine LeO.bind ?_ (fun _ => ?_)
    · intro y0 y1 y2 y3 y4 y5 y6 y7 y8 y9 y10 y11 y12 y13
      unfold attestorlaw08_ChannelOrder.l1
      repeat' first
      | (with_reducible exact ih0 _ _ _ _ _ _ _ _ _ _ _ _ _)
      | (with_reducible exact ih1 _ _ _ _ _ _ _ _ _ _ _ _ _ _)
      | (with_reducible exact attestorlaw08_lives.mono _)
      | (with_reducible exact attestorlaw08_reduced.mono _ _ _ _ _ _)
      | (with_reducible exact channel_Absorb.mono _ _ _ _ _ _ _)
      | (with_reducible exact channel_AbsorbCap.mono _ _ _ _ _ _ _)
      | (with_reducible exact LeO.refl _)
      | (with_reducible exact LeO.none _)
      | (with_reducible refine LeO.ite ?_ ?_)
      | (with_reducible refine LeO.bind ?_ (fun _ => ?_))
      | exact ih0 _ _ _ _ _ _ _ _ _ _ _ _ _
      | exact ih1 _ _ _ _ _ _ _ _ _ _ _ _ _ _
      | exact attestorlaw08_lives.mono _
      | exact attestorlaw08_reduced.mono _ _ _ _ _ _
      | exact channel_Absorb.mono _ _ _ _ _ _ _
      | exact channel_AbsorbCap.mono _ _ _ _ _ _ _
      | exact LeO.none _
      | refine LeO.ite ?_ ?_
      | refine LeO.bind ?_ (fun _ => ?_)
theorem attestorlaw08_ChannelOrder.mono : ∀ a0 a1 a2 a3 a4 a5 k, LeO (attestorlaw08_ChannelOrder.f k a0 a1 a2 a3 a4 a5) (attestorlaw08_ChannelOrder.f (k + 1) a0 a1 a2 a3 a4 a5) := by
  intro a0 a1 a2 a3 a4 a5 k
  obtain ⟨ih0, ih1⟩ := attestorlaw08_ChannelOrder.mono_l k
  unfold attestorlaw08_ChannelOrder.f
  repeat' first
      | (with_reducible exact ih0 _ _ _ _ _ _ _ _ _ _ _ _ _)
      | (with_reducible exact ih1 _ _ _ _ _ _ _ _ _ _ _ _ _ _)
      | (with_reducible exact attestorlaw08_lives.mono _)
      | (with_reducible exact attestorlaw08_reduced.mono _ _ _ _ _ _)
      | (with_reducible exact channel_Absorb.mono _ _ _ _ _ _ _)
      | (with_reducible exact channel_AbsorbCap.mono _ _ _ _ _ _ _)
      | (with_reducible exact LeO.refl _)
      | (with_reducible exact LeO.none _)
      | (with_reducible refine LeO.ite ?_ ?_)
      | (with_reducible refine LeO.bind ?_ (fun _ => ?_))
      | exact ih0 _ _ _ _ _ _ _ _ _ _ _ _ _
      | exact ih1 _ _ _ _ _ _ _ _ _ _ _ _ _ _
      | exact attestorlaw08_lives.mono _
      | exact attestorlaw08_reduced.mono _ _ _ _ _ _
      | exact channel_Absorb.mono _ _ _ _ _ _ _
      | exact channel_AbsorbCap.mono _ _ _ _ _ _ _
      | exact LeO.none _
      | refine LeO.ite ?_ ?_
      | refine LeO.bind ?_ (fun _ => ?_)
def attestorlaw08_ChannelOrder.T11 : Bool × List (List Nat × List Nat) := (true, [([], []), ([], []), ([], []), ([], []), ([1, 2], [1, 2]), ([4, 3], [3, 4]), ([5], [5]), ([6], [6]), ([0, 7], [0, 7]), ([8, 8, 0, 1, 2, 3, 4, 5, 6, 7, 8], [8])])
def attestorlaw08_ChannelOrder.B11 : List Nat := [0, 0, 0, 0, 6, 30, 62, 126, 255, 511]
theorem attestorlaw08_ChannelOrder.tab11 : rtab .any (opsOf Tryd.f9 11) = attestorlaw08_ChannelOrder.T11 := by kernel_rfl
theorem attestorlaw08_ChannelOrder.bits11 : waitsOk attestorlaw08_ChannelOrder.T11.2 attestorlaw08_ChannelOrder.B11 = true := by kernel_rfl
def attestorlaw08_ChannelOrder.T12 : Bool × List (List Nat × List Nat) := (true, [([], []), ([], []), ([], []), ([], []), ([1, 2], [1, 2]), ([4, 3], [3, 4]), ([5], [5]), ([], []), ([7], [7]), ([8], [8]), ([6, 9], [6, 9]), ([10], [10]), ([0, 11, 9], [0, 11]), ([12, 12, 0, 1, 2, 3, 4, 5, 6, 7, 8, 9, 10, 11, 12], [0, 12])])
def attestorlaw08_ChannelOrder.B12 : List Nat := [0, 0, 0, 0, 6, 30, 62, 0, 128, 384, 1022, 2046, 4095, 8191]
theorem attestorlaw08_ChannelOrder.tab12 : rtab .any (opsOf Tryd.f9 12) = attestorlaw08_ChannelOrder.T12 := by kernel_rfl
theorem attestorlaw08_ChannelOrder.bits12 : waitsOk attestorlaw08_ChannelOrder.T12.2 attestorlaw08_ChannelOrder.B12 = true := by kernel_rfl
def attestorlaw08_ChannelOrder.T13 : Bool × List (List Nat × List Nat) := (true, [([], []), ([], []), ([0, 1], [0, 1]), ([], []), ([2, 3], [2, 3]), ([4, 2], [4]), ([5], [5]), ([5], [5]), ([6, 7, 5, 5], [5, 6, 7]), ([5], [5]), ([8, 9, 5], [5, 8, 9]), ([5, 10], [5, 10]), ([11, 8], [11]), ([12, 12], [12]), ([12, 13], [12, 13]), ([14, 13, 0, 1, 2, 3, 4, 5, 6, 7, 8, 9, 10, 11, 12, 13, 14], [14])])
def attestorlaw08_ChannelOrder.B13 : List Nat := [0, 0, 3, 0, 15, 31, 63, 63, 255, 63, 1023, 2047, 4095, 8191, 16383, 32767]
theorem attestorlaw08_ChannelOrder.tab13 : rtab .any (opsOf Tryd.f9 13) = attestorlaw08_ChannelOrder.T13 := by kernel_rfl
theorem attestorlaw08_ChannelOrder.bits13 : waitsOk attestorlaw08_ChannelOrder.T13.2 attestorlaw08_ChannelOrder.B13 = true := by kernel_rfl
set_option maxHeartbeats 8000000 in
set_option maxRecDepth 100000 in
theorem attestorlaw08_ChannelOrder.calls (k : Nat) (a0 : Int) (a1_0 : Int) (a1_1 : Int) (a1_2 : Int) (a1_3 : Int) (A2 : Option Addr) (c2 : Nat) (l2 : List (S51)) (r : Bool) (w : World) (hr2 : Kd.C k51 w A2 l2.length l2) (hc2 : l2.length ≤ c2) (hrG : GL w) (h : attestorlaw08_ChannelOrder.f k a0 a1_0 a1_1 a1_2 a1_3 l2 = some r) :
    Calls Tryd.prog 9 #[.int .u8 a0, .agg #[.int .u64 a1_0, .int .u64 a1_1, .int .u64 a1_2, .int .u64 a1_3], .slice A2 l2.length c2] w fun e w' => e = .returned (.bool r) ∧ Below w.heap.size w w' := by
  have hu23 := Tryd.underlying23
  have hu25 := Tryd.underlying25
  have hu51 := Tryd.underlying51
  have HRG := Aside0.mk hrG
  clear hrG
  have HR2 := Aside0.mk hr2
  have HC2 := Aside0.mk hc2
  clear hr2 hc2
  have HB := Aside0.mk (Below.refl w.heap.size w)
  have H : (if 0 ≤ (mn (l2.length : Int) 40) then (if (mn (l2.length : Int) 40) ≤ (l2.length : Int) then ((attestorlaw08_reduced.f k a0 a1_0 a1_1 a1_2 a1_3).bind fun bt715 => (attestorlaw08_ChannelOrder.l0 k (l2.take ((mn (l2.length : Int) 40) : Int).toNat) ([] : List Int) 0 (wrap64 (Int.tmod a0 4)) a1_0 a1_1 a1_2 a1_3 bt715.1 bt715.2.1 bt715.2.2.1 bt715.2.2.2.1 bt715.2.2.2.2)) else (none)) else (none)) = some r := h
  clear h
  obtain ⟨ji4, hji4⟩ : ∃ j_ : Int, (mn (l2.length : Int) 40) = j_ := ⟨_, rfl⟩
  replace H : (if 0 ≤ (ji4) then (if (ji4) ≤ (l2.length : Int) then ((attestorlaw08_reduced.f k a0 a1_0 a1_1 a1_2 a1_3).bind fun bt715 => (attestorlaw08_ChannelOrder.l0 k (l2.take ((ji4) : Int).toNat) ([] : List Int) 0 (wrap64 (Int.tmod a0 4)) a1_0 a1_1 a1_2 a1_3 bt715.1 bt715.2.1 bt715.2.2.1 bt715.2.2.2.1 bt715.2.2.2.2)) else (none)) else (none)) = some r := by first | (rw [hji4] at H; exact H) | (simp only [hji4] at H ⊢; exact H)
  (try (have hji4h : ji4 ≤ 40 := by (rw [← hji4]; unfold mn; (repeat' split) <;> omega)))
  (try (have hji4g : ji4 ≤ 64 := by omega))
  (try (have hji4l : 0 ≤ ji4 := by (rw [← hji4]; unfold mn; (repeat' split) <;> omega)))
  (try (have hji4m : 0 ≤ ji4 := by omega))
  have hji4_ : (if 40 < (l2.length : Int) then 40 else (l2.length : Int)) = ji4 := hji4
  by_cases c5 : 0 ≤ (ji4)
  · rw [if_pos c5] at H
    have c5b0 := eq_true c5
    have c5b1 : decide (0 ≤ (ji4)) = true := decide_eq_true c5
    clear c5
    by_cases c6 : (ji4) ≤ (l2.length : Int)
    · rw [if_pos c6] at H
      have c6b0 := eq_true c6
      have c6b1 : decide ((ji4) ≤ (l2.length : Int)) = true := decide_eq_true c6
      clear c6
      obtain ⟨y710, hy710⟩ : ∃ y_ : List (S51), y_ = (l2.take ((ji4) : Int).toNat) := ⟨_, rfl⟩
      replace H : ((attestorlaw08_reduced.f k a0 a1_0 a1_1 a1_2 a1_3).bind fun bt715 => (attestorlaw08_ChannelOrder.l0 k y710 ([] : List Int) 0 (wrap64 (Int.tmod a0 4)) a1_0 a1_1 a1_2 a1_3 bt715.1 bt715.2.1 bt715.2.2.1 bt715.2.2.2.1 bt715.2.2.2.2)) = some r := by first | (rw [hy710]; with_reducible exact H) | (have H2_ := (Option.bind_some _ _).symm.trans H; rw [hy710]; with_reducible exact H2_) | (have H2_ := (Option.bind_some _ _).symm.trans H; with_reducible exact H2_) | with_reducible exact H | (rw [hy710]; exact H) | exact H
      have Ny710 := Aside0.mk hy710
      clear hy710
      replace H := Option.bind_eq_some_iff.mp H
      obtain ⟨⟨t715, t716, t717, t718, t719⟩, A70, H⟩ := H
      replace H : (attestorlaw08_ChannelOrder.l0 k y710 ([] : List Int) 0 (wrap64 (Int.tmod a0 4)) a1_0 a1_1 a1_2 a1_3 t715 t716 t717 t718 t719) = some r := H
      have A7 := Aside0.mk A70
      clear A70
      have H' := Aside0.mk H
      clear H
      go_enter Tryd.func9, Tryd.ntmps9
      go_wp2_with (first | ((with_reducible refine gate_dst (N := 4) rfl ?_); refine box_event ?hg (N := 4) ?hd (cs := #[.int .u64 a1_0, .int .u64 a1_1, .int .u64 a1_2, .int .u64 a1_3]) (t := 23) ?hr ?_; (case hd => rfl); (case hg => rfl); (case hr => first | (go_simp; done) | (go_simp; rfl)); intro gb709 hg w8 hbox hb; have n0_ := Aside0.mk (below_step (by repeat (first | (with_reducible first | exact HB.out | apply below_alloc | apply pw_below_drewN | apply below_drew1) | exact HB.out)) hb); have n1_ := Aside0.mk (hbox); have n2_ := Aside0.mk ((by rw [hg]; exact (below_size (by repeat (first | (with_reducible first | exact HB.out | apply below_alloc | apply pw_below_drewN | apply below_drew1) | exact HB.out))) : w.heap.size ≤ gb709)); have n3_ := Aside0.mk ((by rw [hg]; exact (below_size (by repeat (first | (with_reducible first | exact HB.out | apply below_alloc | apply pw_below_drewN | apply below_drew1) | exact HB.out))) : w.heap.size ≤ gb709)); clear HB; have HB := n0_; have BK709 := n1_; have GW709 := n2_; have GE709 := n3_; clear n0_ n1_ n2_ n3_; clear hb hbox hg; have q9 : ((ji4) : Int) ≤ ((l2.length : Int) : Int) := of_decide_eq_true (by first | (with_reducible assumption) | assumption); obtain ⟨i09, hi09, _, hsz9, _⟩ := info_parts info51; have hroom9 : l2.length ≤ c2 := HC2.out; have hC9 : Kd.C k51 _ A2 l2.length l2 := HR2.out; have hcut9 := cut_to (P := Tryd.prog) 48 51 .i64 Tryd.underlying48 hi09 A2 l2.length c2 (ji4) (of_decide_eq_true (by first | (with_reducible assumption) | assumption)) q9 hroom9; have hr9 := Kd.C_take (m := ((ji4) : Int).toNat) hC9 (by omega); have hy9 : y710.length = ((ji4) : Int).toNat := (by rw [Ny710.out, List.length_take]; omega); rw [← Ny710.out] at hr9; rw [← hy9] at hcut9; have HR713 := Aside0.mk hr9; have HC713 := Aside0.mk (show y710.length ≤ c2 from by omega); clear hr9 hC9 hroom9 hi09 hsz9; have KY9 := Aside0.mk hy9; clear hy9; replace q9 := eq_true q9; have hcz10_0 : w8.cell? ⟨gb709, 0, none⟩ = some (.int .u64 a1_0) := (blk_cell BK709.out 0).trans rfl; have hcz10_1 : w8.cell? ⟨gb709, 1, none⟩ = some (.int .u64 a1_1) := (blk_cell BK709.out 1).trans rfl; have hcz10_2 : w8.cell? ⟨gb709, 2, none⟩ = some (.int .u64 a1_2) := (blk_cell BK709.out 2).trans rfl; have hcz10_3 : w8.cell? ⟨gb709, 3, none⟩ = some (.int .u64 a1_3) := (blk_cell BK709.out 3).trans rfl; have hfz10_0 := blk_frozen BK709.out 0; have hfz10_1 := blk_frozen BK709.out 1; have hfz10_2 := blk_frozen BK709.out 2; have hfz10_3 := blk_frozen BK709.out 3) | ((with_reducible refine gate_dst (N := 7) rfl ?_); refine box_event ?hg (N := 7) ?hd (cs := #[.int .i64 0, .int .u64 0, .int .u64 0, .int .u64 0, .int .u64 0]) (t := 25) ?hr ?_; (case hd => rfl); (case hg => rfl); (case hr => first | (go_simp; done) | (go_simp; rfl)); intro gb714 hg w11 hbox hb; have n0_ := Aside0.mk (blk_below (g := gb709) (o := .cells #[.int .u64 a1_0, .int .u64 a1_1, .int .u64 a1_2, .int .u64 a1_3] 23 (0, 0)) (by (with_reducible repeat (first | refine blk_drewN ?_ _ | refine blk_drew ?_ | refine blk_alloc ?_ _)); exact BK709.out) hb); have n1_ := Aside0.mk (below_step (by repeat (first | (with_reducible first | exact HB.out | apply below_alloc | apply pw_below_drewN | apply below_drew1 | refine below_set ?_ GE709.out) | exact HB.out)) hb); have n2_ := Aside0.mk (hbox); have n3_ := Aside0.mk ((by rw [hg]; exact (below_size (by repeat (first | (with_reducible first | exact HB.out | apply below_alloc | apply pw_below_drewN | apply below_drew1 | refine below_set ?_ GE709.out) | exact HB.out))) : w.heap.size ≤ gb714)); have n4_ := Aside0.mk ((by rw [hg]; exact (below_size (by repeat (first | (with_reducible first | exact HB.out | apply below_alloc | apply pw_below_drewN | apply below_drew1 | refine below_set ?_ GE709.out) | exact HB.out))) : w.heap.size ≤ gb714)); have n5_ := Aside0.mk ((by rw [hg]; exact Nat.ne_of_lt (blk_lt (g := gb709) (o := .cells #[.int .u64 a1_0, .int .u64 a1_1, .int .u64 a1_2, .int .u64 a1_3] 23 (0, 0)) (by (with_reducible repeat (first | refine blk_drewN ?_ _ | refine blk_drew ?_ | refine blk_alloc ?_ _)); exact BK709.out)) : gb709 ≠ gb714)); have n6_ := Aside0.mk ((by rw [hg]; exact Nat.ne_of_gt (blk_lt (g := gb709) (o := .cells #[.int .u64 a1_0, .int .u64 a1_1, .int .u64 a1_2, .int .u64 a1_3] 23 (0, 0)) (by (with_reducible repeat (first | refine blk_drewN ?_ _ | refine blk_drew ?_ | refine blk_alloc ?_ _)); exact BK709.out)) : gb714 ≠ gb709)); clear BK709; clear HB; have BK709 := n0_; have HB := n1_; have BK714 := n2_; have GW714 := n3_; have GE714 := n4_; have NB709_714 := n5_; have NB714_709 := n6_; clear n0_ n1_ n2_ n3_ n4_ n5_ n6_; clear hb hbox hg; have hnb12 := NB714_709.out; have hnc12 := NB709_714.out; have hcz13_0 : w11.cell? ⟨gb714, 0, none⟩ = some (.int .i64 0) := (blk_cell BK714.out 0).trans rfl; have hcz13_1 : w11.cell? ⟨gb714, 1, none⟩ = some (.int .u64 0) := (blk_cell BK714.out 1).trans rfl; have hcz13_2 : w11.cell? ⟨gb714, 2, none⟩ = some (.int .u64 0) := (blk_cell BK714.out 2).trans rfl; have hcz13_3 : w11.cell? ⟨gb714, 3, none⟩ = some (.int .u64 0) := (blk_cell BK714.out 3).trans rfl; have hcz13_4 : w11.cell? ⟨gb714, 4, none⟩ = some (.int .u64 0) := (blk_cell BK714.out 4).trans rfl; have hfz13_0 := blk_frozen BK714.out 0; have hfz13_1 := blk_frozen BK714.out 1; have hfz13_2 := blk_frozen BK714.out 2; have hfz13_3 := blk_frozen BK714.out 3; have hfz13_4 := blk_frozen BK714.out 4; have hcz14_0 : w11.cell? ⟨gb709, 0, none⟩ = some (.int .u64 a1_0) := (blk_cell BK709.out 0).trans rfl; have hcz14_1 : w11.cell? ⟨gb709, 1, none⟩ = some (.int .u64 a1_1) := (blk_cell BK709.out 1).trans rfl; have hcz14_2 : w11.cell? ⟨gb709, 2, none⟩ = some (.int .u64 a1_2) := (blk_cell BK709.out 2).trans rfl; have hcz14_3 : w11.cell? ⟨gb709, 3, none⟩ = some (.int .u64 a1_3) := (blk_cell BK709.out 3).trans rfl; have hfz14_0 := blk_frozen BK709.out 0; have hfz14_1 := blk_frozen BK709.out 1; have hfz14_2 := blk_frozen BK709.out 2; have hfz14_3 := blk_frozen BK709.out 3) | ((with_reducible refine gate_callee (f := 19) rfl ?_); refine goesL_ (some 24) rfl rfl Tryd.func19 (by kernel_rfl) rfl #[.int .u8 a0, .agg #[.int .u64 a1_0, .int .u64 a1_1, .int .u64 a1_2, .int .u64 a1_3]] rfl (by (try simp only [List.map_toArray, List.map_cons, List.map_nil]); first | done | rfl | (simp only [List.length_drop, List.length_take]; rfl) | (go_simp; done) | (go_simp; rw [Int.tmod_eq_emod_of_nonneg (by omega)]; omega)) ?_; (with_reducible refine (attestorlaw08_reduced.calls k a0 a1_0 a1_1 a1_2 a1_3 t715 t716 t717 t718 t719 _ A7.out).mono ?_); rintro e w15 ⟨rfl, hb⟩; refine ⟨_, rfl, ?_⟩; have n0_ := Aside0.mk (blk_below (g := gb709) (o := .cells #[.int .u64 a1_0, .int .u64 a1_1, .int .u64 a1_2, .int .u64 a1_3] 23 (0, 0)) (by (with_reducible repeat (first | refine blk_drewN ?_ _ | refine blk_drew ?_ | refine blk_alloc ?_ _)); refine blk_far ?_ NB709_714.out _; (with_reducible repeat (first | refine blk_drewN ?_ _ | refine blk_drew ?_ | refine blk_alloc ?_ _)); refine blk_far ?_ NB709_714.out _; (with_reducible repeat (first | refine blk_drewN ?_ _ | refine blk_drew ?_ | refine blk_alloc ?_ _)); refine blk_far ?_ NB709_714.out _; (with_reducible repeat (first | refine blk_drewN ?_ _ | refine blk_drew ?_ | refine blk_alloc ?_ _)); refine blk_far ?_ NB709_714.out _; (with_reducible repeat (first | refine blk_drewN ?_ _ | refine blk_drew ?_ | refine blk_alloc ?_ _)); refine blk_far ?_ NB709_714.out _; (with_reducible repeat (first | refine blk_drewN ?_ _ | refine blk_drew ?_ | refine blk_alloc ?_ _)); exact BK709.out) hb); have n1_ := Aside0.mk (blk_below (g := gb714) (o := .cells #[.int .i64 (wrap64 (Int.tmod a0 4)), .int .u64 a1_0, .int .u64 a1_1, .int .u64 a1_2, .int .u64 a1_3] 25 (0, 0)) (by (with_reducible repeat (first | refine blk_drewN ?_ _ | refine blk_drew ?_ | refine blk_alloc ?_ _)); refine blk_put (cs := #[.int .i64 (wrap64 (Int.tmod a0 4)), .int .u64 a1_0, .int .u64 a1_1, .int .u64 a1_2, .int .u64 0]) ?_ 4 _ rfl; (with_reducible repeat (first | refine blk_drewN ?_ _ | refine blk_drew ?_ | refine blk_alloc ?_ _)); refine blk_put (cs := #[.int .i64 (wrap64 (Int.tmod a0 4)), .int .u64 a1_0, .int .u64 a1_1, .int .u64 0, .int .u64 0]) ?_ 3 _ rfl; (with_reducible repeat (first | refine blk_drewN ?_ _ | refine blk_drew ?_ | refine blk_alloc ?_ _)); refine blk_put (cs := #[.int .i64 (wrap64 (Int.tmod a0 4)), .int .u64 a1_0, .int .u64 0, .int .u64 0, .int .u64 0]) ?_ 2 _ rfl; (with_reducible repeat (first | refine blk_drewN ?_ _ | refine blk_drew ?_ | refine blk_alloc ?_ _)); refine blk_put (cs := #[.int .i64 (wrap64 (Int.tmod a0 4)), .int .u64 0, .int .u64 0, .int .u64 0, .int .u64 0]) ?_ 1 _ rfl; (with_reducible repeat (first | refine blk_drewN ?_ _ | refine blk_drew ?_ | refine blk_alloc ?_ _)); refine blk_put (cs := #[.int .i64 0, .int .u64 0, .int .u64 0, .int .u64 0, .int .u64 0]) ?_ 0 _ rfl; (with_reducible repeat (first | refine blk_drewN ?_ _ | refine blk_drew ?_ | refine blk_alloc ?_ _)); exact BK714.out) hb); have n2_ := Aside0.mk (below_step (by repeat (first | (with_reducible first | exact HB.out | apply below_alloc | apply pw_below_drewN | apply below_drew1 | refine below_set ?_ GE709.out | refine below_set ?_ GE714.out) | exact HB.out)) hb); clear BK709; clear BK714; clear HB; have BK709 := n0_; have BK714 := n1_; have HB := n2_; clear n0_ n1_ n2_; (try clear hb); (try clear hb2); (try clear hk); (try clear hi)) | ((with_reducible refine gate_dst (N := 8) rfl ?_); refine box_event ?hg (N := 8) ?hd (cs := #[.int .i64 0, .int .u64 0, .int .u64 0, .int .u64 0, .int .u64 0]) (t := 25) ?hr ?_; (case hd => rfl); (case hg => rfl); (case hr => first | (go_simp; done) | (go_simp; rfl)); intro gb720 hg w16 hbox hb; have n0_ := Aside0.mk (blk_below (g := gb709) (o := .cells #[.int .u64 a1_0, .int .u64 a1_1, .int .u64 a1_2, .int .u64 a1_3] 23 (0, 0)) (by (with_reducible repeat (first | refine blk_drewN ?_ _ | refine blk_drew ?_ | refine blk_alloc ?_ _)); exact BK709.out) hb); have n1_ := Aside0.mk (blk_below (g := gb714) (o := .cells #[.int .i64 (wrap64 (Int.tmod a0 4)), .int .u64 a1_0, .int .u64 a1_1, .int .u64 a1_2, .int .u64 a1_3] 25 (0, 0)) (by (with_reducible repeat (first | refine blk_drewN ?_ _ | refine blk_drew ?_ | refine blk_alloc ?_ _)); exact BK714.out) hb); have n2_ := Aside0.mk (below_step (by repeat (first | (with_reducible first | exact HB.out | apply below_alloc | apply pw_below_drewN | apply below_drew1 | refine below_set ?_ GE709.out | refine below_set ?_ GE714.out) | exact HB.out)) hb); have n3_ := Aside0.mk (hbox); have n4_ := Aside0.mk ((by rw [hg]; exact (below_size (by repeat (first | (with_reducible first | exact HB.out | apply below_alloc | apply pw_below_drewN | apply below_drew1 | refine below_set ?_ GE709.out | refine below_set ?_ GE714.out) | exact HB.out))) : w.heap.size ≤ gb720)); have n5_ := Aside0.mk ((by rw [hg]; exact (below_size (by repeat (first | (with_reducible first | exact HB.out | apply below_alloc | apply pw_below_drewN | apply below_drew1 | refine below_set ?_ GE709.out | refine below_set ?_ GE714.out) | exact HB.out))) : w.heap.size ≤ gb720)); have n6_ := Aside0.mk ((by rw [hg]; exact Nat.ne_of_lt (blk_lt (g := gb709) (o := .cells #[.int .u64 a1_0, .int .u64 a1_1, .int .u64 a1_2, .int .u64 a1_3] 23 (0, 0)) (by (with_reducible repeat (first | refine blk_drewN ?_ _ | refine blk_drew ?_ | refine blk_alloc ?_ _)); exact BK709.out)) : gb709 ≠ gb720)); have n7_ := Aside0.mk ((by rw [hg]; exact Nat.ne_of_gt (blk_lt (g := gb709) (o := .cells #[.int .u64 a1_0, .int .u64 a1_1, .int .u64 a1_2, .int .u64 a1_3] 23 (0, 0)) (by (with_reducible repeat (first | refine blk_drewN ?_ _ | refine blk_drew ?_ | refine blk_alloc ?_ _)); exact BK709.out)) : gb720 ≠ gb709)); have n8_ := Aside0.mk ((by rw [hg]; exact Nat.ne_of_lt (blk_lt (g := gb714) (o := .cells #[.int .i64 (wrap64 (Int.tmod a0 4)), .int .u64 a1_0, .int .u64 a1_1, .int .u64 a1_2, .int .u64 a1_3] 25 (0, 0)) (by (with_reducible repeat (first | refine blk_drewN ?_ _ | refine blk_drew ?_ | refine blk_alloc ?_ _)); exact BK714.out)) : gb714 ≠ gb720)); have n9_ := Aside0.mk ((by rw [hg]; exact Nat.ne_of_gt (blk_lt (g := gb714) (o := .cells #[.int .i64 (wrap64 (Int.tmod a0 4)), .int .u64 a1_0, .int .u64 a1_1, .int .u64 a1_2, .int .u64 a1_3] 25 (0, 0)) (by (with_reducible repeat (first | refine blk_drewN ?_ _ | refine blk_drew ?_ | refine blk_alloc ?_ _)); exact BK714.out)) : gb720 ≠ gb714)); clear BK709; clear BK714; clear HB; have BK709 := n0_; have BK714 := n1_; have HB := n2_; have BK720 := n3_; have GW720 := n4_; have GE720 := n5_; have NB709_720 := n6_; have NB720_709 := n7_; have NB714_720 := n8_; have NB720_714 := n9_; clear n0_ n1_ n2_ n3_ n4_ n5_ n6_ n7_ n8_ n9_; clear hb hbox hg; have hnb17 := NB720_709.out; have hnc17 := NB709_720.out; have hnb18 := NB720_714.out; have hnc18 := NB714_720.out; have hcz19_0 : w16.cell? ⟨gb720, 0, none⟩ = some (.int .i64 0) := (blk_cell BK720.out 0).trans rfl; have hcz19_1 : w16.cell? ⟨gb720, 1, none⟩ = some (.int .u64 0) := (blk_cell BK720.out 1).trans rfl; have hcz19_2 : w16.cell? ⟨gb720, 2, none⟩ = some (.int .u64 0) := (blk_cell BK720.out 2).trans rfl; have hcz19_3 : w16.cell? ⟨gb720, 3, none⟩ = some (.int .u64 0) := (blk_cell BK720.out 3).trans rfl; have hcz19_4 : w16.cell? ⟨gb720, 4, none⟩ = some (.int .u64 0) := (blk_cell BK720.out 4).trans rfl; have hfz19_0 := blk_frozen BK720.out 0; have hfz19_1 := blk_frozen BK720.out 1; have hfz19_2 := blk_frozen BK720.out 2; have hfz19_3 := blk_frozen BK720.out 3; have hfz19_4 := blk_frozen BK720.out 4))
      go_loopg [9, 10] k (fun kq v9 v10 w' => ∃ (x9_1 : List Int) (x10_1 : Int) (x721000_1 : Int) (x721001_1 : Int) (x721002_1 : Int) (x721003_1 : Int) (x721004_1 : Int), v10 = .int .i64 x10_1 ∧ Aside0 (attestorlaw08_ChannelOrder.l0 kq y710 x9_1 x10_1 (wrap64 (Int.tmod a0 4)) a1_0 a1_1 a1_2 a1_3 x721000_1 x721001_1 x721002_1 x721003_1 x721004_1 = some r) ∧ Aside0 (kq ≤ k) ∧ Aside0 (Kd.R (Kd.int .u64) 22 w' w.heap.size (fun _ => True) v9 x9_1) ∧ Aside0 (w'.heap[gb709]? = some (.cells #[.int .u64 a1_0, .int .u64 a1_1, .int .u64 a1_2, .int .u64 a1_3] 23 (0, 0))) ∧ Aside0 (w'.heap[gb714]? = some (.cells #[.int .i64 (wrap64 (Int.tmod a0 4)), .int .u64 a1_0, .int .u64 a1_1, .int .u64 a1_2, .int .u64 a1_3] 25 (0, 0))) ∧ Aside0 (w'.heap[gb720]? = some (.cells #[.int .i64 x721000_1, .int .u64 x721001_1, .int .u64 x721002_1, .int .u64 x721003_1, .int .u64 x721004_1] 25 (0, 0))) ∧ Aside0 (Below w.heap.size w w'))
      case atStart => exact ⟨(([] : List Int)), (0), (t715), (t716), (t717), (t718), (t719), (by first | rfl | (simp; done) | (simp [*]; done) | (simp; rfl) | (simp; decide +kernel)), H', ⟨Nat.le_refl _⟩, ⟨by first | exact Kd.R_nil _ _ _ _ _ | exact Kd.N_nil _ _ _ _ _ | exact Kd.V_nil _ _ _ _ _ | exact Kd.Q_nil _ _ _ _ _ | exact Kd.S_nil _ _ _ _ _⟩, ⟨by (with_reducible repeat (first | refine blk_drewN ?_ _ | refine blk_drew ?_ | refine blk_alloc ?_ _)); refine blk_far ?_ NB709_720.out _; (with_reducible repeat (first | refine blk_drewN ?_ _ | refine blk_drew ?_ | refine blk_alloc ?_ _)); refine blk_far ?_ NB709_720.out _; (with_reducible repeat (first | refine blk_drewN ?_ _ | refine blk_drew ?_ | refine blk_alloc ?_ _)); refine blk_far ?_ NB709_720.out _; (with_reducible repeat (first | refine blk_drewN ?_ _ | refine blk_drew ?_ | refine blk_alloc ?_ _)); refine blk_far ?_ NB709_720.out _; (with_reducible repeat (first | refine blk_drewN ?_ _ | refine blk_drew ?_ | refine blk_alloc ?_ _)); refine blk_far ?_ NB709_720.out _; (with_reducible repeat (first | refine blk_drewN ?_ _ | refine blk_drew ?_ | refine blk_alloc ?_ _)); exact BK709.out⟩, ⟨by (with_reducible repeat (first | refine blk_drewN ?_ _ | refine blk_drew ?_ | refine blk_alloc ?_ _)); refine blk_far ?_ NB714_720.out _; (with_reducible repeat (first | refine blk_drewN ?_ _ | refine blk_drew ?_ | refine blk_alloc ?_ _)); refine blk_far ?_ NB714_720.out _; (with_reducible repeat (first | refine blk_drewN ?_ _ | refine blk_drew ?_ | refine blk_alloc ?_ _)); refine blk_far ?_ NB714_720.out _; (with_reducible repeat (first | refine blk_drewN ?_ _ | refine blk_drew ?_ | refine blk_alloc ?_ _)); refine blk_far ?_ NB714_720.out _; (with_reducible repeat (first | refine blk_drewN ?_ _ | refine blk_drew ?_ | refine blk_alloc ?_ _)); refine blk_far ?_ NB714_720.out _; (with_reducible repeat (first | refine blk_drewN ?_ _ | refine blk_drew ?_ | refine blk_alloc ?_ _)); exact BK714.out⟩, ⟨by (with_reducible repeat (first | refine blk_drewN ?_ _ | refine blk_drew ?_ | refine blk_alloc ?_ _)); refine blk_put (cs := #[.int .i64 t715, .int .u64 t716, .int .u64 t717, .int .u64 t718, .int .u64 0]) ?_ 4 _ rfl; (with_reducible repeat (first | refine blk_drewN ?_ _ | refine blk_drew ?_ | refine blk_alloc ?_ _)); refine blk_put (cs := #[.int .i64 t715, .int .u64 t716, .int .u64 t717, .int .u64 0, .int .u64 0]) ?_ 3 _ rfl; (with_reducible repeat (first | refine blk_drewN ?_ _ | refine blk_drew ?_ | refine blk_alloc ?_ _)); refine blk_put (cs := #[.int .i64 t715, .int .u64 t716, .int .u64 0, .int .u64 0, .int .u64 0]) ?_ 2 _ rfl; (with_reducible repeat (first | refine blk_drewN ?_ _ | refine blk_drew ?_ | refine blk_alloc ?_ _)); refine blk_put (cs := #[.int .i64 t715, .int .u64 0, .int .u64 0, .int .u64 0, .int .u64 0]) ?_ 1 _ rfl; (with_reducible repeat (first | refine blk_drewN ?_ _ | refine blk_drew ?_ | refine blk_alloc ?_ _)); refine blk_put (cs := #[.int .i64 0, .int .u64 0, .int .u64 0, .int .u64 0, .int .u64 0]) ?_ 0 _ rfl; (with_reducible repeat (first | refine blk_drewN ?_ _ | refine blk_drew ?_ | refine blk_alloc ?_ _)); exact BK720.out⟩, ⟨by repeat (first | (with_reducible first | exact HB.out | apply below_alloc | apply pw_below_drewN | apply below_drew1 | refine below_set ?_ GE709.out | refine below_set ?_ GE714.out | refine below_set ?_ GE720.out) | exact HB.out)⟩⟩
      case round =>
        clear H'
        try clear c1
        try clear c2
        try clear p2
        try clear c5
        try clear c5b0
        try clear c5b1
        try clear c6
        try clear c6b0
        try clear c6b1
        try clear p6
        try clear c9
        try clear q9
        try clear c12
        try clear c17
        try clear c18
        try clear c19
        try clear hcz10_0
        try clear hcz10_1
        try clear hcz10_2
        try clear hcz10_3
        try clear hcz13_0
        try clear hcz13_1
        try clear hcz13_2
        try clear hcz13_3
        try clear hcz13_4
        try clear hcz14_0
        try clear hcz14_1
        try clear hcz14_2
        try clear hcz14_3
        try clear hcz19_0
        try clear hcz19_1
        try clear hcz19_2
        try clear hcz19_3
        try clear hcz19_4
        try clear hfz10_0
        try clear hfz10_1
        try clear hfz10_2
        try clear hfz10_3
        try clear hfz13_0
        try clear hfz13_1
        try clear hfz13_2
        try clear hfz13_3
        try clear hfz13_4
        try clear hfz14_0
        try clear hfz14_1
        try clear hfz14_2
        try clear hfz14_3
        try clear hfz19_0
        try clear hfz19_1
        try clear hfz19_2
        try clear hfz19_3
        try clear hfz19_4
        try clear q9
        obtain ⟨x9_1, x10_1, x721000_1, x721001_1, x721002_1, x721003_1, x721004_1, rfl, HA, HK1, HO_9, BK709, BK714, BK720, HB⟩ := hrel
        cases gk with
        | zero => exact absurd HA.out (by simp [attestorlaw08_ChannelOrder.l0])
        | succ k1 =>
          have H := HA.out
          clear HA
          simp only [attestorlaw08_ChannelOrder.l0] at H
          by_cases c20 : x10_1 < (y710.length : Int)
          · rw [if_pos c20] at H
            have c20b0 : decide (x10_1 < (y710.length : Int)) = true := decide_eq_true c20
            clear c20
            have H' := Aside0.mk H
            clear H
            go_wp2
            go_loopg [9, 11] k1 (fun kq v9 v11 w' => ∃ (x9_2 : List Int) (x11_2 : Int) (x721000_2 : Int) (x721001_2 : Int) (x721002_2 : Int) (x721003_2 : Int) (x721004_2 : Int), v11 = .int .i64 x11_2 ∧ Aside0 (attestorlaw08_ChannelOrder.l1 kq y710 x9_2 x10_1 x11_2 (wrap64 (Int.tmod a0 4)) a1_0 a1_1 a1_2 a1_3 x721000_2 x721001_2 x721002_2 x721003_2 x721004_2 = some r) ∧ Aside0 (kq ≤ k1) ∧ Aside0 (Kd.R (Kd.int .u64) 22 w' w.heap.size (fun _ => True) v9 x9_2) ∧ Aside0 (w'.heap[gb709]? = some (.cells #[.int .u64 a1_0, .int .u64 a1_1, .int .u64 a1_2, .int .u64 a1_3] 23 (0, 0))) ∧ Aside0 (w'.heap[gb714]? = some (.cells #[.int .i64 (wrap64 (Int.tmod a0 4)), .int .u64 a1_0, .int .u64 a1_1, .int .u64 a1_2, .int .u64 a1_3] 25 (0, 0))) ∧ Aside0 (w'.heap[gb720]? = some (.cells #[.int .i64 x721000_2, .int .u64 x721001_2, .int .u64 x721002_2, .int .u64 x721003_2, .int .u64 x721004_2] 25 (0, 0))) ∧ Aside0 (Below w.heap.size w w'))
            case atStart => exact ⟨(x9_1), (0), (x721000_1), (x721001_1), (x721002_1), (x721003_1), (x721004_1), (by first | rfl | (simp; done) | (simp [*]; done) | (simp; rfl) | (simp; decide +kernel)), H', ⟨Nat.le_refl _⟩, ⟨by (with_reducible repeat (first | apply Kd.R_alloc | apply Kd.R_drewN | apply Kd.R_drew)); exact HO_9.out⟩, ⟨by (with_reducible repeat (first | refine blk_drewN ?_ _ | refine blk_drew ?_ | refine blk_alloc ?_ _)); exact BK709.out⟩, ⟨by (with_reducible repeat (first | refine blk_drewN ?_ _ | refine blk_drew ?_ | refine blk_alloc ?_ _)); exact BK714.out⟩, ⟨by (with_reducible repeat (first | refine blk_drewN ?_ _ | refine blk_drew ?_ | refine blk_alloc ?_ _)); exact BK720.out⟩, ⟨by repeat (first | (with_reducible first | exact HB.out | apply below_alloc | apply pw_below_drewN | apply below_drew1 | refine below_set ?_ GE709.out | refine below_set ?_ GE714.out | refine below_set ?_ GE720.out) | exact HB.out)⟩⟩
            case round =>
              clear H'
              try clear c1
              try clear c2
              try clear p2
              try clear c5
              try clear c5b0
              try clear c5b1
              try clear c6
              try clear c6b0
              try clear c6b1
              try clear p6
              try clear c9
              try clear q9
              try clear c12
              try clear c17
              try clear c18
              try clear c19
              try clear c20
              try clear c20b0
              try clear hcz10_0
              try clear hcz10_1
              try clear hcz10_2
              try clear hcz10_3
              try clear hcz13_0
              try clear hcz13_1
              try clear hcz13_2
              try clear hcz13_3
              try clear hcz13_4
              try clear hcz14_0
              try clear hcz14_1
              try clear hcz14_2
              try clear hcz14_3
              try clear hcz19_0
              try clear hcz19_1
              try clear hcz19_2
              try clear hcz19_3
              try clear hcz19_4
              try clear hfz10_0
              try clear hfz10_1
              try clear hfz10_2
              try clear hfz10_3
              try clear hfz13_0
              try clear hfz13_1
              try clear hfz13_2
              try clear hfz13_3
              try clear hfz13_4
              try clear hfz14_0
              try clear hfz14_1
              try clear hfz14_2
              try clear hfz14_3
              try clear hfz19_0
              try clear hfz19_1
              try clear hfz19_2
              try clear hfz19_3
              try clear hfz19_4
              try clear p2
              try clear p6
              try clear q9
              obtain ⟨x9_2, x11_2, x721000_2, x721001_2, x721002_2, x721003_2, x721004_2, rfl, HA, HK2, HO_9, BK709, BK714, BK720, HB⟩ := hrel
              cases gk with
              | zero => exact absurd HA.out (by simp [attestorlaw08_ChannelOrder.l1])
              | succ k2 =>
                have H := HA.out
                clear HA
                simp only [attestorlaw08_ChannelOrder.l1] at H
                by_cases c21 : x11_2 < 2
                · rw [if_pos c21] at H
                  have c21b0 : decide (x11_2 < 2) = true := decide_eq_true c21
                  clear c21
                  by_cases c22 : 0 ≤ x10_1
                  · rw [if_pos c22] at H
                    have c22b0 : decide (0 ≤ x10_1) = true := decide_eq_true c22
                    clear c22
                    by_cases c23 : x10_1 < (y710.length : Int)
                    · rw [if_pos c23] at H
                      have c23b0 : decide (x10_1 < (y710.length : Int)) = true := decide_eq_true c23
                      clear c23
                      by_cases c24 : 0 ≤ x11_2
                      · rw [if_pos c24] at H
                        have c24b0 : decide (0 ≤ x11_2) = true := decide_eq_true c24
                        clear c24
                        by_cases c25 : x11_2 = 0
                        · rw [if_pos c25] at H
                          subst c25
                          obtain ⟨y733, hy733⟩ : ∃ y_ : List Int, y_ = (([(rd_T51 y710 x10_1).f0] : List Int)) := ⟨_, rfl⟩
                          replace H : ((channel_Absorb.f k2 x721000_2 x721001_2 x721002_2 x721003_2 x721004_2 y733).bind fun bt736 => ((attestorref01_P.f (wrap64 (Int.tmod a0 4))).bind fun t742 => (if t742 = 0 then (none) else (if x9_2.length < 17592186044416 then (attestorlaw08_ChannelOrder.l1 k2 y710 (x9_2 ++ [Int.tmod ((rd_T51 y710 x10_1).f0) t742]) x10_1 (wrap64 (0 + 1)) (wrap64 (Int.tmod a0 4)) a1_0 a1_1 a1_2 a1_3 bt736.1 bt736.2.1 bt736.2.2.1 bt736.2.2.2.1 bt736.2.2.2.2) else (none))))) = some r := by first | (rw [hy733]; with_reducible exact H) | (have H2_ := (Option.bind_some _ _).symm.trans H; rw [hy733]; with_reducible exact H2_) | (have H2_ := (Option.bind_some _ _).symm.trans H; with_reducible exact H2_) | with_reducible exact H | (rw [hy733]; exact H) | exact H
                          have Ny733 := Aside0.mk hy733
                          clear hy733
                          replace H := Option.bind_eq_some_iff.mp H
                          obtain ⟨⟨t736, t737, t738, t739, t740⟩, A260, H⟩ := H
                          replace H : ((attestorref01_P.f (wrap64 (Int.tmod a0 4))).bind fun t742 => (if t742 = 0 then (none) else (if x9_2.length < 17592186044416 then (attestorlaw08_ChannelOrder.l1 k2 y710 (x9_2 ++ [Int.tmod ((rd_T51 y710 x10_1).f0) t742]) x10_1 (wrap64 (0 + 1)) (wrap64 (Int.tmod a0 4)) a1_0 a1_1 a1_2 a1_3 t736 t737 t738 t739 t740) else (none)))) = some r := H
                          have A26 := Aside0.mk A260
                          clear A260
                          replace H := Option.bind_eq_some_iff.mp H
                          obtain ⟨t742, A270, H⟩ := H
                          replace H : (if t742 = 0 then (none) else (if x9_2.length < 17592186044416 then (attestorlaw08_ChannelOrder.l1 k2 y710 (x9_2 ++ [Int.tmod ((rd_T51 y710 x10_1).f0) t742]) x10_1 (wrap64 (0 + 1)) (wrap64 (Int.tmod a0 4)) a1_0 a1_1 a1_2 a1_3 t736 t737 t738 t739 t740) else (none))) = some r := H
                          have A27 := Aside0.mk A270
                          clear A270
                          by_cases c28 : t742 = 0
                          · rw [if_pos c28] at H
                            exact absurd H (by simp)
                          · rw [if_neg c28] at H
                            have c28b0 : (t742 == 0) = false := beq_eq_false_iff_ne.mpr c28
                            have c28b1 : (t742 != 0) = true := bne_iff_ne.mpr c28
                            by_cases c29 : x9_2.length < 17592186044416
                            · rw [if_pos c29] at H
                              have LMc29 := Aside0.mk c29
                              clear c29
                              obtain ⟨y743, hy743⟩ : ∃ y_ : List Int, y_ = (x9_2 ++ [Int.tmod ((rd_T51 y710 x10_1).f0) t742]) := ⟨_, rfl⟩
                              replace H : (attestorlaw08_ChannelOrder.l1 k2 y710 y743 x10_1 (wrap64 (0 + 1)) (wrap64 (Int.tmod a0 4)) a1_0 a1_1 a1_2 a1_3 t736 t737 t738 t739 t740) = some r := by first | (rw [hy743]; with_reducible exact H) | (have H2_ := (Option.bind_some _ _).symm.trans H; rw [hy743]; with_reducible exact H2_) | (have H2_ := (Option.bind_some _ _).symm.trans H; with_reducible exact H2_) | with_reducible exact H | (rw [hy743]; exact H) | exact H
                              have Ny743 := Aside0.mk hy743
                              clear hy743
                              have H' := Aside0.mk H
                              clear H
                              try go_wp2
                              have n0_ := Aside0.mk (Kd.R_drew HO_9.out)
                              have n1_ := Aside0.mk (blk_drew BK709.out)
                              have n2_ := Aside0.mk (blk_drew BK714.out)
                              have n3_ := Aside0.mk (blk_drew BK720.out)
                              have n4_ := Aside0.mk (below_drew1 HB.out)
                              clear HO_9
                              clear BK709
                              clear BK714
                              clear BK720
                              clear HB
                              have HO_9 := n0_
                              have BK709 := n1_
                              have BK714 := n2_
                              have BK720 := n3_
                              have HB := n4_
                              clear n0_ n1_ n2_ n3_ n4_
                              have p732 : 0 ≤ (x10_1 : Int) := of_decide_eq_true (by first | (with_reducible assumption) | assumption)
                              have q732 : x10_1 < (y710.length : Int) := of_decide_eq_true (by first | (with_reducible assumption) | assumption)
                              obtain ⟨ad732, e732, hx732_0, hx732_1⟩ := at_T51 HR713.out x10_1 p732 q732
                              have hw732_1 := hx732_1
                              have hw732_0 := hx732_0
                              cases e732
                              replace hx732_0 := (HB.out.cell (World.block_lt_of_cell? w _ hx732_0)).trans hx732_0
                              replace hx732_1 := (HB.out.cell (World.block_lt_of_cell? w _ hx732_1)).trans hx732_1
                              replace p732 := eq_true p732
                              replace q732 := eq_true q732
                              refine start_ (n := 10) (S := fun w' => w'.cell? ⟨gb720, 0, none⟩ = some (.int .i64 x721000_2) ∧ w'.cell? ⟨gb720, 1, none⟩ = some (.int .u64 x721001_2) ∧ w'.cell? ⟨gb720, 2, none⟩ = some (.int .u64 x721002_2) ∧ w'.cell? ⟨gb720, 3, none⟩ = some (.int .u64 x721003_2) ∧ w'.cell? ⟨gb720, 4, none⟩ = some (.int .u64 x721004_2) ∧ w'.cell? (ad732.add ((x10_1).toNat * 2)) = some (.int .u64 ((rd_T51 y710 x10_1).f0)) ∧ w'.cell? ⟨(ad732.add ((x10_1).toNat * 2)).block, (ad732.add ((x10_1).toNat * 2)).off + 1, none⟩ = some (.int .u64 ((rd_T51 y710 x10_1).f1))) (ds := [9]) #[false, false, false, false, false, false, false, false, false, false] (by kernel_rfl) rfl rfl ⟨(blk_cell BK720.out 0).trans rfl, (blk_cell BK720.out 1).trans rfl, (blk_cell BK720.out 2).trans rfl, (blk_cell BK720.out 3).trans rfl, (blk_cell BK720.out 4).trans rfl, ((HB.out.cell (World.block_lt_of_cell? w _ hw732_0)).trans hw732_0), ((HB.out.cell (World.block_lt_of_cell? w _ hw732_1)).trans hw732_1)⟩ (fun hHeld => ?_); refine with_tabW attestorlaw08_ChannelOrder.tab11 attestorlaw08_ChannelOrder.bits11 (fun HT_ HW_ => ?_)
                              generalize wr.drew = w30 at HO_9 BK709 BK714 BK720 HB hx732_0 hx732_1 hHeld ⊢
                              refine pure_ (i := 1) (N := some 36) (v := ?_) (a' := ?_) #[false, true, false, false, false, false, false, false, false, false] rfl rfl (any_of HT_.out (by kernel_rfl)) (fun _ _ _ h => h) (Or.inl ⟨by rfl, ?_⟩) ?_ ?_
                              rotate_left
                              · intro w'
                                go_simp
                                with_reducible rfl
                              rotate_left
                              · simp only [Act.put, List.setIfInBounds_toArray, List.set_cons_zero, List.set_cons_succ, i64_w, i32_w]
                                rfl
                              refine pure_ (i := 2) (N := some 37) (v := ?_) (a' := ?_) #[false, true, true, false, false, false, false, false, false, false] rfl rfl (any_of HT_.out (by kernel_rfl)) (fun _ _ _ h => h) (Or.inl ⟨by rfl, ?_⟩) ?_ ?_
                              rotate_left
                              · intro w'
                                go_simp
                                with_reducible rfl
                              rotate_left
                              · simp only [Act.put, List.setIfInBounds_toArray, List.set_cons_zero, List.set_cons_succ, i64_w, i32_w]
                                rfl
                              refine pure_ (i := 3) (N := some 38) (v := ?_) (a' := ?_) #[false, true, true, true, false, false, false, false, false, false] rfl rfl (any_of HT_.out (by kernel_rfl)) (fun _ _ _ h => h) (Or.inl ⟨by rfl, ?_⟩) ?_ ?_
                              rotate_left
                              · intro w'
                                go_simp
                                with_reducible rfl
                              rotate_left
                              · simp only [Act.put, List.setIfInBounds_toArray, List.set_cons_zero, List.set_cons_succ, i64_w, i32_w]
                                rfl
                              refine pure_ (i := 4) (N := some 39) (v := ?_) (a' := ?_) #[false, true, true, true, true, false, false, false, false, false] rfl rfl (any_of HT_.out (by kernel_rfl)) (fun _ _ _ h => h) (Or.inl ⟨by rfl, ?_⟩) ?_ ?_
                              rotate_left
                              · intro w'
                                go_simp
                                with_reducible rfl
                              rotate_left
                              · simp only [Act.put, List.setIfInBounds_toArray, List.set_cons_zero, List.set_cons_succ, i64_w, i32_w]
                                rfl
                              refine pure_ (i := 5) (N := some 40) (v := ?_) (a' := ?_) #[false, true, true, true, true, true, false, false, false, false] rfl rfl (any_of HT_.out (by kernel_rfl)) (fun _ _ _ h => h) (Or.inl ⟨by rfl, ?_⟩) ?_ ?_
                              rotate_left
                              · intro w'
                                go_simp
                                with_reducible rfl
                              rotate_left
                              · simp only [Act.put, List.setIfInBounds_toArray, List.set_cons_zero, List.set_cons_succ, i64_w, i32_w]
                                rfl
                              refine take_ (i := 0) (N := some 35) (v := ?_) (a' := ?_) #[true, true, true, true, true, true, false, false, false, false] rfl rfl (take_ofW HT_.out HW_.out (by kernel_rfl)) (fun _ _ _ h => h) (Or.inl ⟨by rfl, ?_⟩) hHeld ?_ ?_
                              rotate_left
                              · rintro w' ⟨s0, s1, s2, s3, s4, s5, s6⟩
                                go_simp
                                with_reducible rfl
                              rotate_left
                              · simp only [Act.put, List.setIfInBounds_toArray, List.set_cons_zero, List.set_cons_succ, i64_w, i32_w]
                                rfl
                              refine take_ (i := 6) (N := some 41) (v := ?_) (a' := ?_) #[true, true, true, true, true, true, true, false, false, false] rfl rfl (take_ofW HT_.out HW_.out (by kernel_rfl)) (fun _ _ _ h => h) (Or.inl ⟨by rfl, ?_⟩) hHeld ?_ ?_
                              rotate_left
                              · rintro w' ⟨s0, s1, s2, s3, s4, s5, s6⟩
                                go_simp
                                with_reducible rfl
                              rotate_left
                              · simp only [Act.put, List.setIfInBounds_toArray, List.set_cons_zero, List.set_cons_succ, i64_w, i32_w]
                                rfl
                              refine one_ (i := 7) (N := some 42) #[true, true, true, true, true, true, true, true, false, false] rfl rfl (one_of HT_.out (by kernel_rfl)) (by decide) (fun K hK => ?_)
                              refine Kd.R_lit_step (Kd.int .u64) _ 22 ?hg (N := 42) ?hd (xs := ([(rd_T51 y710 x10_1).f0] : List Int)) (inner := [.int .u64 ((rd_T51 y710 x10_1).f0)]) (ok := fun _ => True) (okp := fun _ => True) ?hr ?hp (fun _ hk => hk) trivial (Below.refl _ _) (Nat.le_refl _) (by simp) ?_; (case hd => rfl); (case hg => rfl); (case hr => first | (go_simp; done) | (go_simp; rfl)); (case hp => exact (Reps.one (show Kd.M (Kd.int .u64) _ _ _ ((rd_T51 y710 x10_1).f0) [.int .u64 ((rd_T51 y710 x10_1).f0)] from rfl) (Reps.none _ _)))
                              intro v734 w31 ho32 hb hg_ hnew_
                              clear hg_ hnew_
                              (first | rw [← Ny733.out] at ho32 | (simp only [Int.reduceToNat] at ho32; rw [← Ny733.out] at ho32))
                              have n0_ := Aside0.mk (Kd.R_elder' (by (with_reducible repeat (first | apply Kd.R_alloc | apply Kd.R_drewN | apply Kd.R_drew)); exact HO_9.out) (Kd.R_base ho32) hb)
                              have n1_ := Aside0.mk (Kd.R_lower (Kd.R_new' ho32 (Kd.R_lt (by (with_reducible repeat (first | apply Kd.R_alloc | apply Kd.R_drewN | apply Kd.R_drew)); exact HO_9.out))) (below_size (by repeat (first | (with_reducible first | exact HB.out | apply below_alloc | apply pw_below_drewN | apply below_drew1 | refine below_set ?_ GE709.out | refine below_set ?_ GE714.out | refine below_set ?_ GE720.out) | exact HB.out))))
                              have n2_ := Aside0.mk (blk_below (g := gb709) (o := .cells #[.int .u64 a1_0, .int .u64 a1_1, .int .u64 a1_2, .int .u64 a1_3] 23 (0, 0)) (by (with_reducible repeat (first | refine blk_drewN ?_ _ | refine blk_drew ?_ | refine blk_alloc ?_ _)); exact BK709.out) hb)
                              have n3_ := Aside0.mk (blk_below (g := gb714) (o := .cells #[.int .i64 (wrap64 (Int.tmod a0 4)), .int .u64 a1_0, .int .u64 a1_1, .int .u64 a1_2, .int .u64 a1_3] 25 (0, 0)) (by (with_reducible repeat (first | refine blk_drewN ?_ _ | refine blk_drew ?_ | refine blk_alloc ?_ _)); exact BK714.out) hb)
                              have n4_ := Aside0.mk (blk_below (g := gb720) (o := .cells #[.int .i64 x721000_2, .int .u64 x721001_2, .int .u64 x721002_2, .int .u64 x721003_2, .int .u64 x721004_2] 25 (0, 0)) (by (with_reducible repeat (first | refine blk_drewN ?_ _ | refine blk_drew ?_ | refine blk_alloc ?_ _)); exact BK720.out) hb)
                              have n5_ := Aside0.mk (below_step (by repeat (first | (with_reducible first | exact HB.out | apply below_alloc | apply pw_below_drewN | apply below_drew1 | refine below_set ?_ GE709.out | refine below_set ?_ GE714.out | refine below_set ?_ GE720.out) | exact HB.out)) hb)
                              clear HO_9
                              clear BK709
                              clear BK714
                              clear BK720
                              clear HB
                              have HO_9 := n0_
                              have HO735 := n1_
                              have BK709 := n2_
                              have BK714 := n3_
                              have BK720 := n4_
                              have HB := n5_
                              clear n0_ n1_ n2_ n3_ n4_ n5_
                              clear hb ho32
                              obtain ⟨Ao33, co33, eo33⟩ := Kd.R_slice HO735.out
                              (first | subst eo33 | (injection eo33 with f1_ f2_ f3_; have f4_ := f1_.symm; have f5_ := f3_.symm; clear f1_ f2_ f3_; subst f4_; subst f5_))
                              refine hK.out _ _ ⟨(blk_cell BK720.out 0).trans rfl, (blk_cell BK720.out 1).trans rfl, (blk_cell BK720.out 2).trans rfl, (blk_cell BK720.out 3).trans rfl, (blk_cell BK720.out 4).trans rfl, ((HB.out.cell (World.block_lt_of_cell? w _ hw732_0)).trans hw732_0), ((HB.out.cell (World.block_lt_of_cell? w _ hw732_1)).trans hw732_1)⟩ (fun hHeld => ?_)
                              clear hK K
                              refine norm_ (a' := ?_) ?_ ?_
                              rotate_left
                              · show Act.put _ (some 42) _ = _
                                simp only [Act.put, List.setIfInBounds_toArray, List.set_cons_zero, List.set_cons_succ, i64_w, i32_w]
                                rfl
                              refine one_ (i := 8) (N := some 43) #[true, true, true, true, true, true, true, true, true, false] rfl rfl (one_of HT_.out (by kernel_rfl)) (by decide) (fun K hK => ?_)
                              refine goes_ Tryd.func22 (by kernel_rfl) rfl #[.agg #[.int .i64 x721000_2, .int .u64 x721001_2, .int .u64 x721002_2, .int .u64 x721003_2, .int .u64 x721004_2], .slice Ao33 y733.length co33] (by rfl) rfl rfl (by (try simp only [List.map_toArray, List.map_cons, List.map_nil]); first | done | rfl | (simp only [List.length_drop, List.length_take]; rfl) | (go_simp; done) | (go_simp; rw [Int.tmod_eq_emod_of_nonneg (by omega)]; omega)) ?_
                              with_reducible refine (channel_Absorb.calls k2 x721000_2 x721001_2 x721002_2 x721003_2 x721004_2 _ _ y733 t736 t737 t738 t739 t740 _ ?side1 ?side2 ?side3 A26.out).mono ?_
                              (case side1 => repeat (first | exact (Kd.R_reads' HO735.out).2.2 | (with_reducible refine Kd.C_alloc ?_ _) | (with_reducible refine Kd.C_drewN ?_ _) | (with_reducible refine Kd.C_drew ?_)))
                              (case side2 => exact (Kd.R_reads' HO735.out).2.1)
                              (case side3 => repeat (first | exact (GL.below HRG.out HB.out) | (with_reducible refine GL.alloc ?_ _) | (with_reducible refine GL.drewN ?_ _) | (with_reducible refine GL.drew ?_)))
                              rintro e w34 ⟨rfl, hb⟩
                              refine ⟨_, rfl, ?_⟩
                              have n0_ := Aside0.mk (Kd.R_below (by (with_reducible repeat (first | apply Kd.R_alloc | apply Kd.R_drewN | apply Kd.R_drew)); exact HO_9.out) hb)
                              have n1_ := Aside0.mk (Kd.R_below (by (with_reducible repeat (first | apply Kd.R_alloc | apply Kd.R_drewN | apply Kd.R_drew)); exact HO735.out) hb)
                              have n2_ := Aside0.mk (blk_below (g := gb709) (o := .cells #[.int .u64 a1_0, .int .u64 a1_1, .int .u64 a1_2, .int .u64 a1_3] 23 (0, 0)) (by (with_reducible repeat (first | refine blk_drewN ?_ _ | refine blk_drew ?_ | refine blk_alloc ?_ _)); exact BK709.out) hb)
                              have n3_ := Aside0.mk (blk_below (g := gb714) (o := .cells #[.int .i64 (wrap64 (Int.tmod a0 4)), .int .u64 a1_0, .int .u64 a1_1, .int .u64 a1_2, .int .u64 a1_3] 25 (0, 0)) (by (with_reducible repeat (first | refine blk_drewN ?_ _ | refine blk_drew ?_ | refine blk_alloc ?_ _)); exact BK714.out) hb)
                              have n4_ := Aside0.mk (blk_below (g := gb720) (o := .cells #[.int .i64 x721000_2, .int .u64 x721001_2, .int .u64 x721002_2, .int .u64 x721003_2, .int .u64 x721004_2] 25 (0, 0)) (by (with_reducible repeat (first | refine blk_drewN ?_ _ | refine blk_drew ?_ | refine blk_alloc ?_ _)); exact BK720.out) hb)
                              have n5_ := Aside0.mk (below_step (by repeat (first | (with_reducible first | exact HB.out | apply below_alloc | apply pw_below_drewN | apply below_drew1 | refine below_set ?_ GE709.out | refine below_set ?_ GE714.out | refine below_set ?_ GE720.out) | exact HB.out)) hb)
                              clear HO_9
                              clear HO735
                              clear BK709
                              clear BK714
                              clear BK720
                              clear HB
                              have HO_9 := n0_
                              have HO735 := n1_
                              have BK709 := n2_
                              have BK714 := n3_
                              have BK720 := n4_
                              have HB := n5_
                              clear n0_ n1_ n2_ n3_ n4_ n5_
                              (try clear hb)
                              (try clear hb2)
                              (try clear hk)
                              (try clear hi)
                              refine hK.out _ _ ⟨(blk_cell BK720.out 0).trans rfl, (blk_cell BK720.out 1).trans rfl, (blk_cell BK720.out 2).trans rfl, (blk_cell BK720.out 3).trans rfl, (blk_cell BK720.out 4).trans rfl, ((HB.out.cell (World.block_lt_of_cell? w _ hw732_0)).trans hw732_0), ((HB.out.cell (World.block_lt_of_cell? w _ hw732_1)).trans hw732_1)⟩ (fun hHeld => ?_)
                              clear hK K
                              refine norm_ (a' := ?_) ?_ ?_
                              rotate_left
                              · show Act.put _ (some 43) _ = _
                                simp only [Act.put, List.setIfInBounds_toArray, List.set_cons_zero, List.set_cons_succ, i64_w, i32_w]
                                rfl
                              refine last_ (i := 9) (N := none) #[true, true, true, true, true, true, true, true, true, true] rfl rfl (one_of HT_.out (by kernel_rfl)) (by decide) (fun K hK => ?_)
                              have hs35 : w34.cell? ⟨gb720, 0, none⟩ = some (.int .i64 x721000_2) := (blk_cell BK720.out 0).trans rfl
                              have hfs35 := blk_frozen BK720.out 0
                              have hns35_0 := NB709_720.out
                              have hns35_1 := NB714_720.out
                              have hms35_0 := NB720_709.out
                              have hms35_1 := NB720_714.out
                              have hs36 : w34.cell? ⟨gb720, 1, none⟩ = some (.int .u64 x721001_2) := (blk_cell BK720.out 1).trans rfl
                              have hfs36 := blk_frozen BK720.out 1
                              have hns36_0 := NB709_720.out
                              have hns36_1 := NB714_720.out
                              have hms36_0 := NB720_709.out
                              have hms36_1 := NB720_714.out
                              have hs37 : w34.cell? ⟨gb720, 2, none⟩ = some (.int .u64 x721002_2) := (blk_cell BK720.out 2).trans rfl
                              have hfs37 := blk_frozen BK720.out 2
                              have hns37_0 := NB709_720.out
                              have hns37_1 := NB714_720.out
                              have hms37_0 := NB720_709.out
                              have hms37_1 := NB720_714.out
                              have hs38 : w34.cell? ⟨gb720, 3, none⟩ = some (.int .u64 x721003_2) := (blk_cell BK720.out 3).trans rfl
                              have hfs38 := blk_frozen BK720.out 3
                              have hns38_0 := NB709_720.out
                              have hns38_1 := NB714_720.out
                              have hms38_0 := NB720_709.out
                              have hms38_1 := NB720_714.out
                              have hs39 : w34.cell? ⟨gb720, 4, none⟩ = some (.int .u64 x721004_2) := (blk_cell BK720.out 4).trans rfl
                              have hfs39 := blk_frozen BK720.out 4
                              have hns39_0 := NB709_720.out
                              have hns39_1 := NB714_720.out
                              have hms39_0 := NB720_709.out
                              have hms39_1 := NB720_714.out
                              refine skip_ (w1 := ?_) (by rfl) rfl ?_ ?_
                              rotate_left
                              · go_simp
                                rfl
                              refine hK.out _ _ ?_
                              clear hK K
                              refine done_ (done_of HT_.out (by kernel_rfl)) ?_
                              try go_wp2
                              have n0_ : Aside0 (Kd.R (Kd.int .u64) 22 (((((w34.setCell ⟨gb720, 0, none⟩ (.int .i64 t736)).setCell ⟨gb720, 1, none⟩ (.int .u64 t737)).setCell ⟨gb720, 2, none⟩ (.int .u64 t738)).setCell ⟨gb720, 3, none⟩ (.int .u64 t739)).setCell ⟨gb720, 4, none⟩ (.int .u64 t740)) w.heap.size (fun k_ => some k_ ≠ (.slice Ao33 y733.length co33 : Value).ownBlock) u9 x9_2) := ⟨by (with_reducible repeat (first | apply Kd.R_alloc | apply Kd.R_drewN | apply Kd.R_drew)); exact Kd.R_mono (Kd.R_far (p := ⟨gb720, 4, none⟩) (Kd.R_far (p := ⟨gb720, 3, none⟩) (Kd.R_far (p := ⟨gb720, 2, none⟩) (Kd.R_far (p := ⟨gb720, 1, none⟩) (Kd.R_far (p := ⟨gb720, 0, none⟩) (Kd.R_types HO_9.out BK720.out (by decide)) (fun _ hk => hk.2) (.int .i64 t736)) (fun _ hk => hk.2) (.int .u64 t737)) (fun _ hk => hk.2) (.int .u64 t738)) (fun _ hk => hk.2) (.int .u64 t739)) (fun _ hk => hk.2) (.int .u64 t740)) (fun _ hk => hk.1.2)⟩
                              have n1_ : Aside0 (Kd.R (Kd.int .u64) 22 (((((w34.setCell ⟨gb720, 0, none⟩ (.int .i64 t736)).setCell ⟨gb720, 1, none⟩ (.int .u64 t737)).setCell ⟨gb720, 2, none⟩ (.int .u64 t738)).setCell ⟨gb720, 3, none⟩ (.int .u64 t739)).setCell ⟨gb720, 4, none⟩ (.int .u64 t740)) w.heap.size (fun k_ => some k_ ≠ (u9 : Value).ownBlock) (.slice Ao33 y733.length co33) y733) := ⟨by (with_reducible repeat (first | apply Kd.R_alloc | apply Kd.R_drewN | apply Kd.R_drew)); exact Kd.R_mono (Kd.R_far (p := ⟨gb720, 4, none⟩) (Kd.R_far (p := ⟨gb720, 3, none⟩) (Kd.R_far (p := ⟨gb720, 2, none⟩) (Kd.R_far (p := ⟨gb720, 1, none⟩) (Kd.R_far (p := ⟨gb720, 0, none⟩) (Kd.R_types HO735.out BK720.out (by decide)) (fun _ hk => hk.2) (.int .i64 t736)) (fun _ hk => hk.2) (.int .u64 t737)) (fun _ hk => hk.2) (.int .u64 t738)) (fun _ hk => hk.2) (.int .u64 t739)) (fun _ hk => hk.2) (.int .u64 t740)) (fun _ hk => hk.1.2)⟩
                              have n2_ : Aside0 ((((((w34.setCell ⟨gb720, 0, none⟩ (.int .i64 t736)).setCell ⟨gb720, 1, none⟩ (.int .u64 t737)).setCell ⟨gb720, 2, none⟩ (.int .u64 t738)).setCell ⟨gb720, 3, none⟩ (.int .u64 t739)).setCell ⟨gb720, 4, none⟩ (.int .u64 t740)).heap[gb709]? = some (.cells #[.int .u64 a1_0, .int .u64 a1_1, .int .u64 a1_2, .int .u64 a1_3] 23 (0, 0))) := ⟨by (with_reducible repeat (first | refine blk_drewN ?_ _ | refine blk_drew ?_ | refine blk_alloc ?_ _)); refine blk_far ?_ NB709_720.out _; (with_reducible repeat (first | refine blk_drewN ?_ _ | refine blk_drew ?_ | refine blk_alloc ?_ _)); refine blk_far ?_ NB709_720.out _; (with_reducible repeat (first | refine blk_drewN ?_ _ | refine blk_drew ?_ | refine blk_alloc ?_ _)); refine blk_far ?_ NB709_720.out _; (with_reducible repeat (first | refine blk_drewN ?_ _ | refine blk_drew ?_ | refine blk_alloc ?_ _)); refine blk_far ?_ NB709_720.out _; (with_reducible repeat (first | refine blk_drewN ?_ _ | refine blk_drew ?_ | refine blk_alloc ?_ _)); refine blk_far ?_ NB709_720.out _; (with_reducible repeat (first | refine blk_drewN ?_ _ | refine blk_drew ?_ | refine blk_alloc ?_ _)); exact BK709.out⟩
                              have n3_ : Aside0 ((((((w34.setCell ⟨gb720, 0, none⟩ (.int .i64 t736)).setCell ⟨gb720, 1, none⟩ (.int .u64 t737)).setCell ⟨gb720, 2, none⟩ (.int .u64 t738)).setCell ⟨gb720, 3, none⟩ (.int .u64 t739)).setCell ⟨gb720, 4, none⟩ (.int .u64 t740)).heap[gb714]? = some (.cells #[.int .i64 (wrap64 (Int.tmod a0 4)), .int .u64 a1_0, .int .u64 a1_1, .int .u64 a1_2, .int .u64 a1_3] 25 (0, 0))) := ⟨by (with_reducible repeat (first | refine blk_drewN ?_ _ | refine blk_drew ?_ | refine blk_alloc ?_ _)); refine blk_far ?_ NB714_720.out _; (with_reducible repeat (first | refine blk_drewN ?_ _ | refine blk_drew ?_ | refine blk_alloc ?_ _)); refine blk_far ?_ NB714_720.out _; (with_reducible repeat (first | refine blk_drewN ?_ _ | refine blk_drew ?_ | refine blk_alloc ?_ _)); refine blk_far ?_ NB714_720.out _; (with_reducible repeat (first | refine blk_drewN ?_ _ | refine blk_drew ?_ | refine blk_alloc ?_ _)); refine blk_far ?_ NB714_720.out _; (with_reducible repeat (first | refine blk_drewN ?_ _ | refine blk_drew ?_ | refine blk_alloc ?_ _)); refine blk_far ?_ NB714_720.out _; (with_reducible repeat (first | refine blk_drewN ?_ _ | refine blk_drew ?_ | refine blk_alloc ?_ _)); exact BK714.out⟩
                              have n4_ : Aside0 ((((((w34.setCell ⟨gb720, 0, none⟩ (.int .i64 t736)).setCell ⟨gb720, 1, none⟩ (.int .u64 t737)).setCell ⟨gb720, 2, none⟩ (.int .u64 t738)).setCell ⟨gb720, 3, none⟩ (.int .u64 t739)).setCell ⟨gb720, 4, none⟩ (.int .u64 t740)).heap[gb720]? = some (.cells #[.int .i64 t736, .int .u64 t737, .int .u64 t738, .int .u64 t739, .int .u64 t740] 25 (0, 0))) := ⟨by (with_reducible repeat (first | refine blk_drewN ?_ _ | refine blk_drew ?_ | refine blk_alloc ?_ _)); refine blk_put (cs := #[.int .i64 t736, .int .u64 t737, .int .u64 t738, .int .u64 t739, .int .u64 x721004_2]) ?_ 4 _ rfl; (with_reducible repeat (first | refine blk_drewN ?_ _ | refine blk_drew ?_ | refine blk_alloc ?_ _)); refine blk_put (cs := #[.int .i64 t736, .int .u64 t737, .int .u64 t738, .int .u64 x721003_2, .int .u64 x721004_2]) ?_ 3 _ rfl; (with_reducible repeat (first | refine blk_drewN ?_ _ | refine blk_drew ?_ | refine blk_alloc ?_ _)); refine blk_put (cs := #[.int .i64 t736, .int .u64 t737, .int .u64 x721002_2, .int .u64 x721003_2, .int .u64 x721004_2]) ?_ 2 _ rfl; (with_reducible repeat (first | refine blk_drewN ?_ _ | refine blk_drew ?_ | refine blk_alloc ?_ _)); refine blk_put (cs := #[.int .i64 t736, .int .u64 x721001_2, .int .u64 x721002_2, .int .u64 x721003_2, .int .u64 x721004_2]) ?_ 1 _ rfl; (with_reducible repeat (first | refine blk_drewN ?_ _ | refine blk_drew ?_ | refine blk_alloc ?_ _)); refine blk_put (cs := #[.int .i64 x721000_2, .int .u64 x721001_2, .int .u64 x721002_2, .int .u64 x721003_2, .int .u64 x721004_2]) ?_ 0 _ rfl; (with_reducible repeat (first | refine blk_drewN ?_ _ | refine blk_drew ?_ | refine blk_alloc ?_ _)); exact BK720.out⟩
                              have n5_ : Aside0 (Below w.heap.size w (((((w34.setCell ⟨gb720, 0, none⟩ (.int .i64 t736)).setCell ⟨gb720, 1, none⟩ (.int .u64 t737)).setCell ⟨gb720, 2, none⟩ (.int .u64 t738)).setCell ⟨gb720, 3, none⟩ (.int .u64 t739)).setCell ⟨gb720, 4, none⟩ (.int .u64 t740))) := ⟨by repeat (first | (with_reducible first | exact HB.out | apply below_alloc | apply pw_below_drewN | apply below_drew1 | refine below_set ?_ GE709.out | refine below_set ?_ GE714.out | refine below_set ?_ GE720.out) | exact HB.out)⟩
                              (try clear HO_9)
                              (try clear HO735)
                              (try clear BK709)
                              (try clear BK714)
                              (try clear BK720)
                              (try clear HB)
                              generalize (((((w34.setCell ⟨gb720, 0, none⟩ (.int .i64 t736)).setCell ⟨gb720, 1, none⟩ (.int .u64 t737)).setCell ⟨gb720, 2, none⟩ (.int .u64 t738)).setCell ⟨gb720, 3, none⟩ (.int .u64 t739)).setCell ⟨gb720, 4, none⟩ (.int .u64 t740)) = w40 at n0_ n1_ n2_ n3_ n4_ n5_ ⊢
                              have HO_9 := n0_
                              have HO735 := n1_
                              have BK709 := n2_
                              have BK714 := n3_
                              have BK720 := n4_
                              have HB := n5_
                              clear n0_ n1_ n2_ n3_ n4_ n5_
                              have n0_ := Aside0.mk (Kd.R_drew HO_9.out)
                              have n1_ := Aside0.mk (Kd.R_drew HO735.out)
                              have n2_ := Aside0.mk (blk_drew BK709.out)
                              have n3_ := Aside0.mk (blk_drew BK714.out)
                              have n4_ := Aside0.mk (blk_drew BK720.out)
                              have n5_ := Aside0.mk (below_drew1 HB.out)
                              clear HO_9
                              clear HO735
                              clear BK709
                              clear BK714
                              clear BK720
                              clear HB
                              have HO_9 := n0_
                              have HO735 := n1_
                              have BK709 := n2_
                              have BK714 := n3_
                              have BK720 := n4_
                              have HB := n5_
                              clear n0_ n1_ n2_ n3_ n4_ n5_
                              have p741 : 0 ≤ (x10_1 : Int) := of_decide_eq_true (by first | (with_reducible assumption) | assumption)
                              have q741 : x10_1 < (y710.length : Int) := of_decide_eq_true (by first | (with_reducible assumption) | assumption)
                              obtain ⟨ad741, e741, hx741_0, hx741_1⟩ := at_T51 HR713.out x10_1 p741 q741
                              have hw741_1 := hx741_1
                              have hw741_0 := hx741_0
                              obtain rfl : ad732 = ad741 := (by injection e741)
                              replace hx741_0 := (HB.out.cell (World.block_lt_of_cell? w _ hx741_0)).trans hx741_0
                              replace hx741_1 := (HB.out.cell (World.block_lt_of_cell? w _ hx741_1)).trans hx741_1
                              replace p741 := eq_true p741
                              replace q741 := eq_true q741
                              refine start_ (n := 14) (S := fun w' => w'.cell? ⟨gb714, 0, none⟩ = some (.int .i64 (wrap64 (Int.tmod a0 4))) ∧ w'.cell? ⟨gb714, 1, none⟩ = some (.int .u64 a1_0) ∧ w'.cell? ⟨gb714, 2, none⟩ = some (.int .u64 a1_1) ∧ w'.cell? ⟨gb714, 3, none⟩ = some (.int .u64 a1_2) ∧ w'.cell? ⟨gb714, 4, none⟩ = some (.int .u64 a1_3) ∧ w'.cell? (ad732.add ((x10_1).toNat * 2)) = some (.int .u64 ((rd_T51 y710 x10_1).f0)) ∧ w'.cell? ⟨(ad732.add ((x10_1).toNat * 2)).block, (ad732.add ((x10_1).toNat * 2)).off + 1, none⟩ = some (.int .u64 ((rd_T51 y710 x10_1).f1))) (ds := []) #[false, false, false, false, false, false, false, false, false, false, false, false, false, false] (by kernel_rfl) rfl rfl ⟨(blk_cell BK714.out 0).trans rfl, (blk_cell BK714.out 1).trans rfl, (blk_cell BK714.out 2).trans rfl, (blk_cell BK714.out 3).trans rfl, (blk_cell BK714.out 4).trans rfl, ((HB.out.cell (World.block_lt_of_cell? w _ hw741_0)).trans hw741_0), ((HB.out.cell (World.block_lt_of_cell? w _ hw741_1)).trans hw741_1)⟩ (fun hHeld => ?_); refine with_tabW attestorlaw08_ChannelOrder.tab12 attestorlaw08_ChannelOrder.bits12 (fun HT_ HW_ => ?_)
                              generalize w40.drew = w41 at HO_9 HO735 BK709 BK714 BK720 HB hx741_0 hx741_1 hHeld ⊢
                              refine pure_ (i := 0) (N := some 44) (v := ?_) (a' := ?_) #[true, false, false, false, false, false, false, false, false, false, false, false, false, false] rfl rfl (any_of HT_.out (by kernel_rfl)) (fun _ _ _ h => h) (Or.inl ⟨by rfl, ?_⟩) ?_ ?_
                              rotate_left
                              · intro w'
                                go_simp
                                with_reducible rfl
                              rotate_left
                              · simp only [Act.put, List.setIfInBounds_toArray, List.set_cons_zero, List.set_cons_succ, i64_w, i32_w]
                                rfl
                              refine pure_ (i := 1) (N := some 45) (v := ?_) (a' := ?_) #[true, true, false, false, false, false, false, false, false, false, false, false, false, false] rfl rfl (any_of HT_.out (by kernel_rfl)) (fun _ _ _ h => h) (Or.inl ⟨by rfl, ?_⟩) ?_ ?_
                              rotate_left
                              · intro w'
                                go_simp
                                with_reducible rfl
                              rotate_left
                              · simp only [Act.put, List.setIfInBounds_toArray, List.set_cons_zero, List.set_cons_succ, i64_w, i32_w]
                                rfl
                              refine pure_ (i := 2) (N := some 46) (v := ?_) (a' := ?_) #[true, true, true, false, false, false, false, false, false, false, false, false, false, false] rfl rfl (any_of HT_.out (by kernel_rfl)) (fun _ _ _ h => h) (Or.inl ⟨by rfl, ?_⟩) ?_ ?_
                              rotate_left
                              · intro w'
                                go_simp
                                with_reducible rfl
                              rotate_left
                              · simp only [Act.put, List.setIfInBounds_toArray, List.set_cons_zero, List.set_cons_succ, i64_w, i32_w]
                                rfl
                              refine pure_ (i := 3) (N := some 47) (v := ?_) (a' := ?_) #[true, true, true, true, false, false, false, false, false, false, false, false, false, false] rfl rfl (any_of HT_.out (by kernel_rfl)) (fun _ _ _ h => h) (Or.inl ⟨by rfl, ?_⟩) ?_ ?_
                              rotate_left
                              · intro w'
                                go_simp
                                with_reducible rfl
                              rotate_left
                              · simp only [Act.put, List.setIfInBounds_toArray, List.set_cons_zero, List.set_cons_succ, i64_w, i32_w]
                                rfl
                              refine pure_ (i := 4) (N := some 48) (v := ?_) (a' := ?_) #[true, true, true, true, true, false, false, false, false, false, false, false, false, false] rfl rfl (any_of HT_.out (by kernel_rfl)) (fun _ _ _ h => h) (Or.inl ⟨by rfl, ?_⟩) ?_ ?_
                              rotate_left
                              · intro w'
                                go_simp
                                with_reducible rfl
                              rotate_left
                              · simp only [Act.put, List.setIfInBounds_toArray, List.set_cons_zero, List.set_cons_succ, i64_w, i32_w]
                                rfl
                              refine pure_ (i := 5) (N := some 49) (v := ?_) (a' := ?_) #[true, true, true, true, true, true, false, false, false, false, false, false, false, false] rfl rfl (any_of HT_.out (by kernel_rfl)) (fun _ _ _ h => h) (Or.inl ⟨by rfl, ?_⟩) ?_ ?_
                              rotate_left
                              · intro w'
                                go_simp
                                with_reducible rfl
                              rotate_left
                              · simp only [Act.put, List.setIfInBounds_toArray, List.set_cons_zero, List.set_cons_succ, i64_w, i32_w]
                                rfl
                              refine pure_ (i := 7) (N := some 51) (v := ?_) (a' := ?_) #[true, true, true, true, true, true, false, true, false, false, false, false, false, false] rfl rfl (any_of HT_.out (by kernel_rfl)) (fun _ _ _ h => h) (Or.inl ⟨by rfl, ?_⟩) ?_ ?_
                              rotate_left
                              · intro w'
                                go_simp
                                with_reducible rfl
                              rotate_left
                              · simp only [Act.put, List.setIfInBounds_toArray, List.set_cons_zero, List.set_cons_succ, i64_w, i32_w]
                                rfl
                              refine take_ (i := 6) (N := some 50) (v := ?_) (a' := ?_) #[true, true, true, true, true, true, true, true, false, false, false, false, false, false] rfl rfl (take_ofW HT_.out HW_.out (by kernel_rfl)) (fun _ _ _ h => h) (Or.inl ⟨by rfl, ?_⟩) hHeld ?_ ?_
                              rotate_left
                              · rintro w' ⟨s0, s1, s2, s3, s4, s5, s6⟩
                                go_simp
                                with_reducible rfl
                              rotate_left
                              · simp only [Act.put, List.setIfInBounds_toArray, List.set_cons_zero, List.set_cons_succ, i64_w, i32_w]
                                rfl
                              refine take_ (i := 8) (N := some 52) (v := ?_) (a' := ?_) #[true, true, true, true, true, true, true, true, true, false, false, false, false, false] rfl rfl (take_ofW HT_.out HW_.out (by kernel_rfl)) (fun _ _ _ h => h) (Or.inl ⟨by rfl, ?_⟩) hHeld ?_ ?_
                              rotate_left
                              · rintro w' ⟨s0, s1, s2, s3, s4, s5, s6⟩
                                go_simp
                                with_reducible rfl
                              rotate_left
                              · simp only [Act.put, List.setIfInBounds_toArray, List.set_cons_zero, List.set_cons_succ, i64_w, i32_w]
                                rfl
                              refine one_ (i := 9) (N := some 53) #[true, true, true, true, true, true, true, true, true, true, false, false, false, false] rfl rfl (one_of HT_.out (by kernel_rfl)) (by decide) (fun K hK => ?_)
                              refine goes_ Tryd.func20 (by kernel_rfl) rfl #[.int .i64 (wrap64 (Int.tmod a0 4))] (by rfl) rfl rfl (by (try simp only [List.map_toArray, List.map_cons, List.map_nil]); first | done | rfl | (simp only [List.length_drop, List.length_take]; rfl) | (go_simp; done) | (go_simp; rw [Int.tmod_eq_emod_of_nonneg (by omega)]; omega)) ?_
                              with_reducible refine (attestorref01_P.calls (wrap64 (Int.tmod a0 4)) t742 _ A27.out).mono ?_
                              rintro e w' ⟨rfl, ⟨nd, rfl⟩⟩
                              refine ⟨_, rfl, ?_⟩
                              refine hK.out _ _ ⟨(blk_cell BK714.out 0).trans rfl, (blk_cell BK714.out 1).trans rfl, (blk_cell BK714.out 2).trans rfl, (blk_cell BK714.out 3).trans rfl, (blk_cell BK714.out 4).trans rfl, ((HB.out.cell (World.block_lt_of_cell? w _ hw741_0)).trans hw741_0), ((HB.out.cell (World.block_lt_of_cell? w _ hw741_1)).trans hw741_1)⟩ (fun hHeld => ?_)
                              clear hK K
                              refine norm_ (a' := ?_) ?_ ?_
                              rotate_left
                              · show Act.put _ (some 53) _ = _
                                simp only [Act.put, List.setIfInBounds_toArray, List.set_cons_zero, List.set_cons_succ, i64_w, i32_w]
                                rfl
                              refine pure_ (i := 10) (N := some 54) (v := ?_) (a' := ?_) #[true, true, true, true, true, true, true, true, true, true, true, false, false, false] rfl rfl (any_of HT_.out (by kernel_rfl)) (fun _ _ _ h => h) (Or.inl ⟨by rfl, ?_⟩) ?_ ?_
                              rotate_left
                              · intro w'
                                go_simp
                                with_reducible rfl
                              rotate_left
                              · simp only [Act.put, List.setIfInBounds_toArray, List.set_cons_zero, List.set_cons_succ, i64_w, i32_w]
                                rfl
                              refine one_ (i := 11) (N := some 55) #[true, true, true, true, true, true, true, true, true, true, true, true, false, false] rfl rfl (one_of HT_.out (by kernel_rfl)) (by decide) (fun K hK => ?_)
                              refine value_ (w1 := ?_) (v := ?_) (by rfl) rfl ?_ ?_
                              rotate_left 2
                              · go_simp
                                constructor
                                · rfl
                                · rfl
                              refine hK.out _ _ ⟨(blk_cell (blk_alloc BK714.out _) 0).trans rfl, (blk_cell (blk_alloc BK714.out _) 1).trans rfl, (blk_cell (blk_alloc BK714.out _) 2).trans rfl, (blk_cell (blk_alloc BK714.out _) 3).trans rfl, (blk_cell (blk_alloc BK714.out _) 4).trans rfl, (World.cell?_alloc_lt _ _ _ (World.block_lt_of_cell? _ _ (((HB.out.cell (World.block_lt_of_cell? w _ hw741_0)).trans hw741_0)))).trans (((HB.out.cell (World.block_lt_of_cell? w _ hw741_0)).trans hw741_0)), (World.cell?_alloc_lt _ _ _ (World.block_lt_of_cell? _ _ (((HB.out.cell (World.block_lt_of_cell? w _ hw741_1)).trans hw741_1)))).trans (((HB.out.cell (World.block_lt_of_cell? w _ hw741_1)).trans hw741_1))⟩ (fun hHeld => ?_)
                              clear hK K
                              refine norm_ (a' := ?_) ?_ ?_
                              rotate_left
                              · show Act.put _ (some 55) _ = _
                                simp only [Act.put, List.setIfInBounds_toArray, List.set_cons_zero, List.set_cons_succ, i64_w, i32_w]
                                rfl
                              refine one_ (i := 12) (N := some 56) #[true, true, true, true, true, true, true, true, true, true, true, true, true, false] rfl rfl (one_of HT_.out (by kernel_rfl)) (by decide) (fun K hK => ?_)
                              refine Kd.R_append_step (Kd.int .u64) (w0 := w) w.heap.size (by rfl) (.tmp 44) (.tmp 55) 49 22 (.int .u64 0) 8 rfl Tryd.underlying49 info22 rfl (by decide) (by omega) u9 x9_2 (Int.tmod ((rd_T51 y710 x10_1).f0) t742) [.int .u64 (Int.tmod ((rd_T51 y710 x10_1).f0) t742)] (fun k_ => some k_ ≠ (.slice Ao33 y733.length co33 : Value).ownBlock) (fun _ => False) rfl rfl ?aP (fun _ hk => hk.elim) ?aF ?aO ?aB ?aS ?aL ?_
                              (case aP => exact rfl)
                              (case aB => exact (by repeat (first | (with_reducible first | exact HB.out | apply below_alloc | apply pw_below_drewN | apply below_drew1 | refine below_set ?_ GE709.out | refine below_set ?_ GE714.out | refine below_set ?_ GE720.out) | exact HB.out)))
                              (case aF => exact (fun k_ hk => Kd.fresh' (Kd.R_lt (by (with_reducible repeat (first | apply Kd.R_alloc | apply Kd.R_drewN | apply Kd.R_drew)); exact HO735.out)) k_ hk))
                              (case aO => exact (by (with_reducible repeat (first | apply Kd.R_alloc | apply Kd.R_drewN | apply Kd.R_drew)); exact HO_9.out))
                              (case aS => exact (below_size (by repeat (first | (with_reducible first | exact HB.out | apply below_alloc | apply pw_below_drewN | apply below_drew1 | refine below_set ?_ GE709.out | refine below_set ?_ GE714.out | refine below_set ?_ GE720.out) | exact HB.out))))
                              (case aL => have := LMc29.out; omega)
                              intro v744 w42 ho hb hg hat
                              rw [← Ny743.out] at ho
                              have n0_ := Aside0.mk (blk_grown (g := gb709) (o := .cells #[.int .u64 a1_0, .int .u64 a1_1, .int .u64 a1_2, .int .u64 a1_3] 23 (0, 0)) (by (with_reducible repeat (first | refine blk_drewN ?_ _ | refine blk_drew ?_ | refine blk_alloc ?_ _)); exact BK709.out) hg (Kd.R_ne HO_9.out BK709.out (by decide)))
                              have n1_ := Aside0.mk (blk_grown (g := gb714) (o := .cells #[.int .i64 (wrap64 (Int.tmod a0 4)), .int .u64 a1_0, .int .u64 a1_1, .int .u64 a1_2, .int .u64 a1_3] 25 (0, 0)) (by (with_reducible repeat (first | refine blk_drewN ?_ _ | refine blk_drew ?_ | refine blk_alloc ?_ _)); exact BK714.out) hg (Kd.R_ne HO_9.out BK714.out (by decide)))
                              have n2_ := Aside0.mk (blk_grown (g := gb720) (o := .cells #[.int .i64 t736, .int .u64 t737, .int .u64 t738, .int .u64 t739, .int .u64 t740] 25 (0, 0)) (by (with_reducible repeat (first | refine blk_drewN ?_ _ | refine blk_drew ?_ | refine blk_alloc ?_ _)); exact BK720.out) hg (Kd.R_ne HO_9.out BK720.out (by decide)))
                              have n3_ := Aside0.mk (Kd.R_after (ok := (fun _ => True)) (by (with_reducible repeat (first | apply Kd.R_alloc | apply Kd.R_drewN | apply Kd.R_drew)); exact Kd.R_mono HO735.out (fun _ hk => ⟨trivial, hk⟩)) hg hat)
                              have n4_ := Aside0.mk (hb)
                              have n5_ := Aside0.mk (ho)
                              clear BK709
                              clear BK714
                              clear BK720
                              clear HO735
                              clear HB
                              clear HO_9
                              have BK709 := n0_
                              have BK714 := n1_
                              have BK720 := n2_
                              have HO735 := n3_
                              have HB := n4_
                              have HO745 := n5_
                              clear n0_ n1_ n2_ n3_ n4_ n5_
                              clear ho hb hg hat
                              refine hK.out _ _ ⟨(blk_cell BK714.out 0).trans rfl, (blk_cell BK714.out 1).trans rfl, (blk_cell BK714.out 2).trans rfl, (blk_cell BK714.out 3).trans rfl, (blk_cell BK714.out 4).trans rfl, ((HB.out.cell (World.block_lt_of_cell? w _ hw741_0)).trans hw741_0), ((HB.out.cell (World.block_lt_of_cell? w _ hw741_1)).trans hw741_1)⟩ (fun hHeld => ?_)
                              clear hK K
                              refine norm_ (a' := ?_) ?_ ?_
                              rotate_left
                              · show Act.put _ (some 56) _ = _
                                simp only [Act.put, List.setIfInBounds_toArray, List.set_cons_zero, List.set_cons_succ, i64_w, i32_w]
                                rfl
                              refine pure_ (i := 13) (N := some 9) (v := ?_) (a' := ?_) #[true, true, true, true, true, true, true, true, true, true, true, true, true, true] rfl rfl (any_of HT_.out (by kernel_rfl)) (fun _ _ _ h => h) (Or.inl ⟨by rfl, ?_⟩) ?_ ?_
                              rotate_left
                              · intro w'
                                go_simp
                                with_reducible rfl
                              rotate_left
                              · simp only [Act.put, List.setIfInBounds_toArray, List.set_cons_zero, List.set_cons_succ, i64_w, i32_w]
                                rfl
                              refine done_ (done_of HT_.out (by kernel_rfl)) ?_
                              try go_wp2
                              go_roundg k2
                              case measure => have := HK1.out; have := HK2.out; omega
                              case rel => exact ⟨(y743), (wrap64 (0 + 1)), (t736), (t737), (t738), (t739), (t740), (by first | rfl | (simp; done) | (simp [*]; done) | (simp; rfl) | (simp; decide +kernel)), H', ⟨by have := HK1.out; have := HK2.out; omega⟩, ⟨by (with_reducible repeat (first | apply Kd.R_alloc | apply Kd.R_drewN | apply Kd.R_drew)); exact Kd.R_mono HO745.out (fun _ hk => trivial)⟩, ⟨by (with_reducible repeat (first | refine blk_drewN ?_ _ | refine blk_drew ?_ | refine blk_alloc ?_ _)); exact BK709.out⟩, ⟨by (with_reducible repeat (first | refine blk_drewN ?_ _ | refine blk_drew ?_ | refine blk_alloc ?_ _)); exact BK714.out⟩, ⟨by (with_reducible repeat (first | refine blk_drewN ?_ _ | refine blk_drew ?_ | refine blk_alloc ?_ _)); exact BK720.out⟩, ⟨by repeat (first | (with_reducible first | exact HB.out | apply below_alloc | apply pw_below_drewN | apply below_drew1 | refine below_set ?_ GE709.out | refine below_set ?_ GE714.out | refine below_set ?_ GE720.out) | exact HB.out)⟩⟩
                            · rw [if_neg c29] at H
                              exact absurd H (by simp)
                        · rw [if_neg c25] at H
                          by_cases c43 : x11_2 = 1
                          · rw [if_pos c43] at H
                            subst c43
                            obtain ⟨y746, hy746⟩ : ∃ y_ : List Int, y_ = (([(rd_T51 y710 x10_1).f1] : List Int)) := ⟨_, rfl⟩
                            replace H : ((channel_Absorb.f k2 x721000_2 x721001_2 x721002_2 x721003_2 x721004_2 y746).bind fun bt749 => ((attestorref01_P.f (wrap64 (Int.tmod a0 4))).bind fun t755 => (if t755 = 0 then (none) else (if x9_2.length < 17592186044416 then (attestorlaw08_ChannelOrder.l1 k2 y710 (x9_2 ++ [Int.tmod ((rd_T51 y710 x10_1).f1) t755]) x10_1 (wrap64 (1 + 1)) (wrap64 (Int.tmod a0 4)) a1_0 a1_1 a1_2 a1_3 bt749.1 bt749.2.1 bt749.2.2.1 bt749.2.2.2.1 bt749.2.2.2.2) else (none))))) = some r := by first | (rw [hy746]; with_reducible exact H) | (have H2_ := (Option.bind_some _ _).symm.trans H; rw [hy746]; with_reducible exact H2_) | (have H2_ := (Option.bind_some _ _).symm.trans H; with_reducible exact H2_) | with_reducible exact H | (rw [hy746]; exact H) | exact H
                            have Ny746 := Aside0.mk hy746
                            clear hy746
                            replace H := Option.bind_eq_some_iff.mp H
                            obtain ⟨⟨t749, t750, t751, t752, t753⟩, A440, H⟩ := H
                            replace H : ((attestorref01_P.f (wrap64 (Int.tmod a0 4))).bind fun t755 => (if t755 = 0 then (none) else (if x9_2.length < 17592186044416 then (attestorlaw08_ChannelOrder.l1 k2 y710 (x9_2 ++ [Int.tmod ((rd_T51 y710 x10_1).f1) t755]) x10_1 (wrap64 (1 + 1)) (wrap64 (Int.tmod a0 4)) a1_0 a1_1 a1_2 a1_3 t749 t750 t751 t752 t753) else (none)))) = some r := H
                            have A44 := Aside0.mk A440
                            clear A440
                            replace H := Option.bind_eq_some_iff.mp H
                            obtain ⟨t755, A450, H⟩ := H
                            replace H : (if t755 = 0 then (none) else (if x9_2.length < 17592186044416 then (attestorlaw08_ChannelOrder.l1 k2 y710 (x9_2 ++ [Int.tmod ((rd_T51 y710 x10_1).f1) t755]) x10_1 (wrap64 (1 + 1)) (wrap64 (Int.tmod a0 4)) a1_0 a1_1 a1_2 a1_3 t749 t750 t751 t752 t753) else (none))) = some r := H
                            have A45 := Aside0.mk A450
                            clear A450
                            by_cases c46 : t755 = 0
                            · rw [if_pos c46] at H
                              exact absurd H (by simp)
                            · rw [if_neg c46] at H
                              have c46b0 : (t755 == 0) = false := beq_eq_false_iff_ne.mpr c46
                              have c46b1 : (t755 != 0) = true := bne_iff_ne.mpr c46
                              by_cases c47 : x9_2.length < 17592186044416
                              · rw [if_pos c47] at H
                                have LMc47 := Aside0.mk c47
                                clear c47
                                obtain ⟨y756, hy756⟩ : ∃ y_ : List Int, y_ = (x9_2 ++ [Int.tmod ((rd_T51 y710 x10_1).f1) t755]) := ⟨_, rfl⟩
                                replace H : (attestorlaw08_ChannelOrder.l1 k2 y710 y756 x10_1 (wrap64 (1 + 1)) (wrap64 (Int.tmod a0 4)) a1_0 a1_1 a1_2 a1_3 t749 t750 t751 t752 t753) = some r := by first | (rw [hy756]; with_reducible exact H) | (have H2_ := (Option.bind_some _ _).symm.trans H; rw [hy756]; with_reducible exact H2_) | (have H2_ := (Option.bind_some _ _).symm.trans H; with_reducible exact H2_) | with_reducible exact H | (rw [hy756]; exact H) | exact H
                                have Ny756 := Aside0.mk hy756
                                clear hy756
                                have H' := Aside0.mk H
                                clear H
                                try go_wp2
                                have n0_ := Aside0.mk (Kd.R_drew HO_9.out)
                                have n1_ := Aside0.mk (blk_drew BK709.out)
                                have n2_ := Aside0.mk (blk_drew BK714.out)
                                have n3_ := Aside0.mk (blk_drew BK720.out)
                                have n4_ := Aside0.mk (below_drew1 HB.out)
                                clear HO_9
                                clear BK709
                                clear BK714
                                clear BK720
                                clear HB
                                have HO_9 := n0_
                                have BK709 := n1_
                                have BK714 := n2_
                                have BK720 := n3_
                                have HB := n4_
                                clear n0_ n1_ n2_ n3_ n4_
                                have p732 : 0 ≤ (x10_1 : Int) := of_decide_eq_true (by first | (with_reducible assumption) | assumption)
                                have q732 : x10_1 < (y710.length : Int) := of_decide_eq_true (by first | (with_reducible assumption) | assumption)
                                obtain ⟨ad732, e732, hx732_0, hx732_1⟩ := at_T51 HR713.out x10_1 p732 q732
                                have hw732_1 := hx732_1
                                have hw732_0 := hx732_0
                                cases e732
                                replace hx732_0 := (HB.out.cell (World.block_lt_of_cell? w _ hx732_0)).trans hx732_0
                                replace hx732_1 := (HB.out.cell (World.block_lt_of_cell? w _ hx732_1)).trans hx732_1
                                replace p732 := eq_true p732
                                replace q732 := eq_true q732
                                refine start_ (n := 10) (S := fun w' => w'.cell? ⟨gb720, 0, none⟩ = some (.int .i64 x721000_2) ∧ w'.cell? ⟨gb720, 1, none⟩ = some (.int .u64 x721001_2) ∧ w'.cell? ⟨gb720, 2, none⟩ = some (.int .u64 x721002_2) ∧ w'.cell? ⟨gb720, 3, none⟩ = some (.int .u64 x721003_2) ∧ w'.cell? ⟨gb720, 4, none⟩ = some (.int .u64 x721004_2) ∧ w'.cell? (ad732.add ((x10_1).toNat * 2)) = some (.int .u64 ((rd_T51 y710 x10_1).f0)) ∧ w'.cell? ⟨(ad732.add ((x10_1).toNat * 2)).block, (ad732.add ((x10_1).toNat * 2)).off + 1, none⟩ = some (.int .u64 ((rd_T51 y710 x10_1).f1))) (ds := [9]) #[false, false, false, false, false, false, false, false, false, false] (by kernel_rfl) rfl rfl ⟨(blk_cell BK720.out 0).trans rfl, (blk_cell BK720.out 1).trans rfl, (blk_cell BK720.out 2).trans rfl, (blk_cell BK720.out 3).trans rfl, (blk_cell BK720.out 4).trans rfl, ((HB.out.cell (World.block_lt_of_cell? w _ hw732_0)).trans hw732_0), ((HB.out.cell (World.block_lt_of_cell? w _ hw732_1)).trans hw732_1)⟩ (fun hHeld => ?_); refine with_tabW attestorlaw08_ChannelOrder.tab11 attestorlaw08_ChannelOrder.bits11 (fun HT_ HW_ => ?_)
                                generalize wr.drew = w48 at HO_9 BK709 BK714 BK720 HB hx732_0 hx732_1 hHeld ⊢
                                refine pure_ (i := 1) (N := some 36) (v := ?_) (a' := ?_) #[false, true, false, false, false, false, false, false, false, false] rfl rfl (any_of HT_.out (by kernel_rfl)) (fun _ _ _ h => h) (Or.inl ⟨by rfl, ?_⟩) ?_ ?_
                                rotate_left
                                · intro w'
                                  go_simp
                                  with_reducible rfl
                                rotate_left
                                · simp only [Act.put, List.setIfInBounds_toArray, List.set_cons_zero, List.set_cons_succ, i64_w, i32_w]
                                  rfl
                                refine pure_ (i := 2) (N := some 37) (v := ?_) (a' := ?_) #[false, true, true, false, false, false, false, false, false, false] rfl rfl (any_of HT_.out (by kernel_rfl)) (fun _ _ _ h => h) (Or.inl ⟨by rfl, ?_⟩) ?_ ?_
                                rotate_left
                                · intro w'
                                  go_simp
                                  with_reducible rfl
                                rotate_left
                                · simp only [Act.put, List.setIfInBounds_toArray, List.set_cons_zero, List.set_cons_succ, i64_w, i32_w]
                                  rfl
                                refine pure_ (i := 3) (N := some 38) (v := ?_) (a' := ?_) #[false, true, true, true, false, false, false, false, false, false] rfl rfl (any_of HT_.out (by kernel_rfl)) (fun _ _ _ h => h) (Or.inl ⟨by rfl, ?_⟩) ?_ ?_
                                rotate_left
                                · intro w'
                                  go_simp
                                  with_reducible rfl
                                rotate_left
                                · simp only [Act.put, List.setIfInBounds_toArray, List.set_cons_zero, List.set_cons_succ, i64_w, i32_w]
                                  rfl
                                refine pure_ (i := 4) (N := some 39) (v := ?_) (a' := ?_) #[false, true, true, true, true, false, false, false, false, false] rfl rfl (any_of HT_.out (by kernel_rfl)) (fun _ _ _ h => h) (Or.inl ⟨by rfl, ?_⟩) ?_ ?_
                                rotate_left
                                · intro w'
                                  go_simp
                                  with_reducible rfl
                                rotate_left
                                · simp only [Act.put, List.setIfInBounds_toArray, List.set_cons_zero, List.set_cons_succ, i64_w, i32_w]
                                  rfl
                                refine pure_ (i := 5) (N := some 40) (v := ?_) (a' := ?_) #[false, true, true, true, true, true, false, false, false, false] rfl rfl (any_of HT_.out (by kernel_rfl)) (fun _ _ _ h => h) (Or.inl ⟨by rfl, ?_⟩) ?_ ?_
                                rotate_left
                                · intro w'
                                  go_simp
                                  with_reducible rfl
                                rotate_left
                                · simp only [Act.put, List.setIfInBounds_toArray, List.set_cons_zero, List.set_cons_succ, i64_w, i32_w]
                                  rfl
                                refine take_ (i := 0) (N := some 35) (v := ?_) (a' := ?_) #[true, true, true, true, true, true, false, false, false, false] rfl rfl (take_ofW HT_.out HW_.out (by kernel_rfl)) (fun _ _ _ h => h) (Or.inl ⟨by rfl, ?_⟩) hHeld ?_ ?_
                                rotate_left
                                · rintro w' ⟨s0, s1, s2, s3, s4, s5, s6⟩
                                  go_simp
                                  with_reducible rfl
                                rotate_left
                                · simp only [Act.put, List.setIfInBounds_toArray, List.set_cons_zero, List.set_cons_succ, i64_w, i32_w]
                                  rfl
                                refine take_ (i := 6) (N := some 41) (v := ?_) (a' := ?_) #[true, true, true, true, true, true, true, false, false, false] rfl rfl (take_ofW HT_.out HW_.out (by kernel_rfl)) (fun _ _ _ h => h) (Or.inl ⟨by rfl, ?_⟩) hHeld ?_ ?_
                                rotate_left
                                · rintro w' ⟨s0, s1, s2, s3, s4, s5, s6⟩
                                  go_simp
                                  with_reducible rfl
                                rotate_left
                                · simp only [Act.put, List.setIfInBounds_toArray, List.set_cons_zero, List.set_cons_succ, i64_w, i32_w]
                                  rfl
                                refine one_ (i := 7) (N := some 42) #[true, true, true, true, true, true, true, true, false, false] rfl rfl (one_of HT_.out (by kernel_rfl)) (by decide) (fun K hK => ?_)
                                refine Kd.R_lit_step (Kd.int .u64) _ 22 ?hg (N := 42) ?hd (xs := ([(rd_T51 y710 x10_1).f1] : List Int)) (inner := [.int .u64 ((rd_T51 y710 x10_1).f1)]) (ok := fun _ => True) (okp := fun _ => True) ?hr ?hp (fun _ hk => hk) trivial (Below.refl _ _) (Nat.le_refl _) (by simp) ?_; (case hd => rfl); (case hg => rfl); (case hr => first | (go_simp; done) | (go_simp; rfl)); (case hp => exact (Reps.one (show Kd.M (Kd.int .u64) _ _ _ ((rd_T51 y710 x10_1).f1) [.int .u64 ((rd_T51 y710 x10_1).f1)] from rfl) (Reps.none _ _)))
                                intro v747 w49 ho50 hb hg_ hnew_
                                clear hg_ hnew_
                                (first | rw [← Ny746.out] at ho50 | (simp only [Int.reduceToNat] at ho50; rw [← Ny746.out] at ho50))
                                have n0_ := Aside0.mk (Kd.R_elder' (by (with_reducible repeat (first | apply Kd.R_alloc | apply Kd.R_drewN | apply Kd.R_drew)); exact HO_9.out) (Kd.R_base ho50) hb)
                                have n1_ := Aside0.mk (Kd.R_lower (Kd.R_new' ho50 (Kd.R_lt (by (with_reducible repeat (first | apply Kd.R_alloc | apply Kd.R_drewN | apply Kd.R_drew)); exact HO_9.out))) (below_size (by repeat (first | (with_reducible first | exact HB.out | apply below_alloc | apply pw_below_drewN | apply below_drew1 | refine below_set ?_ GE709.out | refine below_set ?_ GE714.out | refine below_set ?_ GE720.out) | exact HB.out))))
                                have n2_ := Aside0.mk (blk_below (g := gb709) (o := .cells #[.int .u64 a1_0, .int .u64 a1_1, .int .u64 a1_2, .int .u64 a1_3] 23 (0, 0)) (by (with_reducible repeat (first | refine blk_drewN ?_ _ | refine blk_drew ?_ | refine blk_alloc ?_ _)); exact BK709.out) hb)
                                have n3_ := Aside0.mk (blk_below (g := gb714) (o := .cells #[.int .i64 (wrap64 (Int.tmod a0 4)), .int .u64 a1_0, .int .u64 a1_1, .int .u64 a1_2, .int .u64 a1_3] 25 (0, 0)) (by (with_reducible repeat (first | refine blk_drewN ?_ _ | refine blk_drew ?_ | refine blk_alloc ?_ _)); exact BK714.out) hb)
                                have n4_ := Aside0.mk (blk_below (g := gb720) (o := .cells #[.int .i64 x721000_2, .int .u64 x721001_2, .int .u64 x721002_2, .int .u64 x721003_2, .int .u64 x721004_2] 25 (0, 0)) (by (with_reducible repeat (first | refine blk_drewN ?_ _ | refine blk_drew ?_ | refine blk_alloc ?_ _)); exact BK720.out) hb)
                                have n5_ := Aside0.mk (below_step (by repeat (first | (with_reducible first | exact HB.out | apply below_alloc | apply pw_below_drewN | apply below_drew1 | refine below_set ?_ GE709.out | refine below_set ?_ GE714.out | refine below_set ?_ GE720.out) | exact HB.out)) hb)
                                clear HO_9
                                clear BK709
                                clear BK714
                                clear BK720
                                clear HB
                                have HO_9 := n0_
                                have HO748 := n1_
                                have BK709 := n2_
                                have BK714 := n3_
                                have BK720 := n4_
                                have HB := n5_
                                clear n0_ n1_ n2_ n3_ n4_ n5_
                                clear hb ho50
                                obtain ⟨Ao51, co51, eo51⟩ := Kd.R_slice HO748.out
                                (first | subst eo51 | (injection eo51 with f1_ f2_ f3_; have f4_ := f1_.symm; have f5_ := f3_.symm; clear f1_ f2_ f3_; subst f4_; subst f5_))
                                refine hK.out _ _ ⟨(blk_cell BK720.out 0).trans rfl, (blk_cell BK720.out 1).trans rfl, (blk_cell BK720.out 2).trans rfl, (blk_cell BK720.out 3).trans rfl, (blk_cell BK720.out 4).trans rfl, ((HB.out.cell (World.block_lt_of_cell? w _ hw732_0)).trans hw732_0), ((HB.out.cell (World.block_lt_of_cell? w _ hw732_1)).trans hw732_1)⟩ (fun hHeld => ?_)
                                clear hK K
                                refine norm_ (a' := ?_) ?_ ?_
                                rotate_left
                                · show Act.put _ (some 42) _ = _
                                  simp only [Act.put, List.setIfInBounds_toArray, List.set_cons_zero, List.set_cons_succ, i64_w, i32_w]
                                  rfl
                                refine one_ (i := 8) (N := some 43) #[true, true, true, true, true, true, true, true, true, false] rfl rfl (one_of HT_.out (by kernel_rfl)) (by decide) (fun K hK => ?_)
                                refine goes_ Tryd.func22 (by kernel_rfl) rfl #[.agg #[.int .i64 x721000_2, .int .u64 x721001_2, .int .u64 x721002_2, .int .u64 x721003_2, .int .u64 x721004_2], .slice Ao51 y746.length co51] (by rfl) rfl rfl (by (try simp only [List.map_toArray, List.map_cons, List.map_nil]); first | done | rfl | (simp only [List.length_drop, List.length_take]; rfl) | (go_simp; done) | (go_simp; rw [Int.tmod_eq_emod_of_nonneg (by omega)]; omega)) ?_
                                with_reducible refine (channel_Absorb.calls k2 x721000_2 x721001_2 x721002_2 x721003_2 x721004_2 _ _ y746 t749 t750 t751 t752 t753 _ ?side1 ?side2 ?side3 A44.out).mono ?_
                                (case side1 => repeat (first | exact (Kd.R_reads' HO748.out).2.2 | (with_reducible refine Kd.C_alloc ?_ _) | (with_reducible refine Kd.C_drewN ?_ _) | (with_reducible refine Kd.C_drew ?_)))
                                (case side2 => exact (Kd.R_reads' HO748.out).2.1)
                                (case side3 => repeat (first | exact (GL.below HRG.out HB.out) | (with_reducible refine GL.alloc ?_ _) | (with_reducible refine GL.drewN ?_ _) | (with_reducible refine GL.drew ?_)))
                                rintro e w52 ⟨rfl, hb⟩
                                refine ⟨_, rfl, ?_⟩
                                have n0_ := Aside0.mk (Kd.R_below (by (with_reducible repeat (first | apply Kd.R_alloc | apply Kd.R_drewN | apply Kd.R_drew)); exact HO_9.out) hb)
                                have n1_ := Aside0.mk (Kd.R_below (by (with_reducible repeat (first | apply Kd.R_alloc | apply Kd.R_drewN | apply Kd.R_drew)); exact HO748.out) hb)
                                have n2_ := Aside0.mk (blk_below (g := gb709) (o := .cells #[.int .u64 a1_0, .int .u64 a1_1, .int .u64 a1_2, .int .u64 a1_3] 23 (0, 0)) (by (with_reducible repeat (first | refine blk_drewN ?_ _ | refine blk_drew ?_ | refine blk_alloc ?_ _)); exact BK709.out) hb)
                                have n3_ := Aside0.mk (blk_below (g := gb714) (o := .cells #[.int .i64 (wrap64 (Int.tmod a0 4)), .int .u64 a1_0, .int .u64 a1_1, .int .u64 a1_2, .int .u64 a1_3] 25 (0, 0)) (by (with_reducible repeat (first | refine blk_drewN ?_ _ | refine blk_drew ?_ | refine blk_alloc ?_ _)); exact BK714.out) hb)
                                have n4_ := Aside0.mk (blk_below (g := gb720) (o := .cells #[.int .i64 x721000_2, .int .u64 x721001_2, .int .u64 x721002_2, .int .u64 x721003_2, .int .u64 x721004_2] 25 (0, 0)) (by (with_reducible repeat (first | refine blk_drewN ?_ _ | refine blk_drew ?_ | refine blk_alloc ?_ _)); exact BK720.out) hb)
                                have n5_ := Aside0.mk (below_step (by repeat (first | (with_reducible first | exact HB.out | apply below_alloc | apply pw_below_drewN | apply below_drew1 | refine below_set ?_ GE709.out | refine below_set ?_ GE714.out | refine below_set ?_ GE720.out) | exact HB.out)) hb)
                                clear HO_9
                                clear HO748
                                clear BK709
                                clear BK714
                                clear BK720
                                clear HB
                                have HO_9 := n0_
                                have HO748 := n1_
                                have BK709 := n2_
                                have BK714 := n3_
                                have BK720 := n4_
                                have HB := n5_
                                clear n0_ n1_ n2_ n3_ n4_ n5_
                                (try clear hb)
                                (try clear hb2)
                                (try clear hk)
                                (try clear hi)
                                refine hK.out _ _ ⟨(blk_cell BK720.out 0).trans rfl, (blk_cell BK720.out 1).trans rfl, (blk_cell BK720.out 2).trans rfl, (blk_cell BK720.out 3).trans rfl, (blk_cell BK720.out 4).trans rfl, ((HB.out.cell (World.block_lt_of_cell? w _ hw732_0)).trans hw732_0), ((HB.out.cell (World.block_lt_of_cell? w _ hw732_1)).trans hw732_1)⟩ (fun hHeld => ?_)
                                clear hK K
                                refine norm_ (a' := ?_) ?_ ?_
                                rotate_left
                                · show Act.put _ (some 43) _ = _
                                  simp only [Act.put, List.setIfInBounds_toArray, List.set_cons_zero, List.set_cons_succ, i64_w, i32_w]
                                  rfl
                                refine last_ (i := 9) (N := none) #[true, true, true, true, true, true, true, true, true, true] rfl rfl (one_of HT_.out (by kernel_rfl)) (by decide) (fun K hK => ?_)
                                have hs53 : w52.cell? ⟨gb720, 0, none⟩ = some (.int .i64 x721000_2) := (blk_cell BK720.out 0).trans rfl
                                have hfs53 := blk_frozen BK720.out 0
                                have hns53_0 := NB709_720.out
                                have hns53_1 := NB714_720.out
                                have hms53_0 := NB720_709.out
                                have hms53_1 := NB720_714.out
                                have hs54 : w52.cell? ⟨gb720, 1, none⟩ = some (.int .u64 x721001_2) := (blk_cell BK720.out 1).trans rfl
                                have hfs54 := blk_frozen BK720.out 1
                                have hns54_0 := NB709_720.out
                                have hns54_1 := NB714_720.out
                                have hms54_0 := NB720_709.out
                                have hms54_1 := NB720_714.out
                                have hs55 : w52.cell? ⟨gb720, 2, none⟩ = some (.int .u64 x721002_2) := (blk_cell BK720.out 2).trans rfl
                                have hfs55 := blk_frozen BK720.out 2
                                have hns55_0 := NB709_720.out
                                have hns55_1 := NB714_720.out
                                have hms55_0 := NB720_709.out
                                have hms55_1 := NB720_714.out
                                have hs56 : w52.cell? ⟨gb720, 3, none⟩ = some (.int .u64 x721003_2) := (blk_cell BK720.out 3).trans rfl
                                have hfs56 := blk_frozen BK720.out 3
                                have hns56_0 := NB709_720.out
                                have hns56_1 := NB714_720.out
                                have hms56_0 := NB720_709.out
                                have hms56_1 := NB720_714.out
                                have hs57 : w52.cell? ⟨gb720, 4, none⟩ = some (.int .u64 x721004_2) := (blk_cell BK720.out 4).trans rfl
                                have hfs57 := blk_frozen BK720.out 4
                                have hns57_0 := NB709_720.out
                                have hns57_1 := NB714_720.out
                                have hms57_0 := NB720_709.out
                                have hms57_1 := NB720_714.out
                                refine skip_ (w1 := ?_) (by rfl) rfl ?_ ?_
                                rotate_left
                                · go_simp
                                  rfl
                                refine hK.out _ _ ?_
                                clear hK K
                                refine done_ (done_of HT_.out (by kernel_rfl)) ?_
                                try go_wp2
                                have n0_ : Aside0 (Kd.R (Kd.int .u64) 22 (((((w52.setCell ⟨gb720, 0, none⟩ (.int .i64 t749)).setCell ⟨gb720, 1, none⟩ (.int .u64 t750)).setCell ⟨gb720, 2, none⟩ (.int .u64 t751)).setCell ⟨gb720, 3, none⟩ (.int .u64 t752)).setCell ⟨gb720, 4, none⟩ (.int .u64 t753)) w.heap.size (fun k_ => some k_ ≠ (.slice Ao51 y746.length co51 : Value).ownBlock) u9 x9_2) := ⟨by (with_reducible repeat (first | apply Kd.R_alloc | apply Kd.R_drewN | apply Kd.R_drew)); exact Kd.R_mono (Kd.R_far (p := ⟨gb720, 4, none⟩) (Kd.R_far (p := ⟨gb720, 3, none⟩) (Kd.R_far (p := ⟨gb720, 2, none⟩) (Kd.R_far (p := ⟨gb720, 1, none⟩) (Kd.R_far (p := ⟨gb720, 0, none⟩) (Kd.R_types HO_9.out BK720.out (by decide)) (fun _ hk => hk.2) (.int .i64 t749)) (fun _ hk => hk.2) (.int .u64 t750)) (fun _ hk => hk.2) (.int .u64 t751)) (fun _ hk => hk.2) (.int .u64 t752)) (fun _ hk => hk.2) (.int .u64 t753)) (fun _ hk => hk.1.2)⟩
                                have n1_ : Aside0 (Kd.R (Kd.int .u64) 22 (((((w52.setCell ⟨gb720, 0, none⟩ (.int .i64 t749)).setCell ⟨gb720, 1, none⟩ (.int .u64 t750)).setCell ⟨gb720, 2, none⟩ (.int .u64 t751)).setCell ⟨gb720, 3, none⟩ (.int .u64 t752)).setCell ⟨gb720, 4, none⟩ (.int .u64 t753)) w.heap.size (fun k_ => some k_ ≠ (u9 : Value).ownBlock) (.slice Ao51 y746.length co51) y746) := ⟨by (with_reducible repeat (first | apply Kd.R_alloc | apply Kd.R_drewN | apply Kd.R_drew)); exact Kd.R_mono (Kd.R_far (p := ⟨gb720, 4, none⟩) (Kd.R_far (p := ⟨gb720, 3, none⟩) (Kd.R_far (p := ⟨gb720, 2, none⟩) (Kd.R_far (p := ⟨gb720, 1, none⟩) (Kd.R_far (p := ⟨gb720, 0, none⟩) (Kd.R_types HO748.out BK720.out (by decide)) (fun _ hk => hk.2) (.int .i64 t749)) (fun _ hk => hk.2) (.int .u64 t750)) (fun _ hk => hk.2) (.int .u64 t751)) (fun _ hk => hk.2) (.int .u64 t752)) (fun _ hk => hk.2) (.int .u64 t753)) (fun _ hk => hk.1.2)⟩
                                have n2_ : Aside0 ((((((w52.setCell ⟨gb720, 0, none⟩ (.int .i64 t749)).setCell ⟨gb720, 1, none⟩ (.int .u64 t750)).setCell ⟨gb720, 2, none⟩ (.int .u64 t751)).setCell ⟨gb720, 3, none⟩ (.int .u64 t752)).setCell ⟨gb720, 4, none⟩ (.int .u64 t753)).heap[gb709]? = some (.cells #[.int .u64 a1_0, .int .u64 a1_1, .int .u64 a1_2, .int .u64 a1_3] 23 (0, 0))) := ⟨by (with_reducible repeat (first | refine blk_drewN ?_ _ | refine blk_drew ?_ | refine blk_alloc ?_ _)); refine blk_far ?_ NB709_720.out _; (with_reducible repeat (first | refine blk_drewN ?_ _ | refine blk_drew ?_ | refine blk_alloc ?_ _)); refine blk_far ?_ NB709_720.out _; (with_reducible repeat (first | refine blk_drewN ?_ _ | refine blk_drew ?_ | refine blk_alloc ?_ _)); refine blk_far ?_ NB709_720.out _; (with_reducible repeat (first | refine blk_drewN ?_ _ | refine blk_drew ?_ | refine blk_alloc ?_ _)); refine blk_far ?_ NB709_720.out _; (with_reducible repeat (first | refine blk_drewN ?_ _ | refine blk_drew ?_ | refine blk_alloc ?_ _)); refine blk_far ?_ NB709_720.out _; (with_reducible repeat (first | refine blk_drewN ?_ _ | refine blk_drew ?_ | refine blk_alloc ?_ _)); exact BK709.out⟩
                                have n3_ : Aside0 ((((((w52.setCell ⟨gb720, 0, none⟩ (.int .i64 t749)).setCell ⟨gb720, 1, none⟩ (.int .u64 t750)).setCell ⟨gb720, 2, none⟩ (.int .u64 t751)).setCell ⟨gb720, 3, none⟩ (.int .u64 t752)).setCell ⟨gb720, 4, none⟩ (.int .u64 t753)).heap[gb714]? = some (.cells #[.int .i64 (wrap64 (Int.tmod a0 4)), .int .u64 a1_0, .int .u64 a1_1, .int .u64 a1_2, .int .u64 a1_3] 25 (0, 0))) := ⟨by (with_reducible repeat (first | refine blk_drewN ?_ _ | refine blk_drew ?_ | refine blk_alloc ?_ _)); refine blk_far ?_ NB714_720.out _; (with_reducible repeat (first | refine blk_drewN ?_ _ | refine blk_drew ?_ | refine blk_alloc ?_ _)); refine blk_far ?_ NB714_720.out _; (with_reducible repeat (first | refine blk_drewN ?_ _ | refine blk_drew ?_ | refine blk_alloc ?_ _)); refine blk_far ?_ NB714_720.out _; (with_reducible repeat (first | refine blk_drewN ?_ _ | refine blk_drew ?_ | refine blk_alloc ?_ _)); refine blk_far ?_ NB714_720.out _; (with_reducible repeat (first | refine blk_drewN ?_ _ | refine blk_drew ?_ | refine blk_alloc ?_ _)); refine blk_far ?_ NB714_720.out _; (with_reducible repeat (first | refine blk_drewN ?_ _ | refine blk_drew ?_ | refine blk_alloc ?_ _)); exact BK714.out⟩
                                have n4_ : Aside0 ((((((w52.setCell ⟨gb720, 0, none⟩ (.int .i64 t749)).setCell ⟨gb720, 1, none⟩ (.int .u64 t750)).setCell ⟨gb720, 2, none⟩ (.int .u64 t751)).setCell ⟨gb720, 3, none⟩ (.int .u64 t752)).setCell ⟨gb720, 4, none⟩ (.int .u64 t753)).heap[gb720]? = some (.cells #[.int .i64 t749, .int .u64 t750, .int .u64 t751, .int .u64 t752, .int .u64 t753] 25 (0, 0))) := ⟨by (with_reducible repeat (first | refine blk_drewN ?_ _ | refine blk_drew ?_ | refine blk_alloc ?_ _)); refine blk_put (cs := #[.int .i64 t749, .int .u64 t750, .int .u64 t751, .int .u64 t752, .int .u64 x721004_2]) ?_ 4 _ rfl; (with_reducible repeat (first | refine blk_drewN ?_ _ | refine blk_drew ?_ | refine blk_alloc ?_ _)); refine blk_put (cs := #[.int .i64 t749, .int .u64 t750, .int .u64 t751, .int .u64 x721003_2, .int .u64 x721004_2]) ?_ 3 _ rfl; (with_reducible repeat (first | refine blk_drewN ?_ _ | refine blk_drew ?_ | refine blk_alloc ?_ _)); refine blk_put (cs := #[.int .i64 t749, .int .u64 t750, .int .u64 x721002_2, .int .u64 x721003_2, .int .u64 x721004_2]) ?_ 2 _ rfl; (with_reducible repeat (first | refine blk_drewN ?_ _ | refine blk_drew ?_ | refine blk_alloc ?_ _)); refine blk_put (cs := #[.int .i64 t749, .int .u64 x721001_2, .int .u64 x721002_2, .int .u64 x721003_2, .int .u64 x721004_2]) ?_ 1 _ rfl; (with_reducible repeat (first | refine blk_drewN ?_ _ | refine blk_drew ?_ | refine blk_alloc ?_ _)); refine blk_put (cs := #[.int .i64 x721000_2, .int .u64 x721001_2, .int .u64 x721002_2, .int .u64 x721003_2, .int .u64 x721004_2]) ?_ 0 _ rfl; (with_reducible repeat (first | refine blk_drewN ?_ _ | refine blk_drew ?_ | refine blk_alloc ?_ _)); exact BK720.out⟩
                                have n5_ : Aside0 (Below w.heap.size w (((((w52.setCell ⟨gb720, 0, none⟩ (.int .i64 t749)).setCell ⟨gb720, 1, none⟩ (.int .u64 t750)).setCell ⟨gb720, 2, none⟩ (.int .u64 t751)).setCell ⟨gb720, 3, none⟩ (.int .u64 t752)).setCell ⟨gb720, 4, none⟩ (.int .u64 t753))) := ⟨by repeat (first | (with_reducible first | exact HB.out | apply below_alloc | apply pw_below_drewN | apply below_drew1 | refine below_set ?_ GE709.out | refine below_set ?_ GE714.out | refine below_set ?_ GE720.out) | exact HB.out)⟩
                                (try clear HO_9)
                                (try clear HO748)
                                (try clear BK709)
                                (try clear BK714)
                                (try clear BK720)
                                (try clear HB)
                                generalize (((((w52.setCell ⟨gb720, 0, none⟩ (.int .i64 t749)).setCell ⟨gb720, 1, none⟩ (.int .u64 t750)).setCell ⟨gb720, 2, none⟩ (.int .u64 t751)).setCell ⟨gb720, 3, none⟩ (.int .u64 t752)).setCell ⟨gb720, 4, none⟩ (.int .u64 t753)) = w58 at n0_ n1_ n2_ n3_ n4_ n5_ ⊢
                                have HO_9 := n0_
                                have HO748 := n1_
                                have BK709 := n2_
                                have BK714 := n3_
                                have BK720 := n4_
                                have HB := n5_
                                clear n0_ n1_ n2_ n3_ n4_ n5_
                                have n0_ := Aside0.mk (Kd.R_drew HO_9.out)
                                have n1_ := Aside0.mk (Kd.R_drew HO748.out)
                                have n2_ := Aside0.mk (blk_drew BK709.out)
                                have n3_ := Aside0.mk (blk_drew BK714.out)
                                have n4_ := Aside0.mk (blk_drew BK720.out)
                                have n5_ := Aside0.mk (below_drew1 HB.out)
                                clear HO_9
                                clear HO748
                                clear BK709
                                clear BK714
                                clear BK720
                                clear HB
                                have HO_9 := n0_
                                have HO748 := n1_
                                have BK709 := n2_
                                have BK714 := n3_
                                have BK720 := n4_
                                have HB := n5_
                                clear n0_ n1_ n2_ n3_ n4_ n5_
                                have p754 : 0 ≤ (x10_1 : Int) := of_decide_eq_true (by first | (with_reducible assumption) | assumption)
                                have q754 : x10_1 < (y710.length : Int) := of_decide_eq_true (by first | (with_reducible assumption) | assumption)
                                obtain ⟨ad754, e754, hx754_0, hx754_1⟩ := at_T51 HR713.out x10_1 p754 q754
                                have hw754_1 := hx754_1
                                have hw754_0 := hx754_0
                                obtain rfl : ad732 = ad754 := (by injection e754)
                                replace hx754_0 := (HB.out.cell (World.block_lt_of_cell? w _ hx754_0)).trans hx754_0
                                replace hx754_1 := (HB.out.cell (World.block_lt_of_cell? w _ hx754_1)).trans hx754_1
                                replace p754 := eq_true p754
                                replace q754 := eq_true q754
                                refine start_ (n := 14) (S := fun w' => w'.cell? ⟨gb714, 0, none⟩ = some (.int .i64 (wrap64 (Int.tmod a0 4))) ∧ w'.cell? ⟨gb714, 1, none⟩ = some (.int .u64 a1_0) ∧ w'.cell? ⟨gb714, 2, none⟩ = some (.int .u64 a1_1) ∧ w'.cell? ⟨gb714, 3, none⟩ = some (.int .u64 a1_2) ∧ w'.cell? ⟨gb714, 4, none⟩ = some (.int .u64 a1_3) ∧ w'.cell? (ad732.add ((x10_1).toNat * 2)) = some (.int .u64 ((rd_T51 y710 x10_1).f0)) ∧ w'.cell? ⟨(ad732.add ((x10_1).toNat * 2)).block, (ad732.add ((x10_1).toNat * 2)).off + 1, none⟩ = some (.int .u64 ((rd_T51 y710 x10_1).f1))) (ds := []) #[false, false, false, false, false, false, false, false, false, false, false, false, false, false] (by kernel_rfl) rfl rfl ⟨(blk_cell BK714.out 0).trans rfl, (blk_cell BK714.out 1).trans rfl, (blk_cell BK714.out 2).trans rfl, (blk_cell BK714.out 3).trans rfl, (blk_cell BK714.out 4).trans rfl, ((HB.out.cell (World.block_lt_of_cell? w _ hw754_0)).trans hw754_0), ((HB.out.cell (World.block_lt_of_cell? w _ hw754_1)).trans hw754_1)⟩ (fun hHeld => ?_); refine with_tabW attestorlaw08_ChannelOrder.tab12 attestorlaw08_ChannelOrder.bits12 (fun HT_ HW_ => ?_)
                                generalize w58.drew = w59 at HO_9 HO748 BK709 BK714 BK720 HB hx754_0 hx754_1 hHeld ⊢
                                refine pure_ (i := 0) (N := some 44) (v := ?_) (a' := ?_) #[true, false, false, false, false, false, false, false, false, false, false, false, false, false] rfl rfl (any_of HT_.out (by kernel_rfl)) (fun _ _ _ h => h) (Or.inl ⟨by rfl, ?_⟩) ?_ ?_
                                rotate_left
                                · intro w'
                                  go_simp
                                  with_reducible rfl
                                rotate_left
                                · simp only [Act.put, List.setIfInBounds_toArray, List.set_cons_zero, List.set_cons_succ, i64_w, i32_w]
                                  rfl
                                refine pure_ (i := 1) (N := some 45) (v := ?_) (a' := ?_) #[true, true, false, false, false, false, false, false, false, false, false, false, false, false] rfl rfl (any_of HT_.out (by kernel_rfl)) (fun _ _ _ h => h) (Or.inl ⟨by rfl, ?_⟩) ?_ ?_
                                rotate_left
                                · intro w'
                                  go_simp
                                  with_reducible rfl
                                rotate_left
                                · simp only [Act.put, List.setIfInBounds_toArray, List.set_cons_zero, List.set_cons_succ, i64_w, i32_w]
                                  rfl
                                refine pure_ (i := 2) (N := some 46) (v := ?_) (a' := ?_) #[true, true, true, false, false, false, false, false, false, false, false, false, false, false] rfl rfl (any_of HT_.out (by kernel_rfl)) (fun _ _ _ h => h) (Or.inl ⟨by rfl, ?_⟩) ?_ ?_
                                rotate_left
                                · intro w'
                                  go_simp
                                  with_reducible rfl
                                rotate_left
                                · simp only [Act.put, List.setIfInBounds_toArray, List.set_cons_zero, List.set_cons_succ, i64_w, i32_w]
                                  rfl
                                refine pure_ (i := 3) (N := some 47) (v := ?_) (a' := ?_) #[true, true, true, true, false, false, false, false, false, false, false, false, false, false] rfl rfl (any_of HT_.out (by kernel_rfl)) (fun _ _ _ h => h) (Or.inl ⟨by rfl, ?_⟩) ?_ ?_
                                rotate_left
                                · intro w'
                                  go_simp
                                  with_reducible rfl
                                rotate_left
                                · simp only [Act.put, List.setIfInBounds_toArray, List.set_cons_zero, List.set_cons_succ, i64_w, i32_w]
                                  rfl
                                refine pure_ (i := 4) (N := some 48) (v := ?_) (a' := ?_) #[true, true, true, true, true, false, false, false, false, false, false, false, false, false] rfl rfl (any_of HT_.out (by kernel_rfl)) (fun _ _ _ h => h) (Or.inl ⟨by rfl, ?_⟩) ?_ ?_
                                rotate_left
                                · intro w'
                                  go_simp
                                  with_reducible rfl
                                rotate_left
                                · simp only [Act.put, List.setIfInBounds_toArray, List.set_cons_zero, List.set_cons_succ, i64_w, i32_w]
                                  rfl
                                refine pure_ (i := 5) (N := some 49) (v := ?_) (a' := ?_) #[true, true, true, true, true, true, false, false, false, false, false, false, false, false] rfl rfl (any_of HT_.out (by kernel_rfl)) (fun _ _ _ h => h) (Or.inl ⟨by rfl, ?_⟩) ?_ ?_
                                rotate_left
                                · intro w'
                                  go_simp
                                  with_reducible rfl
                                rotate_left
                                · simp only [Act.put, List.setIfInBounds_toArray, List.set_cons_zero, List.set_cons_succ, i64_w, i32_w]
                                  rfl
                                refine pure_ (i := 7) (N := some 51) (v := ?_) (a' := ?_) #[true, true, true, true, true, true, false, true, false, false, false, false, false, false] rfl rfl (any_of HT_.out (by kernel_rfl)) (fun _ _ _ h => h) (Or.inl ⟨by rfl, ?_⟩) ?_ ?_
                                rotate_left
                                · intro w'
                                  go_simp
                                  with_reducible rfl
                                rotate_left
                                · simp only [Act.put, List.setIfInBounds_toArray, List.set_cons_zero, List.set_cons_succ, i64_w, i32_w]
                                  rfl
                                refine take_ (i := 6) (N := some 50) (v := ?_) (a' := ?_) #[true, true, true, true, true, true, true, true, false, false, false, false, false, false] rfl rfl (take_ofW HT_.out HW_.out (by kernel_rfl)) (fun _ _ _ h => h) (Or.inl ⟨by rfl, ?_⟩) hHeld ?_ ?_
                                rotate_left
                                · rintro w' ⟨s0, s1, s2, s3, s4, s5, s6⟩
                                  go_simp
                                  with_reducible rfl
                                rotate_left
                                · simp only [Act.put, List.setIfInBounds_toArray, List.set_cons_zero, List.set_cons_succ, i64_w, i32_w]
                                  rfl
                                refine take_ (i := 8) (N := some 52) (v := ?_) (a' := ?_) #[true, true, true, true, true, true, true, true, true, false, false, false, false, false] rfl rfl (take_ofW HT_.out HW_.out (by kernel_rfl)) (fun _ _ _ h => h) (Or.inl ⟨by rfl, ?_⟩) hHeld ?_ ?_
                                rotate_left
                                · rintro w' ⟨s0, s1, s2, s3, s4, s5, s6⟩
                                  go_simp
                                  with_reducible rfl
                                rotate_left
                                · simp only [Act.put, List.setIfInBounds_toArray, List.set_cons_zero, List.set_cons_succ, i64_w, i32_w]
                                  rfl
                                refine one_ (i := 9) (N := some 53) #[true, true, true, true, true, true, true, true, true, true, false, false, false, false] rfl rfl (one_of HT_.out (by kernel_rfl)) (by decide) (fun K hK => ?_)
                                refine goes_ Tryd.func20 (by kernel_rfl) rfl #[.int .i64 (wrap64 (Int.tmod a0 4))] (by rfl) rfl rfl (by (try simp only [List.map_toArray, List.map_cons, List.map_nil]); first | done | rfl | (simp only [List.length_drop, List.length_take]; rfl) | (go_simp; done) | (go_simp; rw [Int.tmod_eq_emod_of_nonneg (by omega)]; omega)) ?_
                                with_reducible refine (attestorref01_P.calls (wrap64 (Int.tmod a0 4)) t755 _ A45.out).mono ?_
                                rintro e w' ⟨rfl, ⟨nd, rfl⟩⟩
                                refine ⟨_, rfl, ?_⟩
                                refine hK.out _ _ ⟨(blk_cell BK714.out 0).trans rfl, (blk_cell BK714.out 1).trans rfl, (blk_cell BK714.out 2).trans rfl, (blk_cell BK714.out 3).trans rfl, (blk_cell BK714.out 4).trans rfl, ((HB.out.cell (World.block_lt_of_cell? w _ hw754_0)).trans hw754_0), ((HB.out.cell (World.block_lt_of_cell? w _ hw754_1)).trans hw754_1)⟩ (fun hHeld => ?_)
                                clear hK K
                                refine norm_ (a' := ?_) ?_ ?_
                                rotate_left
                                · show Act.put _ (some 53) _ = _
                                  simp only [Act.put, List.setIfInBounds_toArray, List.set_cons_zero, List.set_cons_succ, i64_w, i32_w]
                                  rfl
                                refine pure_ (i := 10) (N := some 54) (v := ?_) (a' := ?_) #[true, true, true, true, true, true, true, true, true, true, true, false, false, false] rfl rfl (any_of HT_.out (by kernel_rfl)) (fun _ _ _ h => h) (Or.inl ⟨by rfl, ?_⟩) ?_ ?_
                                rotate_left
                                · intro w'
                                  go_simp
                                  with_reducible rfl
                                rotate_left
                                · simp only [Act.put, List.setIfInBounds_toArray, List.set_cons_zero, List.set_cons_succ, i64_w, i32_w]
                                  rfl
                                refine one_ (i := 11) (N := some 55) #[true, true, true, true, true, true, true, true, true, true, true, true, false, false] rfl rfl (one_of HT_.out (by kernel_rfl)) (by decide) (fun K hK => ?_)
                                refine value_ (w1 := ?_) (v := ?_) (by rfl) rfl ?_ ?_
                                rotate_left 2
                                · go_simp
                                  constructor
                                  · rfl
                                  · rfl
                                refine hK.out _ _ ⟨(blk_cell (blk_alloc BK714.out _) 0).trans rfl, (blk_cell (blk_alloc BK714.out _) 1).trans rfl, (blk_cell (blk_alloc BK714.out _) 2).trans rfl, (blk_cell (blk_alloc BK714.out _) 3).trans rfl, (blk_cell (blk_alloc BK714.out _) 4).trans rfl, (World.cell?_alloc_lt _ _ _ (World.block_lt_of_cell? _ _ (((HB.out.cell (World.block_lt_of_cell? w _ hw754_0)).trans hw754_0)))).trans (((HB.out.cell (World.block_lt_of_cell? w _ hw754_0)).trans hw754_0)), (World.cell?_alloc_lt _ _ _ (World.block_lt_of_cell? _ _ (((HB.out.cell (World.block_lt_of_cell? w _ hw754_1)).trans hw754_1)))).trans (((HB.out.cell (World.block_lt_of_cell? w _ hw754_1)).trans hw754_1))⟩ (fun hHeld => ?_)
                                clear hK K
                                refine norm_ (a' := ?_) ?_ ?_
                                rotate_left
                                · show Act.put _ (some 55) _ = _
                                  simp only [Act.put, List.setIfInBounds_toArray, List.set_cons_zero, List.set_cons_succ, i64_w, i32_w]
                                  rfl
                                refine one_ (i := 12) (N := some 56) #[true, true, true, true, true, true, true, true, true, true, true, true, true, false] rfl rfl (one_of HT_.out (by kernel_rfl)) (by decide) (fun K hK => ?_)
                                refine Kd.R_append_step (Kd.int .u64) (w0 := w) w.heap.size (by rfl) (.tmp 44) (.tmp 55) 49 22 (.int .u64 0) 8 rfl Tryd.underlying49 info22 rfl (by decide) (by omega) u9 x9_2 (Int.tmod ((rd_T51 y710 x10_1).f1) t755) [.int .u64 (Int.tmod ((rd_T51 y710 x10_1).f1) t755)] (fun k_ => some k_ ≠ (.slice Ao51 y746.length co51 : Value).ownBlock) (fun _ => False) rfl rfl ?aP (fun _ hk => hk.elim) ?aF ?aO ?aB ?aS ?aL ?_
                                (case aP => exact rfl)
                                (case aB => exact (by repeat (first | (with_reducible first | exact HB.out | apply below_alloc | apply pw_below_drewN | apply below_drew1 | refine below_set ?_ GE709.out | refine below_set ?_ GE714.out | refine below_set ?_ GE720.out) | exact HB.out)))
                                (case aF => exact (fun k_ hk => Kd.fresh' (Kd.R_lt (by (with_reducible repeat (first | apply Kd.R_alloc | apply Kd.R_drewN | apply Kd.R_drew)); exact HO748.out)) k_ hk))
                                (case aO => exact (by (with_reducible repeat (first | apply Kd.R_alloc | apply Kd.R_drewN | apply Kd.R_drew)); exact HO_9.out))
                                (case aS => exact (below_size (by repeat (first | (with_reducible first | exact HB.out | apply below_alloc | apply pw_below_drewN | apply below_drew1 | refine below_set ?_ GE709.out | refine below_set ?_ GE714.out | refine below_set ?_ GE720.out) | exact HB.out))))
                                (case aL => have := LMc47.out; omega)
                                intro v757 w60 ho hb hg hat
                                rw [← Ny756.out] at ho
                                have n0_ := Aside0.mk (blk_grown (g := gb709) (o := .cells #[.int .u64 a1_0, .int .u64 a1_1, .int .u64 a1_2, .int .u64 a1_3] 23 (0, 0)) (by (with_reducible repeat (first | refine blk_drewN ?_ _ | refine blk_drew ?_ | refine blk_alloc ?_ _)); exact BK709.out) hg (Kd.R_ne HO_9.out BK709.out (by decide)))
                                have n1_ := Aside0.mk (blk_grown (g := gb714) (o := .cells #[.int .i64 (wrap64 (Int.tmod a0 4)), .int .u64 a1_0, .int .u64 a1_1, .int .u64 a1_2, .int .u64 a1_3] 25 (0, 0)) (by (with_reducible repeat (first | refine blk_drewN ?_ _ | refine blk_drew ?_ | refine blk_alloc ?_ _)); exact BK714.out) hg (Kd.R_ne HO_9.out BK714.out (by decide)))
                                have n2_ := Aside0.mk (blk_grown (g := gb720) (o := .cells #[.int .i64 t749, .int .u64 t750, .int .u64 t751, .int .u64 t752, .int .u64 t753] 25 (0, 0)) (by (with_reducible repeat (first | refine blk_drewN ?_ _ | refine blk_drew ?_ | refine blk_alloc ?_ _)); exact BK720.out) hg (Kd.R_ne HO_9.out BK720.out (by decide)))
                                have n3_ := Aside0.mk (Kd.R_after (ok := (fun _ => True)) (by (with_reducible repeat (first | apply Kd.R_alloc | apply Kd.R_drewN | apply Kd.R_drew)); exact Kd.R_mono HO748.out (fun _ hk => ⟨trivial, hk⟩)) hg hat)
                                have n4_ := Aside0.mk (hb)
                                have n5_ := Aside0.mk (ho)
                                clear BK709
                                clear BK714
                                clear BK720
                                clear HO748
                                clear HB
                                clear HO_9
                                have BK709 := n0_
                                have BK714 := n1_
                                have BK720 := n2_
                                have HO748 := n3_
                                have HB := n4_
                                have HO758 := n5_
                                clear n0_ n1_ n2_ n3_ n4_ n5_
                                clear ho hb hg hat
                                refine hK.out _ _ ⟨(blk_cell BK714.out 0).trans rfl, (blk_cell BK714.out 1).trans rfl, (blk_cell BK714.out 2).trans rfl, (blk_cell BK714.out 3).trans rfl, (blk_cell BK714.out 4).trans rfl, ((HB.out.cell (World.block_lt_of_cell? w _ hw754_0)).trans hw754_0), ((HB.out.cell (World.block_lt_of_cell? w _ hw754_1)).trans hw754_1)⟩ (fun hHeld => ?_)
                                clear hK K
                                refine norm_ (a' := ?_) ?_ ?_
                                rotate_left
                                · show Act.put _ (some 56) _ = _
                                  simp only [Act.put, List.setIfInBounds_toArray, List.set_cons_zero, List.set_cons_succ, i64_w, i32_w]
                                  rfl
                                refine pure_ (i := 13) (N := some 9) (v := ?_) (a' := ?_) #[true, true, true, true, true, true, true, true, true, true, true, true, true, true] rfl rfl (any_of HT_.out (by kernel_rfl)) (fun _ _ _ h => h) (Or.inl ⟨by rfl, ?_⟩) ?_ ?_
                                rotate_left
                                · intro w'
                                  go_simp
                                  with_reducible rfl
                                rotate_left
                                · simp only [Act.put, List.setIfInBounds_toArray, List.set_cons_zero, List.set_cons_succ, i64_w, i32_w]
                                  rfl
                                refine done_ (done_of HT_.out (by kernel_rfl)) ?_
                                try go_wp2
                                go_roundg k2
                                case measure => have := HK1.out; have := HK2.out; omega
                                case rel => exact ⟨(y756), (wrap64 (1 + 1)), (t749), (t750), (t751), (t752), (t753), (by first | rfl | (simp; done) | (simp [*]; done) | (simp; rfl) | (simp; decide +kernel)), H', ⟨by have := HK1.out; have := HK2.out; omega⟩, ⟨by (with_reducible repeat (first | apply Kd.R_alloc | apply Kd.R_drewN | apply Kd.R_drew)); exact Kd.R_mono HO758.out (fun _ hk => trivial)⟩, ⟨by (with_reducible repeat (first | refine blk_drewN ?_ _ | refine blk_drew ?_ | refine blk_alloc ?_ _)); exact BK709.out⟩, ⟨by (with_reducible repeat (first | refine blk_drewN ?_ _ | refine blk_drew ?_ | refine blk_alloc ?_ _)); exact BK714.out⟩, ⟨by (with_reducible repeat (first | refine blk_drewN ?_ _ | refine blk_drew ?_ | refine blk_alloc ?_ _)); exact BK720.out⟩, ⟨by repeat (first | (with_reducible first | exact HB.out | apply below_alloc | apply pw_below_drewN | apply below_drew1 | refine below_set ?_ GE709.out | refine below_set ?_ GE714.out | refine below_set ?_ GE720.out) | exact HB.out)⟩⟩
                              · rw [if_neg c47] at H
                                exact absurd H (by simp)
                          · rw [if_neg c43] at H
                            exact absurd H (by simp)
                      · rw [if_neg c24] at H
                        exact absurd H (by simp)
                    · rw [if_neg c23] at H
                      exact absurd H (by simp)
                  · rw [if_neg c22] at H
                    exact absurd H (by simp)
                · rw [if_neg c21] at H
                  have c21b0 : decide (x11_2 < 2) = false := decide_eq_false c21
                  clear c21
                  have H' := Aside0.mk H
                  clear H
                  go_wp2
                  go_roundg k2
                  case measure => have := HK1.out; have := HK2.out; omega
                  case rel => exact ⟨(x9_2), (wrap64 (x10_1 + 1)), (x721000_2), (x721001_2), (x721002_2), (x721003_2), (x721004_2), (by first | rfl | (simp; done) | (simp [*]; done) | (simp; rfl) | (simp; decide +kernel)), H', ⟨by have := HK1.out; have := HK2.out; omega⟩, ⟨by (with_reducible repeat (first | apply Kd.R_alloc | apply Kd.R_drewN | apply Kd.R_drew)); exact HO_9.out⟩, ⟨by (with_reducible repeat (first | refine blk_drewN ?_ _ | refine blk_drew ?_ | refine blk_alloc ?_ _)); exact BK709.out⟩, ⟨by (with_reducible repeat (first | refine blk_drewN ?_ _ | refine blk_drew ?_ | refine blk_alloc ?_ _)); exact BK714.out⟩, ⟨by (with_reducible repeat (first | refine blk_drewN ?_ _ | refine blk_drew ?_ | refine blk_alloc ?_ _)); exact BK720.out⟩, ⟨by repeat (first | (with_reducible first | exact HB.out | apply below_alloc | apply pw_below_drewN | apply below_drew1 | refine below_set ?_ GE709.out | refine below_set ?_ GE714.out | refine below_set ?_ GE720.out) | exact HB.out)⟩⟩
          · rw [if_neg c20] at H
            have c20b0 : decide (x10_1 < (y710.length : Int)) = false := decide_eq_false c20
            clear c20
            replace H := Option.bind_eq_some_iff.mp H
            obtain ⟨⟨t721, t722, t723, t724, t725⟩, A610, H⟩ := H
            replace H : (if (t721 == x721000_1 && ((t722 == x721001_1 && (t723 == x721002_1 && (t724 == x721003_1 && (t725 == x721004_1)))))) = true then ((channel_Absorb.f k1 (wrap64 (Int.tmod a0 4)) a1_0 a1_1 a1_2 a1_3 x9_1).bind fun bt726 => (if (bt726.1 == x721000_1 && ((bt726.2.1 == x721001_1 && (bt726.2.2.1 == x721002_1 && (bt726.2.2.2.1 == x721003_1 && (bt726.2.2.2.2 == x721004_1)))))) = true then ((attestorlaw08_lives.f k1).bind fun t731 => (some t731)) else (none))) else (none)) = some r := H
            have A61 := Aside0.mk A610
            clear A610
            by_cases c62 : (t721 == x721000_1 && ((t722 == x721001_1 && (t723 == x721002_1 && (t724 == x721003_1 && (t725 == x721004_1)))))) = true
            · rw [if_pos c62] at H
              have c62b0 : (t721 == x721000_1 && ((t722 == x721001_1 && (t723 == x721002_1 && (t724 == x721003_1 && (t725 == x721004_1)))))) = true := c62
              (try (have c62b1 : decide (t721 = x721000_1 && ((t722 == x721001_1 && (t723 == x721002_1 && (t724 == x721003_1 && (t725 == x721004_1)))))) = true := by simpa using c62))
              (try (have c62b2 : (t721 == x721000_1 && ((t722 == x721001_1 && (t723 == x721002_1 && (t724 == x721003_1 && (t725 == x721004_1)))))) = true := by simpa using c62))
              clear c62
              replace H := Option.bind_eq_some_iff.mp H
              obtain ⟨⟨t726, t727, t728, t729, t730⟩, A630, H⟩ := H
              replace H : (if (t726 == x721000_1 && ((t727 == x721001_1 && (t728 == x721002_1 && (t729 == x721003_1 && (t730 == x721004_1)))))) = true then ((attestorlaw08_lives.f k1).bind fun t731 => (some t731)) else (none)) = some r := H
              have A63 := Aside0.mk A630
              clear A630
              by_cases c64 : (t726 == x721000_1 && ((t727 == x721001_1 && (t728 == x721002_1 && (t729 == x721003_1 && (t730 == x721004_1)))))) = true
              · rw [if_pos c64] at H
                have c64b0 : (t726 == x721000_1 && ((t727 == x721001_1 && (t728 == x721002_1 && (t729 == x721003_1 && (t730 == x721004_1)))))) = true := c64
                (try (have c64b1 : decide (t726 = x721000_1 && ((t727 == x721001_1 && (t728 == x721002_1 && (t729 == x721003_1 && (t730 == x721004_1)))))) = true := by simpa using c64))
                (try (have c64b2 : (t726 == x721000_1 && ((t727 == x721001_1 && (t728 == x721002_1 && (t729 == x721003_1 && (t730 == x721004_1)))))) = true := by simpa using c64))
                clear c64
                replace H := Option.bind_eq_some_iff.mp H
                obtain ⟨t731, A650, H⟩ := H
                replace H : (some t731) = some r := H
                have A65 := Aside0.mk A650
                clear A650
                obtain rfl := Option.some.inj H
                try go_wp2
                have n0_ := Aside0.mk (Kd.R_drew HO_9.out)
                have n1_ := Aside0.mk (blk_drew BK709.out)
                have n2_ := Aside0.mk (blk_drew BK714.out)
                have n3_ := Aside0.mk (blk_drew BK720.out)
                have n4_ := Aside0.mk (below_drew1 HB.out)
                clear HO_9
                clear BK709
                clear BK714
                clear BK720
                clear HB
                have HO_9 := n0_
                have BK709 := n1_
                have BK714 := n2_
                have BK720 := n3_
                have HB := n4_
                clear n0_ n1_ n2_ n3_ n4_
                refine start_ (n := 16) (S := fun w' => w'.cell? ⟨gb714, 0, none⟩ = some (.int .i64 (wrap64 (Int.tmod a0 4))) ∧ w'.cell? ⟨gb714, 1, none⟩ = some (.int .u64 a1_0) ∧ w'.cell? ⟨gb714, 2, none⟩ = some (.int .u64 a1_1) ∧ w'.cell? ⟨gb714, 3, none⟩ = some (.int .u64 a1_2) ∧ w'.cell? ⟨gb714, 4, none⟩ = some (.int .u64 a1_3) ∧ w'.cell? ⟨gb720, 0, none⟩ = some (.int .i64 x721000_1) ∧ w'.cell? ⟨gb720, 1, none⟩ = some (.int .u64 x721001_1) ∧ w'.cell? ⟨gb720, 2, none⟩ = some (.int .u64 x721002_1) ∧ w'.cell? ⟨gb720, 3, none⟩ = some (.int .u64 x721003_1) ∧ w'.cell? ⟨gb720, 4, none⟩ = some (.int .u64 x721004_1)) (ds := []) #[false, false, false, false, false, false, false, false, false, false, false, false, false, false, false, false] (by kernel_rfl) rfl rfl ⟨(blk_cell BK714.out 0).trans rfl, (blk_cell BK714.out 1).trans rfl, (blk_cell BK714.out 2).trans rfl, (blk_cell BK714.out 3).trans rfl, (blk_cell BK714.out 4).trans rfl, (blk_cell BK720.out 0).trans rfl, (blk_cell BK720.out 1).trans rfl, (blk_cell BK720.out 2).trans rfl, (blk_cell BK720.out 3).trans rfl, (blk_cell BK720.out 4).trans rfl⟩ (fun hHeld => ?_); refine with_tabW attestorlaw08_ChannelOrder.tab13 attestorlaw08_ChannelOrder.bits13 (fun HT_ HW_ => ?_)
                generalize wr.drew = w66 at HO_9 BK709 BK714 BK720 HB hHeld ⊢
                refine pure_ (i := 1) (N := some 58) (v := ?_) (a' := ?_) #[false, true, false, false, false, false, false, false, false, false, false, false, false, false, false, false] rfl rfl (any_of HT_.out (by kernel_rfl)) (fun _ _ _ h => h) (Or.inl ⟨by rfl, ?_⟩) ?_ ?_
                rotate_left
                · intro w'
                  go_simp
                  with_reducible rfl
                rotate_left
                · simp only [Act.put, List.setIfInBounds_toArray, List.set_cons_zero, List.set_cons_succ, i64_w, i32_w]
                  rfl
                refine take_ (i := 0) (N := some 57) (v := ?_) (a' := ?_) #[true, true, false, false, false, false, false, false, false, false, false, false, false, false, false, false] rfl rfl (take_ofW HT_.out HW_.out (by kernel_rfl)) (fun _ _ _ h => h) (Or.inl ⟨by rfl, ?_⟩) hHeld ?_ ?_
                rotate_left
                · rintro w' ⟨s0, s1, s2, s3, s4, s5, s6, s7, s8, s9⟩
                  go_simp
                  with_reducible rfl
                rotate_left
                · simp only [Act.put, List.setIfInBounds_toArray, List.set_cons_zero, List.set_cons_succ, i64_w, i32_w]
                  rfl
                refine take_ (i := 3) (N := some 60) (v := ?_) (a' := ?_) #[true, true, false, true, false, false, false, false, false, false, false, false, false, false, false, false] rfl rfl (take_ofW HT_.out HW_.out (by kernel_rfl)) (fun _ _ _ h => h) (Or.inl ⟨by rfl, ?_⟩) hHeld ?_ ?_
                rotate_left
                · rintro w' ⟨s0, s1, s2, s3, s4, s5, s6, s7, s8, s9⟩
                  go_simp
                  with_reducible rfl
                rotate_left
                · simp only [Act.put, List.setIfInBounds_toArray, List.set_cons_zero, List.set_cons_succ, i64_w, i32_w]
                  rfl
                refine one_ (i := 2) (N := some 59) #[true, true, true, true, false, false, false, false, false, false, false, false, false, false, false, false] rfl rfl (one_of HT_.out (by kernel_rfl)) (by decide) (fun K hK => ?_)
                refine goes_ Tryd.func24 (by kernel_rfl) rfl #[.agg #[.int .i64 (wrap64 (Int.tmod a0 4)), .int .u64 a1_0, .int .u64 a1_1, .int .u64 a1_2, .int .u64 a1_3], .slice A2 y710.length c2] (by rfl) rfl rfl (by (try simp only [List.map_toArray, List.map_cons, List.map_nil]); first | done | rfl | (simp only [List.length_drop, List.length_take]; rfl) | (go_simp; done) | (go_simp; rw [Int.tmod_eq_emod_of_nonneg (by omega)]; omega)) ?_
                with_reducible refine (channel_AbsorbCap.calls k1 (wrap64 (Int.tmod a0 4)) a1_0 a1_1 a1_2 a1_3 _ _ y710 t721 t722 t723 t724 t725 _ ?side1 ?side2 ?side3 A61.out).mono ?_
                (case side1 => repeat (first | exact (Kd.C_below HR713.out HB.out) | (with_reducible refine Kd.C_alloc ?_ _) | (with_reducible refine Kd.C_drewN ?_ _) | (with_reducible refine Kd.C_drew ?_)))
                (case side2 => exact HC713.out)
                (case side3 => repeat (first | exact (GL.below HRG.out HB.out) | (with_reducible refine GL.alloc ?_ _) | (with_reducible refine GL.drewN ?_ _) | (with_reducible refine GL.drew ?_)))
                rintro e w67 ⟨rfl, hb⟩
                refine ⟨_, rfl, ?_⟩
                have n0_ := Aside0.mk (Kd.R_below (by (with_reducible repeat (first | apply Kd.R_alloc | apply Kd.R_drewN | apply Kd.R_drew)); exact HO_9.out) hb)
                have n1_ := Aside0.mk (blk_below (g := gb709) (o := .cells #[.int .u64 a1_0, .int .u64 a1_1, .int .u64 a1_2, .int .u64 a1_3] 23 (0, 0)) (by (with_reducible repeat (first | refine blk_drewN ?_ _ | refine blk_drew ?_ | refine blk_alloc ?_ _)); exact BK709.out) hb)
                have n2_ := Aside0.mk (blk_below (g := gb714) (o := .cells #[.int .i64 (wrap64 (Int.tmod a0 4)), .int .u64 a1_0, .int .u64 a1_1, .int .u64 a1_2, .int .u64 a1_3] 25 (0, 0)) (by (with_reducible repeat (first | refine blk_drewN ?_ _ | refine blk_drew ?_ | refine blk_alloc ?_ _)); exact BK714.out) hb)
                have n3_ := Aside0.mk (blk_below (g := gb720) (o := .cells #[.int .i64 x721000_1, .int .u64 x721001_1, .int .u64 x721002_1, .int .u64 x721003_1, .int .u64 x721004_1] 25 (0, 0)) (by (with_reducible repeat (first | refine blk_drewN ?_ _ | refine blk_drew ?_ | refine blk_alloc ?_ _)); exact BK720.out) hb)
                have n4_ := Aside0.mk (below_step (by repeat (first | (with_reducible first | exact HB.out | apply below_alloc | apply pw_below_drewN | apply below_drew1 | refine below_set ?_ GE709.out | refine below_set ?_ GE714.out | refine below_set ?_ GE720.out) | exact HB.out)) hb)
                clear HO_9
                clear BK709
                clear BK714
                clear BK720
                clear HB
                have HO_9 := n0_
                have BK709 := n1_
                have BK714 := n2_
                have BK720 := n3_
                have HB := n4_
                clear n0_ n1_ n2_ n3_ n4_
                (try clear hb)
                (try clear hb2)
                (try clear hk)
                (try clear hi)
                obtain ⟨Ao68, co68, eo68⟩ := Kd.R_slice HO_9.out
                (first | subst eo68 | (injection eo68 with f1_ f2_ f3_; have f4_ := f1_.symm; have f5_ := f3_.symm; clear f1_ f2_ f3_; subst f4_; subst f5_))
                refine hK.out _ _ ⟨(blk_cell BK714.out 0).trans rfl, (blk_cell BK714.out 1).trans rfl, (blk_cell BK714.out 2).trans rfl, (blk_cell BK714.out 3).trans rfl, (blk_cell BK714.out 4).trans rfl, (blk_cell BK720.out 0).trans rfl, (blk_cell BK720.out 1).trans rfl, (blk_cell BK720.out 2).trans rfl, (blk_cell BK720.out 3).trans rfl, (blk_cell BK720.out 4).trans rfl⟩ (fun hHeld => ?_)
                clear hK K
                refine norm_ (a' := ?_) ?_ ?_
                rotate_left
                · show Act.put _ (some 59) _ = _
                  simp only [Act.put, List.setIfInBounds_toArray, List.set_cons_zero, List.set_cons_succ, i64_w, i32_w]
                  rfl
                refine pure_ (i := 4) (N := some 61) (v := ?_) (a' := ?_) #[true, true, true, true, true, false, false, false, false, false, false, false, false, false, false, false] rfl rfl (any_of HT_.out (by kernel_rfl)) (fun _ _ _ h => h) (Or.inl ⟨by rfl, ?_⟩) ?_ ?_
                rotate_left
                · intro w'
                  go_simp
                  with_reducible rfl
                rotate_left
                · simp only [Act.put, List.setIfInBounds_toArray, List.set_cons_zero, List.set_cons_succ, i64_w, i32_w]
                  rfl
                refine pure_ (i := 5) (N := some 62) (v := ?_) (a' := ?_) #[true, true, true, true, true, true, false, false, false, false, false, false, false, false, false, false] rfl rfl (any_of HT_.out (by kernel_rfl)) (fun _ _ _ h => h) (Or.inl ⟨by rfl, ?_⟩) ?_ ?_
                rotate_left
                · intro w'
                  go_simp
                  with_reducible rfl
                rotate_left
                · simp only [Act.put, List.setIfInBounds_toArray, List.set_cons_zero, List.set_cons_succ, i64_w, i32_w]
                  rfl
                refine pure_ (i := 7) (N := some 64) (v := ?_) (a' := ?_) #[true, true, true, true, true, true, false, true, false, false, false, false, false, false, false, false] rfl rfl (any_of HT_.out (by kernel_rfl)) (fun _ _ _ h => h) (Or.inl ⟨by rfl, ?_⟩) ?_ ?_
                rotate_left
                · intro w'
                  go_simp
                  with_reducible rfl
                rotate_left
                · simp only [Act.put, List.setIfInBounds_toArray, List.set_cons_zero, List.set_cons_succ, i64_w, i32_w]
                  rfl
                refine take_ (i := 6) (N := some 63) (v := ?_) (a' := ?_) #[true, true, true, true, true, true, true, true, false, false, false, false, false, false, false, false] rfl rfl (take_ofW HT_.out HW_.out (by kernel_rfl)) (fun _ _ _ h => h) (Or.inl ⟨by rfl, ?_⟩) hHeld ?_ ?_
                rotate_left
                · rintro w' ⟨s0, s1, s2, s3, s4, s5, s6, s7, s8, s9⟩
                  go_simp
                  with_reducible rfl
                rotate_left
                · simp only [Act.put, List.setIfInBounds_toArray, List.set_cons_zero, List.set_cons_succ, i64_w, i32_w]
                  rfl
                refine take_ (i := 9) (N := some 66) (v := ?_) (a' := ?_) #[true, true, true, true, true, true, true, true, false, true, false, false, false, false, false, false] rfl rfl (take_ofW HT_.out HW_.out (by kernel_rfl)) (fun _ _ _ h => h) (Or.inl ⟨by rfl, ?_⟩) hHeld ?_ ?_
                rotate_left
                · rintro w' ⟨s0, s1, s2, s3, s4, s5, s6, s7, s8, s9⟩
                  go_simp
                  with_reducible rfl
                rotate_left
                · simp only [Act.put, List.setIfInBounds_toArray, List.set_cons_zero, List.set_cons_succ, i64_w, i32_w]
                  rfl
                refine one_ (i := 8) (N := some 65) #[true, true, true, true, true, true, true, true, true, true, false, false, false, false, false, false] rfl rfl (one_of HT_.out (by kernel_rfl)) (by decide) (fun K hK => ?_)
                refine goes_ Tryd.func22 (by kernel_rfl) rfl #[.agg #[.int .i64 (wrap64 (Int.tmod a0 4)), .int .u64 a1_0, .int .u64 a1_1, .int .u64 a1_2, .int .u64 a1_3], .slice Ao68 x9_1.length co68] (by rfl) rfl rfl (by (try simp only [List.map_toArray, List.map_cons, List.map_nil]); first | done | rfl | (simp only [List.length_drop, List.length_take]; rfl) | (go_simp; done) | (go_simp; rw [Int.tmod_eq_emod_of_nonneg (by omega)]; omega)) ?_
                with_reducible refine (channel_Absorb.calls k1 (wrap64 (Int.tmod a0 4)) a1_0 a1_1 a1_2 a1_3 _ _ x9_1 t726 t727 t728 t729 t730 _ ?side1 ?side2 ?side3 A63.out).mono ?_
                (case side1 => repeat (first | exact (Kd.R_reads' HO_9.out).2.2 | (with_reducible refine Kd.C_alloc ?_ _) | (with_reducible refine Kd.C_drewN ?_ _) | (with_reducible refine Kd.C_drew ?_)))
                (case side2 => exact (Kd.R_reads' HO_9.out).2.1)
                (case side3 => repeat (first | exact (GL.below HRG.out HB.out) | (with_reducible refine GL.alloc ?_ _) | (with_reducible refine GL.drewN ?_ _) | (with_reducible refine GL.drew ?_)))
                rintro e w69 ⟨rfl, hb⟩
                refine ⟨_, rfl, ?_⟩
                have n0_ := Aside0.mk (Kd.R_below (by (with_reducible repeat (first | apply Kd.R_alloc | apply Kd.R_drewN | apply Kd.R_drew)); exact HO_9.out) hb)
                have n1_ := Aside0.mk (blk_below (g := gb709) (o := .cells #[.int .u64 a1_0, .int .u64 a1_1, .int .u64 a1_2, .int .u64 a1_3] 23 (0, 0)) (by (with_reducible repeat (first | refine blk_drewN ?_ _ | refine blk_drew ?_ | refine blk_alloc ?_ _)); exact BK709.out) hb)
                have n2_ := Aside0.mk (blk_below (g := gb714) (o := .cells #[.int .i64 (wrap64 (Int.tmod a0 4)), .int .u64 a1_0, .int .u64 a1_1, .int .u64 a1_2, .int .u64 a1_3] 25 (0, 0)) (by (with_reducible repeat (first | refine blk_drewN ?_ _ | refine blk_drew ?_ | refine blk_alloc ?_ _)); exact BK714.out) hb)
                have n3_ := Aside0.mk (blk_below (g := gb720) (o := .cells #[.int .i64 x721000_1, .int .u64 x721001_1, .int .u64 x721002_1, .int .u64 x721003_1, .int .u64 x721004_1] 25 (0, 0)) (by (with_reducible repeat (first | refine blk_drewN ?_ _ | refine blk_drew ?_ | refine blk_alloc ?_ _)); exact BK720.out) hb)
                have n4_ := Aside0.mk (below_step (by repeat (first | (with_reducible first | exact HB.out | apply below_alloc | apply pw_below_drewN | apply below_drew1 | refine below_set ?_ GE709.out | refine below_set ?_ GE714.out | refine below_set ?_ GE720.out) | exact HB.out)) hb)
                clear HO_9
                clear BK709
                clear BK714
                clear BK720
                clear HB
                have HO_9 := n0_
                have BK709 := n1_
                have BK714 := n2_
                have BK720 := n3_
                have HB := n4_
                clear n0_ n1_ n2_ n3_ n4_
                (try clear hb)
                (try clear hb2)
                (try clear hk)
                (try clear hi)
                refine hK.out _ _ ⟨(blk_cell BK714.out 0).trans rfl, (blk_cell BK714.out 1).trans rfl, (blk_cell BK714.out 2).trans rfl, (blk_cell BK714.out 3).trans rfl, (blk_cell BK714.out 4).trans rfl, (blk_cell BK720.out 0).trans rfl, (blk_cell BK720.out 1).trans rfl, (blk_cell BK720.out 2).trans rfl, (blk_cell BK720.out 3).trans rfl, (blk_cell BK720.out 4).trans rfl⟩ (fun hHeld => ?_)
                clear hK K
                refine norm_ (a' := ?_) ?_ ?_
                rotate_left
                · show Act.put _ (some 65) _ = _
                  simp only [Act.put, List.setIfInBounds_toArray, List.set_cons_zero, List.set_cons_succ, i64_w, i32_w]
                  rfl
                refine pure_ (i := 10) (N := some 67) (v := ?_) (a' := ?_) #[true, true, true, true, true, true, true, true, true, true, true, false, false, false, false, false] rfl rfl (any_of HT_.out (by kernel_rfl)) (fun _ _ _ h => h) (Or.inl ⟨by rfl, ?_⟩) ?_ ?_
                rotate_left
                · intro w'
                  go_simp
                  with_reducible rfl
                rotate_left
                · simp only [Act.put, List.setIfInBounds_toArray, List.set_cons_zero, List.set_cons_succ, i64_w, i32_w]
                  rfl
                refine pure_ (i := 11) (N := some 68) (v := ?_) (a' := ?_) #[true, true, true, true, true, true, true, true, true, true, true, true, false, false, false, false] rfl rfl (any_of HT_.out (by kernel_rfl)) (fun _ _ _ h => h) (Or.inl ⟨by rfl, ?_⟩) ?_ ?_
                rotate_left
                · intro w'
                  go_simp
                  with_reducible rfl
                rotate_left
                · simp only [Act.put, List.setIfInBounds_toArray, List.set_cons_zero, List.set_cons_succ, i64_w, i32_w]
                  rfl
                refine pure_ (i := 12) (N := some 69) (v := ?_) (a' := ?_) #[true, true, true, true, true, true, true, true, true, true, true, true, true, false, false, false] rfl rfl (any_of HT_.out (by kernel_rfl)) (fun _ _ _ h => h) (Or.inl ⟨by rfl, ?_⟩) ?_ ?_
                rotate_left
                · intro w'
                  go_simp
                  with_reducible rfl
                rotate_left
                · simp only [Act.put, List.setIfInBounds_toArray, List.set_cons_zero, List.set_cons_succ, i64_w, i32_w]
                  rfl
                refine one_ (i := 13) (N := some 70) #[true, true, true, true, true, true, true, true, true, true, true, true, true, true, false, false] rfl rfl (one_of HT_.out (by kernel_rfl)) (by decide) (fun K hK => ?_)
                refine goes_ Tryd.func14 (by kernel_rfl) rfl #[] (by rfl) rfl rfl (by (try simp only [List.map_toArray, List.map_cons, List.map_nil]); first | done | rfl | (simp only [List.length_drop, List.length_take]; rfl) | (go_simp; done) | (go_simp; rw [Int.tmod_eq_emod_of_nonneg (by omega)]; omega)) ?_
                with_reducible refine (attestorlaw08_lives.calls k1  t731 _ ?side1 A65.out).mono ?_
                (case side1 => repeat (first | exact (GL.below HRG.out HB.out) | (with_reducible refine GL.alloc ?_ _) | (with_reducible refine GL.drewN ?_ _) | (with_reducible refine GL.drew ?_)))
                rintro e w70 ⟨rfl, hb⟩
                refine ⟨_, rfl, ?_⟩
                have n0_ := Aside0.mk (Kd.R_below (by (with_reducible repeat (first | apply Kd.R_alloc | apply Kd.R_drewN | apply Kd.R_drew)); exact HO_9.out) hb)
                have n1_ := Aside0.mk (blk_below (g := gb709) (o := .cells #[.int .u64 a1_0, .int .u64 a1_1, .int .u64 a1_2, .int .u64 a1_3] 23 (0, 0)) (by (with_reducible repeat (first | refine blk_drewN ?_ _ | refine blk_drew ?_ | refine blk_alloc ?_ _)); exact BK709.out) hb)
                have n2_ := Aside0.mk (blk_below (g := gb714) (o := .cells #[.int .i64 (wrap64 (Int.tmod a0 4)), .int .u64 a1_0, .int .u64 a1_1, .int .u64 a1_2, .int .u64 a1_3] 25 (0, 0)) (by (with_reducible repeat (first | refine blk_drewN ?_ _ | refine blk_drew ?_ | refine blk_alloc ?_ _)); exact BK714.out) hb)
                have n3_ := Aside0.mk (blk_below (g := gb720) (o := .cells #[.int .i64 x721000_1, .int .u64 x721001_1, .int .u64 x721002_1, .int .u64 x721003_1, .int .u64 x721004_1] 25 (0, 0)) (by (with_reducible repeat (first | refine blk_drewN ?_ _ | refine blk_drew ?_ | refine blk_alloc ?_ _)); exact BK720.out) hb)
                have n4_ := Aside0.mk (below_step (by repeat (first | (with_reducible first | exact HB.out | apply below_alloc | apply pw_below_drewN | apply below_drew1 | refine below_set ?_ GE709.out | refine below_set ?_ GE714.out | refine below_set ?_ GE720.out) | exact HB.out)) hb)
                clear HO_9
                clear BK709
                clear BK714
                clear BK720
                clear HB
                have HO_9 := n0_
                have BK709 := n1_
                have BK714 := n2_
                have BK720 := n3_
                have HB := n4_
                clear n0_ n1_ n2_ n3_ n4_
                (try clear hb)
                (try clear hb2)
                (try clear hk)
                (try clear hi)
                refine hK.out _ _ ⟨(blk_cell BK714.out 0).trans rfl, (blk_cell BK714.out 1).trans rfl, (blk_cell BK714.out 2).trans rfl, (blk_cell BK714.out 3).trans rfl, (blk_cell BK714.out 4).trans rfl, (blk_cell BK720.out 0).trans rfl, (blk_cell BK720.out 1).trans rfl, (blk_cell BK720.out 2).trans rfl, (blk_cell BK720.out 3).trans rfl, (blk_cell BK720.out 4).trans rfl⟩ (fun hHeld => ?_)
                clear hK K
                refine norm_ (a' := ?_) ?_ ?_
                rotate_left
                · show Act.put _ (some 70) _ = _
                  simp only [Act.put, List.setIfInBounds_toArray, List.set_cons_zero, List.set_cons_succ, i64_w, i32_w]
                  rfl
                refine pure_ (i := 14) (N := some 71) (v := ?_) (a' := ?_) #[true, true, true, true, true, true, true, true, true, true, true, true, true, true, true, false] rfl rfl (any_of HT_.out (by kernel_rfl)) (fun _ _ _ h => h) (Or.inl ⟨by rfl, ?_⟩) ?_ ?_
                rotate_left
                · intro w'
                  go_simp
                  with_reducible rfl
                rotate_left
                · simp only [Act.put, List.setIfInBounds_toArray, List.set_cons_zero, List.set_cons_succ, i64_w, i32_w]
                  rfl
                refine pure_ (i := 15) (N := some 6) (v := ?_) (a' := ?_) #[true, true, true, true, true, true, true, true, true, true, true, true, true, true, true, true] rfl rfl (any_of HT_.out (by kernel_rfl)) (fun _ _ _ h => h) (Or.inl ⟨by rfl, ?_⟩) ?_ ?_
                rotate_left
                · intro w'
                  go_simp
                  with_reducible rfl
                rotate_left
                · simp only [Act.put, List.setIfInBounds_toArray, List.set_cons_zero, List.set_cons_succ, i64_w, i32_w]
                  rfl
                refine done_ (done_of HT_.out (by kernel_rfl)) ?_
                try go_wp2
                go_ret
                exact ⟨by first | rfl | (simp [errW_none, errW_some] <;> rfl) | (simp only [← hji4]; first | rfl | (simp [errW_none, errW_some] <;> rfl)) | (simp [*, errW_none, errW_some] <;> rfl), by repeat (first | (with_reducible first | exact HB.out | apply below_alloc | apply pw_below_drewN | apply below_drew1 | refine below_set ?_ GE709.out | refine below_set ?_ GE714.out | refine below_set ?_ GE720.out) | exact HB.out)⟩
              · rw [if_neg c64] at H
                exact absurd H (by simp)
            · rw [if_neg c62] at H
              exact absurd H (by simp)
    · rw [if_neg c6] at H
      exact absurd H (by simp)
  · rw [if_neg c5] at H
    exact absurd H (by simp)

end Go.Proofs.YtkailiemikjfbaaDoor.Q
end
section
namespace Go.Proofs.YtkailiemikjfbaaDoor.Q
open Go.RowKit Go.Proofs.YtkailiemikjfbaaDoorW.PrintWords Go.Proofs.YtkailiemikjfbaaDoorW.PrintLast Go.Proofs.YtkailiemikjfbaaDoorW.PrintMore
open Go.Proofs.YtkailiemikjfbaaDoor.Num
set_option linter.unusedVariables false
set_option linter.unusedSimpArgs false

def natNums (l : List S51) : List Nat := (capNums l).map Int.toNat
theorem natNums_cast : ∀ (l : List S51), (∀ y ∈ l, 0 ≤ y.f0 ∧ 0 ≤ y.f1) → capNums l = (natNums l).map fun n : Nat => (n : Int)
  | [], _ => rfl
  | x :: l, h => by
    have ih := natNums_cast l (fun y hy => h y (List.mem_cons_of_mem _ hy))
    obtain ⟨h0, h1⟩ := h x List.mem_cons_self
    simp only [natNums, capNums, List.map_cons] at ih ⊢
    rw [Int.toNat_of_nonneg h0, Int.toNat_of_nonneg h1, ← ih]
theorem mx_mod {p : Nat} (g e x w : Nat) (s : S4) : mx p g e (x % p) w s = mx p g e x w s := by
  unfold mx
  rw [Nat.add_mod_mod]
theorem absb_mod {p : Nat} (g e : Nat) (s : S4) : ∀ L : List Nat, absb p g e (L.map fun n => n % p) s = absb p g e L s := by
  intro L
  unfold absb
  generalize red p s = t
  induction L generalizing t with
  | nil => rfl
  | cons x L ih => simp only [List.map_cons, List.foldl_cons, mx_mod, ih]
theorem absb_snoc {p : Nat} (hp : 0 < p) (g e : Nat) (L : List Nat) (x : Nat) (s : S4) : absb p g e [x] (absb p g e L s) = absb p g e (L ++ [x]) s := by
  have h := red_id (absb_lt hp g e L s)
  rw [absb, h]
  simp only [absb, List.foldl_append, List.foldl_cons, List.foldl_nil]
theorem ord_step0 {f : Int} {p g e : Nat} (D : Fd f p g e) (l : List S51) (i : Nat) (hi : i < l.length) (x : Nat) (hx : (rd_T51 l i).f0 = x) (k : Nat) (hk : 100 < k) (ns : List Int) (hn : ns.length < 1000) (o0 o1 o2 o3 : Int) (t : S4) :
    attestorlaw08_ChannelOrder.l1 (k + 1) l ns i 0 f o0 o1 o2 o3 f t.a t.b t.c t.d = attestorlaw08_ChannelOrder.l1 k l (ns ++ [((x % p : Nat) : Int)]) i 1 f o0 o1 o2 o3 f (absb p g e [x] t).a (absb p g e [x] t).b (absb p g e [x] t).c (absb p g e [x] t).d := by
  rw [attestorlaw08_ChannelOrder.l1, if_pos (by decide), if_pos (by omega), if_pos (by omega), if_pos (by decide), if_pos rfl, hx]
  refine bnd (absorb_f D [x] k (by simp; omega) (by simp) t) (bnd (rp_eq f) ?_)
  rw [D.F.eq, if_neg D.F.ne, if_pos (by omega), tmodN, v01]
  rfl
theorem ord_step1 {f : Int} {p g e : Nat} (D : Fd f p g e) (l : List S51) (i : Nat) (hi : i < l.length) (x : Nat) (hx : (rd_T51 l i).f1 = x) (k : Nat) (hk : 100 < k) (ns : List Int) (hn : ns.length < 1000) (o0 o1 o2 o3 : Int) (t : S4) :
    attestorlaw08_ChannelOrder.l1 (k + 1) l ns i 1 f o0 o1 o2 o3 f t.a t.b t.c t.d = attestorlaw08_ChannelOrder.l1 k l (ns ++ [((x % p : Nat) : Int)]) i 2 f o0 o1 o2 o3 f (absb p g e [x] t).a (absb p g e [x] t).b (absb p g e [x] t).c (absb p g e [x] t).d := by
  rw [attestorlaw08_ChannelOrder.l1, if_pos (by decide), if_pos (by omega), if_pos (by omega), if_pos (by decide), if_neg (by decide), if_pos rfl, hx]
  refine bnd (absorb_f D [x] k (by simp; omega) (by simp) t) (bnd (rp_eq f) ?_)
  rw [D.F.eq, if_neg D.F.ne, if_pos (by omega), tmodN, v12]
  rfl
theorem ord_end {f : Int} {p g e : Nat} (D : Fd f p g e) (l : List S51) (hl : l.length ≤ 40) (hpos : ∀ y ∈ l, 0 ≤ y.f0 ∧ 0 ≤ y.f1) (s : S4) (k : Nat) (hk : 1000 ≤ k) :
    attestorlaw08_ChannelOrder.l0 (k + 1) l ((natNums l).map fun n => ((n % p : Nat) : Int)) l.length f s.a s.b s.c s.d f (absb p g e (natNums l) s).a (absb p g e (natNums l) s).b (absb p g e (natNums l) s).c (absb p g e (natNums l) s).d = some true := by
  have hc := natNums_cast l hpos
  have hlen : (natNums l).length ≤ 80 := by rw [natNums, List.length_map, capNums_length]; omega
  rw [attestorlaw08_ChannelOrder.l0, if_neg (by omega)]
  have a0 : channel_AbsorbCap.f k f s.a s.b s.c s.d l = some (chO f (absb p g e (natNums l) s)) := by
    unfold channel_AbsorbCap.f
    rw [if_pos (by omega), hc]
    exact absorb_f D _ k (by omega) (by omega) s
  have a1 : channel_Absorb.f k f s.a s.b s.c s.d ((natNums l).map fun n => ((n % p : Nat) : Int)) = some (chO f (absb p g e (natNums l) s)) := by
    have h := absorb_f D ((natNums l).map fun n => n % p) k (by rw [List.length_map]; omega) (by rw [List.length_map]; omega) s
    rw [List.map_map, absb_mod] at h
    exact h
  refine bnd a0 ?_
  refine Eq.trans (if_pos (eq5 f _ _ _ _)) ?_
  refine bnd a1 ?_
  refine Eq.trans (if_pos (eq5 f _ _ _ _)) ?_
  exact bnd (lives_true _ (by omega)) rfl
theorem natNums_take (l : List S51) (i : Nat) (hi : i < l.length) : natNums (l.take (i + 1)) = natNums (l.take i) ++ [(rd_T51 l i).f0.toNat, (rd_T51 l i).f1.toNat] := by
  have h := capNums_take l i (by omega) (by omega)
  have e0 : ((i : Int) + 1).toNat = i + 1 := by omega
  have e1 : (i : Int).toNat = i := by omega
  rw [e0, e1] at h
  rw [natNums, h, List.map_append]
  rfl
theorem rd_pos (l : List S51) (hpos : ∀ y ∈ l, 0 ≤ y.f0 ∧ 0 ≤ y.f1) (i : Nat) (hi : i < l.length) : 0 ≤ (rd_T51 l i).f0 ∧ 0 ≤ (rd_T51 l i).f1 := by
  have e1 : (i : Int).toNat = i := by omega
  have h := hpos _ (List.getElem_mem hi)
  simpa [rd_T51, List.getD_eq_getElem?_getD, e1, List.getElem?_eq_getElem hi] using h
theorem ord_l0 {f : Int} {p g e : Nat} (D : Fd f p g e) (l : List S51) (hl : l.length ≤ 40) (hpos : ∀ y ∈ l, 0 ≤ y.f0 ∧ 0 ≤ y.f1) (s : S4) : ∀ (d i k : Nat), l.length - i = d → i ≤ l.length → 1001 + 5 * d ≤ k →
    attestorlaw08_ChannelOrder.l0 k l ((natNums (l.take i)).map fun n => ((n % p : Nat) : Int)) i f s.a s.b s.c s.d f (absb p g e (natNums (l.take i)) s).a (absb p g e (natNums (l.take i)) s).b (absb p g e (natNums (l.take i)) s).c (absb p g e (natNums (l.take i)) s).d = some true
  | 0, i, k, hd, hi, hk => by
    obtain rfl : i = l.length := by omega
    obtain ⟨k, rfl⟩ : ∃ j, k = j + 1 := ⟨k - 1, by omega⟩
    rw [List.take_of_length_le (Nat.le_refl _)]
    exact ord_end D l hl hpos s k (by omega)
  | d + 1, i, k, hd, hi, hk => by
    obtain ⟨k, rfl⟩ : ∃ j, k = j + 4 := ⟨k - 4, by omega⟩
    have hlt : i < l.length := by omega
    obtain ⟨q0, q1⟩ := rd_pos l hpos i hlt
    have ih := ord_l0 D l hl hpos s d (i + 1) k (by omega) (by omega) (by omega)
    rw [natNums_take l i hlt] at ih
    generalize hx : (rd_T51 l i).f0.toNat = x at ih
    generalize hy : (rd_T51 l i).f1.toNat = y at ih
    have hx0 : (rd_T51 l i).f0 = (x : Int) := by omega
    have hy0 : (rd_T51 l i).f1 = (y : Int) := by omega
    have hlen : (natNums (l.take i)).length ≤ 80 := by rw [natNums, List.length_map, capNums_length, List.length_take]; omega
    generalize natNums (l.take i) = L at ih hlen ⊢
    rw [attestorlaw08_ChannelOrder.l0, if_pos (by omega), ord_step0 D l i hlt x hx0 (k + 2) (by omega) _ (by rw [List.length_map]; omega), absb_snoc D.pos, ord_step1 D l i hlt y hy0 (k + 1) (by omega) _ (by simp; omega), absb_snoc D.pos]
    rw [attestorlaw08_ChannelOrder.l1, if_neg (by decide), wrapS (x := (i : Int) + 1) (by omega) (by omega)]
    rw [List.map_append, show ([x, y] : List Nat) = [x] ++ [y] from rfl, ← List.append_assoc] at ih
    simpa using ih
theorem order_true (w a b c d : Int) (l : List S51) (hw : 0 ≤ w) (hpos : ∀ y ∈ l, 0 ≤ y.f0 ∧ 0 ≤ y.f1) (ha : 0 ≤ a) (hb : 0 ≤ b) (hc : 0 ≤ c) (hd : 0 ≤ d) : ∃ k, attestorlaw08_ChannelOrder.f k w a b c d l = some true := by
  obtain ⟨s, rfl, rfl, rfl, rfl⟩ := nat4 ha hb hc hd
  obtain ⟨n, hn, hlt⟩ := tmod_small w 4 hw (by decide) (by decide)
  obtain ⟨p, g, e, D⟩ := fd_of (f := (n : Int)) (by omega) hlt
  refine ⟨2000, ?_⟩
  unfold attestorlaw08_ChannelOrder.f
  have hm : 0 ≤ mn (l.length : Int) 40 ∧ mn (l.length : Int) 40 ≤ (l.length : Int) ∧ mn (l.length : Int) 40 ≤ 40 := by unfold mn; split <;> omega
  rw [if_pos hm.1, if_pos hm.2.1]
  refine bnd (reduced_f D w hn s 2000 (by omega)) ?_
  rw [hn]
  generalize hq : (mn (l.length : Int) 40).toNat = q
  have h0 := ord_l0 D (l.take q) (by rw [List.length_take]; omega) (fun y hy => hpos y (List.mem_of_mem_take hy)) s (l.take q).length 0 2000 (by omega) (by omega) (by rw [List.length_take]; omega)
  exact h0
end Go.Proofs.YtkailiemikjfbaaDoor.Q
end
section
namespace Go.Proofs.YtkailiemikjfbaaDoor.Q
open Go.ChangeShapes Go.WideShapes Go.ChangeAt Go.WideMaps Go.WideElems Go.RowKit
open Go.Proofs.YtkailiemikjfbaaDoorW.PrintWords Go.Proofs.YtkailiemikjfbaaDoorW.PrintLast Go.Proofs.YtkailiemikjfbaaDoorW.PrintMore
open Go.Proofs.YtkailiemikjfbaaDoor.Opn
set_option linter.unusedVariables false

theorem okWide_array_ {P : Program} {w : World} {r : Reach} {base : Nat} {t : TypeId} {v : Value} {n : Nat} {e : TypeId} (ht : P.underlying t = some (.array n e)) (h : Value.okWide P w r base t v) : ∃ cs, v = .agg cs ∧ cs.size = P.cellsOf t := by
  simp only [Value.okWide, ht] at h
  obtain ⟨cs, h1, h2, _⟩ := h
  exact ⟨cs, h1, h2⟩
set_option maxRecDepth 100000 in
theorem channelOrder_lifted (os : Os) (started : os.Started) (H : Type) (enc : TypeId × Value → H) :
    ReturnsInHanded {} Tryd.checked os 9 .any (fun w args => (Rows.channelOrderSpec.pre enc Tryd.prog Tryd.f9 [] false w args ∧ laidMetH Tryd.prog laid1 w) ∧ sizedMet enc Tryd.prog Tryd.f9 (OpenSpec.ofChange Rows.channelOrderSpec) false w args)
      (Rows.channelOrderSpec.post enc Tryd.prog Tryd.f9 false true false false) := by
  refine returnsInHanded_of_change_and (C := Tryd.checked) (X := (fun w _ => laidMetH Tryd.prog laid1 w)) (fun _ _ _ hh h => h.of_heap hh) own started (by kernel_rfl) Tryd.func9
    (ChangeSpec.witness_shaped (enc := enc) (C := Tryd.checked) (os := os) (X := (fun w _ => laidMetH Tryd.prog laid1 w)) false (World.doorLaid Tryd.prog 400 os) #[.int .u8 0, .agg #[.int .u64 0, .int .u64 0, .int .u64 0, .int .u64 0], .slice none 0 0] 8 rfl (World.shaped_of_RefB (by kernel_rfl) (by kernel_rfl)) (by kernel_rfl) (by kernel_rfl) (by kernel_rfl) (door_met os _)) ?_
  intro W base args ds gs before hval0 hW _ _ hL _
  have hval : ∀ (j : Nat) t v, Tryd.f9.params[j]? = some t → args[j]? = some v → Value.okWide Tryd.prog W .any base t v := hval0
  have hW' := hW
  obtain ⟨p, q, hA0, hV, rfl, hfz, hnd⟩ := hW
  have hA : DataW.TrodAll enc Tryd.prog W 0 (fun _ => true) true Tryd.f9.params.toList args.toList ds p := hA0
  rw [Tryd.params9] at hA hval
  obtain ⟨v0, vs0, d0, ds0, p0, q0, hargs, rfl, rfl, h0, r0⟩ := trodAll_cons hA
  obtain ⟨v1, vs1, d1, ds1, p1, q1, rfl, rfl, rfl, h1, r1⟩ := trodAll_cons r0
  obtain ⟨v2, vs2, d2, ds2, p2, q2, rfl, rfl, rfl, h2, r2⟩ := trodAll_cons r1
  obtain ⟨rfl, rfl, rfl⟩ := trodAll_nil r2
  obtain rfl : args = #[v0, v1, v2] := by cases args; simp_all
  obtain ⟨rfl, rfl⟩ := trodVars_none hV
  obtain ⟨a0, rfl, rfl, rfl, w0⟩ := open_int Tryd.underlying5 (hval 0 5 v0 rfl rfl) h0
  have k1 := h1
  have lt1 : ∀ x ∈ p1, x.block < W.heap.size := by obtain ⟨m, hm⟩ := k1; exact DataW.trod_lt m _ _ _ hm
  obtain ⟨cs1, rfl, _⟩ := okWide_array_ Tryd.underlying23 (hval 1 23 v1 rfl rfl)
  obtain ⟨m1, hm1⟩ := h1
  obtain ⟨a1_0, a1_1, a1_2, a1_3, hcs1, w1_0, w1_1, w1_2, w1_3⟩ := flat23 m1 _ _ hm1
  obtain rfl : cs1 = #[.int .u64 a1_0, .int .u64 a1_1, .int .u64 a1_2, .int .u64 a1_3] := by cases cs1; simp only [Value.cells] at hcs1; subst hcs1; rfl
  obtain ⟨a2, len2, cap2, rfl⟩ := okWide_slice Tryd.underlying48 (hval 2 48 v2 rfl rfl)
  have k2 := h2
  have lt2 : ∀ x ∈ p2, x.block < W.heap.size := by obtain ⟨m, hm⟩ := k2; exact DataW.trod_lt m _ _ _ hm
  obtain ⟨m2, hm2⟩ := h2
  obtain ⟨l2, ⟨A2, c2, hc2, hle2, hC2⟩, hw2⟩ := opn48 (enc := enc) (W := W) m2 _ _ hm2
  simp only [Value.cells, List.cons.injEq, and_true, Value.slice.injEq] at hc2
  obtain ⟨rfl, rfl, rfl⟩ := hc2
  clear hA0 hval0
  refine (attestorlaw08_ChannelOrder.calls _ a0 a1_0 a1_1 a1_2 a1_3 a2 cap2 l2 true W hC2 hle2 (gl_of_laid hL) (order_true a0 a1_0 a1_1 a1_2 a1_3 l2 (wf_u8 w0).1 (fun y hy => ⟨(wf_u64 (hw2 y hy).1).1, (wf_u64 (hw2 y hy).2).1⟩) (wf_u64 w1_0).1 (wf_u64 w1_1).1 (wf_u64 w1_2).1 (wf_u64 w1_3).1).choose_spec).mono fun e W' ⟨he, bel⟩ => ?_
  subst he
  exact ⟨_, rfl, _, _, _, [], _, [], hW', trodAll_mk1 (shut_bool Tryd.underlying4 _), (trodAll_cons_mk (shut_int Tryd.underlying5 w0) (trodAll_cons_mk (Below.trod laidOut (by kernel_rfl) (of_decide_eq_true (by kernel_rfl)) k1 bel lt1) (trodAll_cons_mk (Below.trod laidOut (by kernel_rfl) (of_decide_eq_true (by kernel_rfl)) k2 bel lt2) trodAll_mk0))), rfl, bel.frame _, fun h => by cases h⟩
theorem channelOrder_row : Rows.ChannelOrderSaid :=
  OpenClaim.holds_of_wide 9 Tryd.f9 rfl rfl rfl rfl rfl rfl rfl ⟨rfl, rfl, rfl, rfl, rfl⟩ rfl rfl rfl rfl rfl (by kernel_rfl) Tryd.func9 (by kernel_rfl)
    (of_decide_eq_true (by kernel_rfl)) (by unfold Func.isWrapper; first | (rw [if_pos (by decide +kernel)]; kernel_rfl) | (rw [if_neg (by decide +kernel)]; exact ⟨rfl, rfl⟩))
    (fun os started H enc _ => channelOrder_lifted os started H enc)
theorem channelOrder_card : Rows.ChannelOrderCardSaid :=
  Claim7.holds_tied_plain_at .later [] [.widerDeep] true Rows.channelOrderCard.stood.harness false
    channelOrder_row (fun _ h => by cases h) (by kernel_rfl) (fun _ h => by cases h) channelOrder_row_tie rfl ⟨rfl, rfl⟩ (by kernel_rfl) rfl
    (fun f fn hf hfn => by
      obtain rfl : f = 9 := Option.some.inj ((show Tryd.prog.funcNamed "attestor/attestorlaw08.ChannelOrder" = some 9 by kernel_rfl).symm.trans hf) |>.symm
      obtain rfl : fn = Tryd.f9 := (Option.some.inj (Tryd.func9.symm.trans hfn)).symm
      exact ⟨by kernel_rfl, fun j t ht => by
        rw [Tryd.params9] at ht
        have hm : t ∈ [5, 23, 48] := by simpa using Array.mem_of_getElem? ht
        have hall : ([5, 23, 48].all fun u => !Tryd.prog.wantsStandIn u) = true := by kernel_rfl
        exact (show Tryd.prog.wantsStandIn t = false by simpa using List.all_eq_true.1 hall t hm)⟩)
    (by kernel_rfl)
end Go.Proofs.YtkailiemikjfbaaDoor.Q
namespace Go.Proofs.YtkailiemikjfbaaDoor
/-- Under a short name, for the claim. -/
theorem channelOrder_holds : Rows.ChannelOrderCardSaid := Q.channelOrder_card
end Go.Proofs.YtkailiemikjfbaaDoor
#print axioms Go.Proofs.YtkailiemikjfbaaDoor.channelOrder_holds
end
