/- Several texts in one, in build order. What they prove, each by its own first remark:
Written by our own copy of a printing program (a twelfth state) out of the translation. Not trusted: Lean checks it.
The sponge of the layer, told in natural numbers: a round, the permutation, the constants. -/
import Derived.Test.YtjfekjblnoagkaaDoorM2
section
namespace Go.Proofs.YtjfekjblnoagkaaDoor.Q
open Go.RowKit Go.Proofs.YtjfekjblnoagkaaDoorW.PrintWords Go.Proofs.YtjfekjblnoagkaaDoorW.PrintLast Go.Proofs.YtjfekjblnoagkaaDoorW.PrintMore
attribute [local go_sem] max2_int min2_int max_two min_two max_three min_three max_four min_four   -- for this text's walks alone
set_option linter.unusedVariables false
set_option linter.unusedSimpArgs false

/-! ### sponge_mixer_reduced: function 37 -/
def sponge_mixer_reduced.f (a0_0 : Int) (a0_1 : Int) (a0_2 : Bool) (a1_0 : Int) (a1_1 : Int) (a1_2 : Int) (a1_3 : Int) : Option (Int × Int × Int × Int) := if a0_0 = 0 then (none) else (some (Int.tmod a1_0 a0_0, Int.tmod a1_1 a0_0, Int.tmod a1_2 a0_0, Int.tmod a1_3 a0_0))
def sponge_mixer_reduced.T4 : Bool × List (List Nat × List Nat) := (true, [([], []), ([0], [0]), ([1], [1]), ([], []), ([3], [3]), ([2, 4], [2, 4]), ([0, 0, 1, 2, 3, 4, 5], [0]), ([6, 5, 0, 1, 2, 3, 4, 5], [5, 6])])
def sponge_mixer_reduced.B4 : List Nat := [0, 1, 3, 0, 8, 31, 63, 127]
theorem sponge_mixer_reduced.tab4 : rtab .any (opsOf Tryd.f37 4) = sponge_mixer_reduced.T4 := by kernel_rfl
theorem sponge_mixer_reduced.bits4 : waitsOk sponge_mixer_reduced.T4.2 sponge_mixer_reduced.B4 = true := by kernel_rfl
set_option maxHeartbeats 8000000 in
set_option maxRecDepth 100000 in
theorem sponge_mixer_reduced.calls (a0_0 : Int) (a0_1 : Int) (a0_2 : Bool) (a1_0 : Int) (a1_1 : Int) (a1_2 : Int) (a1_3 : Int) (r1 : Int) (r2 : Int) (r3 : Int) (r4 : Int) (w : World) (h : sponge_mixer_reduced.f a0_0 a0_1 a0_2 a1_0 a1_1 a1_2 a1_3 = some (r1, r2, r3, r4)) :
    Calls Tryd.prog 37 #[.agg #[.int .u64 a0_0, .int .u64 a0_1, .bool a0_2], .agg #[.int .u64 a1_0, .int .u64 a1_1, .int .u64 a1_2, .int .u64 a1_3]] w fun e w' => e = .returned (.agg #[.int .u64 r1, .int .u64 r2, .int .u64 r3, .int .u64 r4]) ∧ Below w.heap.size w w' := by
  have hu45 := Tryd.underlying45
  have hu23 := Tryd.underlying23
  have HB := Aside0.mk (Below.refl w.heap.size w)
  have H : (if a0_0 = 0 then (none) else (some (Int.tmod a1_0 a0_0, Int.tmod a1_1 a0_0, Int.tmod a1_2 a0_0, Int.tmod a1_3 a0_0))) = some (r1, r2, r3, r4) := h
  clear h
  have HC3 := Aside0.mk H
  clear H
  go_enter Tryd.func37, Tryd.ntmps37
  go_wp2_with (first | ((with_reducible refine gate_dst (N := 2) rfl ?_); refine box_event ?hg (N := 2) ?hd (cs := #[.int .u64 a0_0, .int .u64 a0_1, .bool a0_2]) (t := 45) ?hr ?_; (case hd => rfl); (case hg => rfl); (case hr => first | (go_simp; done) | (go_simp; rfl)); intro gb138 hg w4 hbox hb; have n0_ := Aside0.mk (below_step (by repeat (first | (with_reducible first | exact HB.out | apply below_alloc | apply pw_below_drewN | apply below_drew1) | exact HB.out)) hb); have n1_ := Aside0.mk (hbox); have n2_ := Aside0.mk ((by rw [hg]; exact (below_size (by repeat (first | (with_reducible first | exact HB.out | apply below_alloc | apply pw_below_drewN | apply below_drew1) | exact HB.out))) : w.heap.size ≤ gb138)); have n3_ := Aside0.mk ((by rw [hg]; exact (below_size (by repeat (first | (with_reducible first | exact HB.out | apply below_alloc | apply pw_below_drewN | apply below_drew1) | exact HB.out))) : w.heap.size ≤ gb138)); clear HB; have HB := n0_; have BK138 := n1_; have GW138 := n2_; have GE138 := n3_; clear n0_ n1_ n2_ n3_; clear hb hbox hg) | ((with_reducible refine gate_dst (N := 3) rfl ?_); refine box_event ?hg (N := 3) ?hd (cs := #[.int .u64 a1_0, .int .u64 a1_1, .int .u64 a1_2, .int .u64 a1_3]) (t := 23) ?hr ?_; (case hd => rfl); (case hg => rfl); (case hr => first | (go_simp; done) | (go_simp; rfl)); intro gb139 hg w5 hbox hb; have n0_ := Aside0.mk (blk_below (g := gb138) (o := .cells #[.int .u64 a0_0, .int .u64 a0_1, .bool a0_2] 45 (0, 0)) (by (with_reducible repeat (first | refine blk_drewN ?_ _ | refine blk_drew ?_ | refine blk_alloc ?_ _)); exact BK138.out) hb); have n1_ := Aside0.mk (below_step (by repeat (first | (with_reducible first | exact HB.out | apply below_alloc | apply pw_below_drewN | apply below_drew1 | refine below_set ?_ GE138.out) | exact HB.out)) hb); have n2_ := Aside0.mk (hbox); have n3_ := Aside0.mk ((by rw [hg]; exact (below_size (by repeat (first | (with_reducible first | exact HB.out | apply below_alloc | apply pw_below_drewN | apply below_drew1 | refine below_set ?_ GE138.out) | exact HB.out))) : w.heap.size ≤ gb139)); have n4_ := Aside0.mk ((by rw [hg]; exact (below_size (by repeat (first | (with_reducible first | exact HB.out | apply below_alloc | apply pw_below_drewN | apply below_drew1 | refine below_set ?_ GE138.out) | exact HB.out))) : w.heap.size ≤ gb139)); have n5_ := Aside0.mk ((by rw [hg]; exact Nat.ne_of_lt (blk_lt (g := gb138) (o := .cells #[.int .u64 a0_0, .int .u64 a0_1, .bool a0_2] 45 (0, 0)) (by (with_reducible repeat (first | refine blk_drewN ?_ _ | refine blk_drew ?_ | refine blk_alloc ?_ _)); exact BK138.out)) : gb138 ≠ gb139)); have n6_ := Aside0.mk ((by rw [hg]; exact Nat.ne_of_gt (blk_lt (g := gb138) (o := .cells #[.int .u64 a0_0, .int .u64 a0_1, .bool a0_2] 45 (0, 0)) (by (with_reducible repeat (first | refine blk_drewN ?_ _ | refine blk_drew ?_ | refine blk_alloc ?_ _)); exact BK138.out)) : gb139 ≠ gb138)); clear BK138; clear HB; have BK138 := n0_; have HB := n1_; have BK139 := n2_; have GW139 := n3_; have GE139 := n4_; have NB138_139 := n5_; have NB139_138 := n6_; clear n0_ n1_ n2_ n3_ n4_ n5_ n6_; clear hb hbox hg) | ((with_reducible refine gate_dst (N := 4) rfl ?_); refine box_event ?hg (N := 4) ?hd (cs := #[.int .u64 0, .int .u64 0, .int .u64 0, .int .u64 0]) (t := 23) ?hr ?_; (case hd => rfl); (case hg => rfl); (case hr => first | (go_simp; done) | (go_simp; rfl)); intro gb140 hg w6 hbox hb; have n0_ := Aside0.mk (blk_below (g := gb138) (o := .cells #[.int .u64 a0_0, .int .u64 a0_1, .bool a0_2] 45 (0, 0)) (by (with_reducible repeat (first | refine blk_drewN ?_ _ | refine blk_drew ?_ | refine blk_alloc ?_ _)); exact BK138.out) hb); have n1_ := Aside0.mk (blk_below (g := gb139) (o := .cells #[.int .u64 a1_0, .int .u64 a1_1, .int .u64 a1_2, .int .u64 a1_3] 23 (0, 0)) (by (with_reducible repeat (first | refine blk_drewN ?_ _ | refine blk_drew ?_ | refine blk_alloc ?_ _)); exact BK139.out) hb); have n2_ := Aside0.mk (below_step (by repeat (first | (with_reducible first | exact HB.out | apply below_alloc | apply pw_below_drewN | apply below_drew1 | refine below_set ?_ GE138.out | refine below_set ?_ GE139.out) | exact HB.out)) hb); have n3_ := Aside0.mk (hbox); have n4_ := Aside0.mk ((by rw [hg]; exact (below_size (by repeat (first | (with_reducible first | exact HB.out | apply below_alloc | apply pw_below_drewN | apply below_drew1 | refine below_set ?_ GE138.out | refine below_set ?_ GE139.out) | exact HB.out))) : w.heap.size ≤ gb140)); have n5_ := Aside0.mk ((by rw [hg]; exact (below_size (by repeat (first | (with_reducible first | exact HB.out | apply below_alloc | apply pw_below_drewN | apply below_drew1 | refine below_set ?_ GE138.out | refine below_set ?_ GE139.out) | exact HB.out))) : w.heap.size ≤ gb140)); have n6_ := Aside0.mk ((by rw [hg]; exact Nat.ne_of_lt (blk_lt (g := gb138) (o := .cells #[.int .u64 a0_0, .int .u64 a0_1, .bool a0_2] 45 (0, 0)) (by (with_reducible repeat (first | refine blk_drewN ?_ _ | refine blk_drew ?_ | refine blk_alloc ?_ _)); exact BK138.out)) : gb138 ≠ gb140)); have n7_ := Aside0.mk ((by rw [hg]; exact Nat.ne_of_gt (blk_lt (g := gb138) (o := .cells #[.int .u64 a0_0, .int .u64 a0_1, .bool a0_2] 45 (0, 0)) (by (with_reducible repeat (first | refine blk_drewN ?_ _ | refine blk_drew ?_ | refine blk_alloc ?_ _)); exact BK138.out)) : gb140 ≠ gb138)); have n8_ := Aside0.mk ((by rw [hg]; exact Nat.ne_of_lt (blk_lt (g := gb139) (o := .cells #[.int .u64 a1_0, .int .u64 a1_1, .int .u64 a1_2, .int .u64 a1_3] 23 (0, 0)) (by (with_reducible repeat (first | refine blk_drewN ?_ _ | refine blk_drew ?_ | refine blk_alloc ?_ _)); exact BK139.out)) : gb139 ≠ gb140)); have n9_ := Aside0.mk ((by rw [hg]; exact Nat.ne_of_gt (blk_lt (g := gb139) (o := .cells #[.int .u64 a1_0, .int .u64 a1_1, .int .u64 a1_2, .int .u64 a1_3] 23 (0, 0)) (by (with_reducible repeat (first | refine blk_drewN ?_ _ | refine blk_drew ?_ | refine blk_alloc ?_ _)); exact BK139.out)) : gb140 ≠ gb139)); clear BK138; clear BK139; clear HB; have BK138 := n0_; have BK139 := n1_; have HB := n2_; have BK140 := n3_; have GW140 := n4_; have GE140 := n5_; have NB138_140 := n6_; have NB140_138 := n7_; have NB139_140 := n8_; have NB140_139 := n9_; clear n0_ n1_ n2_ n3_ n4_ n5_ n6_ n7_ n8_ n9_; clear hb hbox hg))
  refine wp_loop_rounds 5 ?_
  rw [rounds_succ]
  have H := HC3.out
  clear HC3
  by_cases c7 : a0_0 = 0
  · rw [if_pos c7] at H
    exact absurd H (by simp)
  · rw [if_neg c7] at H
    have c7b0 : (a0_0 == 0) = false := beq_eq_false_iff_ne.mpr c7
    have c7b1 : (a0_0 != 0) = true := bne_iff_ne.mpr c7
    have HC8 := Aside0.mk H
    clear H
    try go_wp2
    have n0_ := Aside0.mk (blk_drew BK138.out)
    have n1_ := Aside0.mk (blk_drew BK139.out)
    have n2_ := Aside0.mk (blk_drew BK140.out)
    have n3_ := Aside0.mk (below_drew1 HB.out)
    clear BK138
    clear BK139
    clear BK140
    clear HB
    have BK138 := n0_
    have BK139 := n1_
    have BK140 := n2_
    have HB := n3_
    clear n0_ n1_ n2_ n3_
    refine start_ (n := 8) (S := fun w' => w'.cell? ⟨gb139, 0, none⟩ = some (.int .u64 a1_0) ∧ w'.cell? ⟨gb139, 1, none⟩ = some (.int .u64 a1_1) ∧ w'.cell? ⟨gb139, 2, none⟩ = some (.int .u64 a1_2) ∧ w'.cell? ⟨gb139, 3, none⟩ = some (.int .u64 a1_3) ∧ w'.cell? ⟨gb138, 0, none⟩ = some (.int .u64 a0_0) ∧ w'.cell? ⟨gb138, 1, none⟩ = some (.int .u64 a0_1) ∧ w'.cell? ⟨gb138, 2, none⟩ = some (.bool a0_2)) (ds := [7]) #[false, false, false, false, false, false, false, false] (by kernel_rfl) rfl rfl ⟨(blk_cell BK139.out 0).trans rfl, (blk_cell BK139.out 1).trans rfl, (blk_cell BK139.out 2).trans rfl, (blk_cell BK139.out 3).trans rfl, (blk_cell BK138.out 0).trans rfl, (blk_cell BK138.out 1).trans rfl, (blk_cell BK138.out 2).trans rfl⟩ (fun hHeld => ?_); refine with_tabW sponge_mixer_reduced.tab4 sponge_mixer_reduced.bits4 (fun HT_ HW_ => ?_)
    generalize w6.drew = w9 at BK138 BK139 BK140 HB hHeld ⊢
    refine pure_ (i := 0) (N := some 9) (v := ?_) (a' := ?_) #[true, false, false, false, false, false, false, false] rfl rfl (any_of HT_.out (by kernel_rfl)) (fun _ _ _ h => h) (Or.inl ⟨by rfl, ?_⟩) ?_ ?_
    rotate_left
    · intro w'
      go_simp
      with_reducible rfl
    rotate_left
    · simp only [Act.put, List.setIfInBounds_toArray, List.set_cons_zero, List.set_cons_succ, i64_w, i32_w]
      rfl
    refine pure_ (i := 1) (N := some 10) (v := ?_) (a' := ?_) #[true, true, false, false, false, false, false, false] rfl rfl (any_of HT_.out (by kernel_rfl)) (fun _ _ _ h => h) (Or.inl ⟨by rfl, ?_⟩) ?_ ?_
    rotate_left
    · intro w'
      go_simp
      with_reducible rfl
    rotate_left
    · simp only [Act.put, List.setIfInBounds_toArray, List.set_cons_zero, List.set_cons_succ, i64_w, i32_w]
      rfl
    refine pure_ (i := 3) (N := some 12) (v := ?_) (a' := ?_) #[true, true, false, true, false, false, false, false] rfl rfl (any_of HT_.out (by kernel_rfl)) (fun _ _ _ h => h) (Or.inl ⟨by rfl, ?_⟩) ?_ ?_
    rotate_left
    · intro w'
      go_simp
      with_reducible rfl
    rotate_left
    · simp only [Act.put, List.setIfInBounds_toArray, List.set_cons_zero, List.set_cons_succ, i64_w, i32_w]
      rfl
    refine take_ (i := 2) (N := some 11) (v := ?_) (a' := ?_) #[true, true, true, true, false, false, false, false] rfl rfl (take_ofW HT_.out HW_.out (by kernel_rfl)) (fun _ _ _ h => h) (Or.inl ⟨by rfl, ?_⟩) hHeld ?_ ?_
    rotate_left
    · rintro w' ⟨s0, s1, s2, s3, s4, s5, s6⟩
      go_simp
      with_reducible rfl
    rotate_left
    · simp only [Act.put, List.setIfInBounds_toArray, List.set_cons_zero, List.set_cons_succ, i64_w, i32_w]
      rfl
    refine take_ (i := 4) (N := some 13) (v := ?_) (a' := ?_) #[true, true, true, true, true, false, false, false] rfl rfl (take_ofW HT_.out HW_.out (by kernel_rfl)) (fun _ _ _ h => h) (Or.inl ⟨by rfl, ?_⟩) hHeld ?_ ?_
    rotate_left
    · rintro w' ⟨s0, s1, s2, s3, s4, s5, s6⟩
      go_simp
      with_reducible rfl
    rotate_left
    · simp only [Act.put, List.setIfInBounds_toArray, List.set_cons_zero, List.set_cons_succ, i64_w, i32_w]
      rfl
    refine pure_ (i := 5) (N := some 14) (v := ?_) (a' := ?_) #[true, true, true, true, true, true, false, false] rfl rfl (any_of HT_.out (by kernel_rfl)) (fun _ _ _ h => h) (Or.inl ⟨by rfl, ?_⟩) ?_ ?_
    rotate_left
    · intro w'
      go_simp
      with_reducible rfl
    rotate_left
    · simp only [Act.put, List.setIfInBounds_toArray, List.set_cons_zero, List.set_cons_succ, i64_w, i32_w]
      rfl
    refine pure_ (i := 6) (N := some 15) (v := ?_) (a' := ?_) #[true, true, true, true, true, true, true, false] rfl rfl (any_of HT_.out (by kernel_rfl)) (fun _ _ _ h => h) (Or.inl ⟨by rfl, ?_⟩) ?_ ?_
    rotate_left
    · intro w'
      go_simp
      with_reducible rfl
    rotate_left
    · simp only [Act.put, List.setIfInBounds_toArray, List.set_cons_zero, List.set_cons_succ, i64_w, i32_w]
      rfl
    refine last_ (i := 7) (N := none) #[true, true, true, true, true, true, true, true] rfl rfl (one_of HT_.out (by kernel_rfl)) (by decide) (fun K hK => ?_)
    have hs10 : w9.cell? ⟨gb139, 0, none⟩ = some (.int .u64 a1_0) := (blk_cell BK139.out 0).trans rfl
    have hfs10 := blk_frozen BK139.out 0
    have hns10_0 := NB138_139.out
    have hns10_2 := NB140_139.out
    have hms10_0 := NB139_138.out
    have hms10_2 := NB139_140.out
    refine skip_ (w1 := ?_) (by rfl) rfl ?_ ?_
    rotate_left
    · go_simp
      rfl
    refine hK.out _ _ ?_
    clear hK K
    refine done_ (done_of HT_.out (by kernel_rfl)) ?_
    try go_wp2
    rw [rounds_succ]
    have H := HC8.out
    clear HC8
    have HC11 := Aside0.mk H
    clear H
    try go_wp2
    have n0_ : Aside0 ((w9.setCell ⟨gb139, 0, none⟩ (.int .u64 (Int.tmod a1_0 a0_0))).heap[gb138]? = some (.cells #[.int .u64 a0_0, .int .u64 a0_1, .bool a0_2] 45 (0, 0))) := ⟨by (with_reducible repeat (first | refine blk_drewN ?_ _ | refine blk_drew ?_ | refine blk_alloc ?_ _)); refine blk_far ?_ NB138_139.out _; (with_reducible repeat (first | refine blk_drewN ?_ _ | refine blk_drew ?_ | refine blk_alloc ?_ _)); exact BK138.out⟩
    have n1_ : Aside0 ((w9.setCell ⟨gb139, 0, none⟩ (.int .u64 (Int.tmod a1_0 a0_0))).heap[gb139]? = some (.cells #[.int .u64 (Int.tmod a1_0 a0_0), .int .u64 a1_1, .int .u64 a1_2, .int .u64 a1_3] 23 (0, 0))) := ⟨by (with_reducible repeat (first | refine blk_drewN ?_ _ | refine blk_drew ?_ | refine blk_alloc ?_ _)); refine blk_put (cs := #[.int .u64 a1_0, .int .u64 a1_1, .int .u64 a1_2, .int .u64 a1_3]) ?_ 0 _ rfl; (with_reducible repeat (first | refine blk_drewN ?_ _ | refine blk_drew ?_ | refine blk_alloc ?_ _)); exact BK139.out⟩
    have n2_ : Aside0 ((w9.setCell ⟨gb139, 0, none⟩ (.int .u64 (Int.tmod a1_0 a0_0))).heap[gb140]? = some (.cells #[.int .u64 0, .int .u64 0, .int .u64 0, .int .u64 0] 23 (0, 0))) := ⟨by (with_reducible repeat (first | refine blk_drewN ?_ _ | refine blk_drew ?_ | refine blk_alloc ?_ _)); refine blk_far ?_ NB140_139.out _; (with_reducible repeat (first | refine blk_drewN ?_ _ | refine blk_drew ?_ | refine blk_alloc ?_ _)); exact BK140.out⟩
    have n3_ : Aside0 (Below w.heap.size w (w9.setCell ⟨gb139, 0, none⟩ (.int .u64 (Int.tmod a1_0 a0_0)))) := ⟨by repeat (first | (with_reducible first | exact HB.out | apply below_alloc | apply pw_below_drewN | apply below_drew1 | refine below_set ?_ GE138.out | refine below_set ?_ GE139.out | refine below_set ?_ GE140.out) | exact HB.out)⟩
    (try clear BK138)
    (try clear BK139)
    (try clear BK140)
    (try clear HB)
    generalize (w9.setCell ⟨gb139, 0, none⟩ (.int .u64 (Int.tmod a1_0 a0_0))) = w12 at n0_ n1_ n2_ n3_ ⊢
    have BK138 := n0_
    have BK139 := n1_
    have BK140 := n2_
    have HB := n3_
    clear n0_ n1_ n2_ n3_
    have n0_ := Aside0.mk (blk_drew BK138.out)
    have n1_ := Aside0.mk (blk_drew BK139.out)
    have n2_ := Aside0.mk (blk_drew BK140.out)
    have n3_ := Aside0.mk (below_drew1 HB.out)
    clear BK138
    clear BK139
    clear BK140
    clear HB
    have BK138 := n0_
    have BK139 := n1_
    have BK140 := n2_
    have HB := n3_
    clear n0_ n1_ n2_ n3_
    refine start_ (n := 8) (S := fun w' => w'.cell? ⟨gb139, 0, none⟩ = some (.int .u64 (Int.tmod a1_0 a0_0)) ∧ w'.cell? ⟨gb139, 1, none⟩ = some (.int .u64 a1_1) ∧ w'.cell? ⟨gb139, 2, none⟩ = some (.int .u64 a1_2) ∧ w'.cell? ⟨gb139, 3, none⟩ = some (.int .u64 a1_3) ∧ w'.cell? ⟨gb138, 0, none⟩ = some (.int .u64 a0_0) ∧ w'.cell? ⟨gb138, 1, none⟩ = some (.int .u64 a0_1) ∧ w'.cell? ⟨gb138, 2, none⟩ = some (.bool a0_2)) (ds := [7]) #[false, false, false, false, false, false, false, false] (by kernel_rfl) rfl rfl ⟨(blk_cell BK139.out 0).trans rfl, (blk_cell BK139.out 1).trans rfl, (blk_cell BK139.out 2).trans rfl, (blk_cell BK139.out 3).trans rfl, (blk_cell BK138.out 0).trans rfl, (blk_cell BK138.out 1).trans rfl, (blk_cell BK138.out 2).trans rfl⟩ (fun hHeld => ?_); refine with_tabW sponge_mixer_reduced.tab4 sponge_mixer_reduced.bits4 (fun HT_ HW_ => ?_)
    generalize w12.drew = w13 at BK138 BK139 BK140 HB hHeld ⊢
    refine pure_ (i := 0) (N := some 9) (v := ?_) (a' := ?_) #[true, false, false, false, false, false, false, false] rfl rfl (any_of HT_.out (by kernel_rfl)) (fun _ _ _ h => h) (Or.inl ⟨by rfl, ?_⟩) ?_ ?_
    rotate_left
    · intro w'
      go_simp
      with_reducible rfl
    rotate_left
    · simp only [Act.put, List.setIfInBounds_toArray, List.set_cons_zero, List.set_cons_succ, i64_w, i32_w]
      rfl
    refine pure_ (i := 1) (N := some 10) (v := ?_) (a' := ?_) #[true, true, false, false, false, false, false, false] rfl rfl (any_of HT_.out (by kernel_rfl)) (fun _ _ _ h => h) (Or.inl ⟨by rfl, ?_⟩) ?_ ?_
    rotate_left
    · intro w'
      go_simp
      with_reducible rfl
    rotate_left
    · simp only [Act.put, List.setIfInBounds_toArray, List.set_cons_zero, List.set_cons_succ, i64_w, i32_w]
      rfl
    refine pure_ (i := 3) (N := some 12) (v := ?_) (a' := ?_) #[true, true, false, true, false, false, false, false] rfl rfl (any_of HT_.out (by kernel_rfl)) (fun _ _ _ h => h) (Or.inl ⟨by rfl, ?_⟩) ?_ ?_
    rotate_left
    · intro w'
      go_simp
      with_reducible rfl
    rotate_left
    · simp only [Act.put, List.setIfInBounds_toArray, List.set_cons_zero, List.set_cons_succ, i64_w, i32_w]
      rfl
    refine take_ (i := 2) (N := some 11) (v := ?_) (a' := ?_) #[true, true, true, true, false, false, false, false] rfl rfl (take_ofW HT_.out HW_.out (by kernel_rfl)) (fun _ _ _ h => h) (Or.inl ⟨by rfl, ?_⟩) hHeld ?_ ?_
    rotate_left
    · rintro w' ⟨s0, s1, s2, s3, s4, s5, s6⟩
      go_simp
      with_reducible rfl
    rotate_left
    · simp only [Act.put, List.setIfInBounds_toArray, List.set_cons_zero, List.set_cons_succ, i64_w, i32_w]
      rfl
    refine take_ (i := 4) (N := some 13) (v := ?_) (a' := ?_) #[true, true, true, true, true, false, false, false] rfl rfl (take_ofW HT_.out HW_.out (by kernel_rfl)) (fun _ _ _ h => h) (Or.inl ⟨by rfl, ?_⟩) hHeld ?_ ?_
    rotate_left
    · rintro w' ⟨s0, s1, s2, s3, s4, s5, s6⟩
      go_simp
      with_reducible rfl
    rotate_left
    · simp only [Act.put, List.setIfInBounds_toArray, List.set_cons_zero, List.set_cons_succ, i64_w, i32_w]
      rfl
    refine pure_ (i := 5) (N := some 14) (v := ?_) (a' := ?_) #[true, true, true, true, true, true, false, false] rfl rfl (any_of HT_.out (by kernel_rfl)) (fun _ _ _ h => h) (Or.inl ⟨by rfl, ?_⟩) ?_ ?_
    rotate_left
    · intro w'
      go_simp
      with_reducible rfl
    rotate_left
    · simp only [Act.put, List.setIfInBounds_toArray, List.set_cons_zero, List.set_cons_succ, i64_w, i32_w]
      rfl
    refine pure_ (i := 6) (N := some 15) (v := ?_) (a' := ?_) #[true, true, true, true, true, true, true, false] rfl rfl (any_of HT_.out (by kernel_rfl)) (fun _ _ _ h => h) (Or.inl ⟨by rfl, ?_⟩) ?_ ?_
    rotate_left
    · intro w'
      go_simp
      with_reducible rfl
    rotate_left
    · simp only [Act.put, List.setIfInBounds_toArray, List.set_cons_zero, List.set_cons_succ, i64_w, i32_w]
      rfl
    refine last_ (i := 7) (N := none) #[true, true, true, true, true, true, true, true] rfl rfl (one_of HT_.out (by kernel_rfl)) (by decide) (fun K hK => ?_)
    have hs14 : w13.cell? ⟨gb139, 1, none⟩ = some (.int .u64 a1_1) := (blk_cell BK139.out 1).trans rfl
    have hfs14 := blk_frozen BK139.out 1
    have hns14_0 := NB138_139.out
    have hns14_2 := NB140_139.out
    have hms14_0 := NB139_138.out
    have hms14_2 := NB139_140.out
    refine skip_ (w1 := ?_) (by rfl) rfl ?_ ?_
    rotate_left
    · go_simp
      rfl
    refine hK.out _ _ ?_
    clear hK K
    refine done_ (done_of HT_.out (by kernel_rfl)) ?_
    try go_wp2
    rw [rounds_succ]
    have H := HC11.out
    clear HC11
    have HC15 := Aside0.mk H
    clear H
    try go_wp2
    have n0_ : Aside0 ((w13.setCell ⟨gb139, 1, none⟩ (.int .u64 (Int.tmod a1_1 a0_0))).heap[gb138]? = some (.cells #[.int .u64 a0_0, .int .u64 a0_1, .bool a0_2] 45 (0, 0))) := ⟨by (with_reducible repeat (first | refine blk_drewN ?_ _ | refine blk_drew ?_ | refine blk_alloc ?_ _)); refine blk_far ?_ NB138_139.out _; (with_reducible repeat (first | refine blk_drewN ?_ _ | refine blk_drew ?_ | refine blk_alloc ?_ _)); exact BK138.out⟩
    have n1_ : Aside0 ((w13.setCell ⟨gb139, 1, none⟩ (.int .u64 (Int.tmod a1_1 a0_0))).heap[gb139]? = some (.cells #[.int .u64 (Int.tmod a1_0 a0_0), .int .u64 (Int.tmod a1_1 a0_0), .int .u64 a1_2, .int .u64 a1_3] 23 (0, 0))) := ⟨by (with_reducible repeat (first | refine blk_drewN ?_ _ | refine blk_drew ?_ | refine blk_alloc ?_ _)); refine blk_put (cs := #[.int .u64 (Int.tmod a1_0 a0_0), .int .u64 a1_1, .int .u64 a1_2, .int .u64 a1_3]) ?_ 1 _ rfl; (with_reducible repeat (first | refine blk_drewN ?_ _ | refine blk_drew ?_ | refine blk_alloc ?_ _)); exact BK139.out⟩
    have n2_ : Aside0 ((w13.setCell ⟨gb139, 1, none⟩ (.int .u64 (Int.tmod a1_1 a0_0))).heap[gb140]? = some (.cells #[.int .u64 0, .int .u64 0, .int .u64 0, .int .u64 0] 23 (0, 0))) := ⟨by (with_reducible repeat (first | refine blk_drewN ?_ _ | refine blk_drew ?_ | refine blk_alloc ?_ _)); refine blk_far ?_ NB140_139.out _; (with_reducible repeat (first | refine blk_drewN ?_ _ | refine blk_drew ?_ | refine blk_alloc ?_ _)); exact BK140.out⟩
    have n3_ : Aside0 (Below w.heap.size w (w13.setCell ⟨gb139, 1, none⟩ (.int .u64 (Int.tmod a1_1 a0_0)))) := ⟨by repeat (first | (with_reducible first | exact HB.out | apply below_alloc | apply pw_below_drewN | apply below_drew1 | refine below_set ?_ GE138.out | refine below_set ?_ GE139.out | refine below_set ?_ GE140.out) | exact HB.out)⟩
    (try clear BK138)
    (try clear BK139)
    (try clear BK140)
    (try clear HB)
    generalize (w13.setCell ⟨gb139, 1, none⟩ (.int .u64 (Int.tmod a1_1 a0_0))) = w16 at n0_ n1_ n2_ n3_ ⊢
    have BK138 := n0_
    have BK139 := n1_
    have BK140 := n2_
    have HB := n3_
    clear n0_ n1_ n2_ n3_
    have n0_ := Aside0.mk (blk_drew BK138.out)
    have n1_ := Aside0.mk (blk_drew BK139.out)
    have n2_ := Aside0.mk (blk_drew BK140.out)
    have n3_ := Aside0.mk (below_drew1 HB.out)
    clear BK138
    clear BK139
    clear BK140
    clear HB
    have BK138 := n0_
    have BK139 := n1_
    have BK140 := n2_
    have HB := n3_
    clear n0_ n1_ n2_ n3_
    refine start_ (n := 8) (S := fun w' => w'.cell? ⟨gb139, 0, none⟩ = some (.int .u64 (Int.tmod a1_0 a0_0)) ∧ w'.cell? ⟨gb139, 1, none⟩ = some (.int .u64 (Int.tmod a1_1 a0_0)) ∧ w'.cell? ⟨gb139, 2, none⟩ = some (.int .u64 a1_2) ∧ w'.cell? ⟨gb139, 3, none⟩ = some (.int .u64 a1_3) ∧ w'.cell? ⟨gb138, 0, none⟩ = some (.int .u64 a0_0) ∧ w'.cell? ⟨gb138, 1, none⟩ = some (.int .u64 a0_1) ∧ w'.cell? ⟨gb138, 2, none⟩ = some (.bool a0_2)) (ds := [7]) #[false, false, false, false, false, false, false, false] (by kernel_rfl) rfl rfl ⟨(blk_cell BK139.out 0).trans rfl, (blk_cell BK139.out 1).trans rfl, (blk_cell BK139.out 2).trans rfl, (blk_cell BK139.out 3).trans rfl, (blk_cell BK138.out 0).trans rfl, (blk_cell BK138.out 1).trans rfl, (blk_cell BK138.out 2).trans rfl⟩ (fun hHeld => ?_); refine with_tabW sponge_mixer_reduced.tab4 sponge_mixer_reduced.bits4 (fun HT_ HW_ => ?_)
    generalize w16.drew = w17 at BK138 BK139 BK140 HB hHeld ⊢
    refine pure_ (i := 0) (N := some 9) (v := ?_) (a' := ?_) #[true, false, false, false, false, false, false, false] rfl rfl (any_of HT_.out (by kernel_rfl)) (fun _ _ _ h => h) (Or.inl ⟨by rfl, ?_⟩) ?_ ?_
    rotate_left
    · intro w'
      go_simp
      with_reducible rfl
    rotate_left
    · simp only [Act.put, List.setIfInBounds_toArray, List.set_cons_zero, List.set_cons_succ, i64_w, i32_w]
      rfl
    refine pure_ (i := 1) (N := some 10) (v := ?_) (a' := ?_) #[true, true, false, false, false, false, false, false] rfl rfl (any_of HT_.out (by kernel_rfl)) (fun _ _ _ h => h) (Or.inl ⟨by rfl, ?_⟩) ?_ ?_
    rotate_left
    · intro w'
      go_simp
      with_reducible rfl
    rotate_left
    · simp only [Act.put, List.setIfInBounds_toArray, List.set_cons_zero, List.set_cons_succ, i64_w, i32_w]
      rfl
    refine pure_ (i := 3) (N := some 12) (v := ?_) (a' := ?_) #[true, true, false, true, false, false, false, false] rfl rfl (any_of HT_.out (by kernel_rfl)) (fun _ _ _ h => h) (Or.inl ⟨by rfl, ?_⟩) ?_ ?_
    rotate_left
    · intro w'
      go_simp
      with_reducible rfl
    rotate_left
    · simp only [Act.put, List.setIfInBounds_toArray, List.set_cons_zero, List.set_cons_succ, i64_w, i32_w]
      rfl
    refine take_ (i := 2) (N := some 11) (v := ?_) (a' := ?_) #[true, true, true, true, false, false, false, false] rfl rfl (take_ofW HT_.out HW_.out (by kernel_rfl)) (fun _ _ _ h => h) (Or.inl ⟨by rfl, ?_⟩) hHeld ?_ ?_
    rotate_left
    · rintro w' ⟨s0, s1, s2, s3, s4, s5, s6⟩
      go_simp
      with_reducible rfl
    rotate_left
    · simp only [Act.put, List.setIfInBounds_toArray, List.set_cons_zero, List.set_cons_succ, i64_w, i32_w]
      rfl
    refine take_ (i := 4) (N := some 13) (v := ?_) (a' := ?_) #[true, true, true, true, true, false, false, false] rfl rfl (take_ofW HT_.out HW_.out (by kernel_rfl)) (fun _ _ _ h => h) (Or.inl ⟨by rfl, ?_⟩) hHeld ?_ ?_
    rotate_left
    · rintro w' ⟨s0, s1, s2, s3, s4, s5, s6⟩
      go_simp
      with_reducible rfl
    rotate_left
    · simp only [Act.put, List.setIfInBounds_toArray, List.set_cons_zero, List.set_cons_succ, i64_w, i32_w]
      rfl
    refine pure_ (i := 5) (N := some 14) (v := ?_) (a' := ?_) #[true, true, true, true, true, true, false, false] rfl rfl (any_of HT_.out (by kernel_rfl)) (fun _ _ _ h => h) (Or.inl ⟨by rfl, ?_⟩) ?_ ?_
    rotate_left
    · intro w'
      go_simp
      with_reducible rfl
    rotate_left
    · simp only [Act.put, List.setIfInBounds_toArray, List.set_cons_zero, List.set_cons_succ, i64_w, i32_w]
      rfl
    refine pure_ (i := 6) (N := some 15) (v := ?_) (a' := ?_) #[true, true, true, true, true, true, true, false] rfl rfl (any_of HT_.out (by kernel_rfl)) (fun _ _ _ h => h) (Or.inl ⟨by rfl, ?_⟩) ?_ ?_
    rotate_left
    · intro w'
      go_simp
      with_reducible rfl
    rotate_left
    · simp only [Act.put, List.setIfInBounds_toArray, List.set_cons_zero, List.set_cons_succ, i64_w, i32_w]
      rfl
    refine last_ (i := 7) (N := none) #[true, true, true, true, true, true, true, true] rfl rfl (one_of HT_.out (by kernel_rfl)) (by decide) (fun K hK => ?_)
    have hs18 : w17.cell? ⟨gb139, 2, none⟩ = some (.int .u64 a1_2) := (blk_cell BK139.out 2).trans rfl
    have hfs18 := blk_frozen BK139.out 2
    have hns18_0 := NB138_139.out
    have hns18_2 := NB140_139.out
    have hms18_0 := NB139_138.out
    have hms18_2 := NB139_140.out
    refine skip_ (w1 := ?_) (by rfl) rfl ?_ ?_
    rotate_left
    · go_simp
      rfl
    refine hK.out _ _ ?_
    clear hK K
    refine done_ (done_of HT_.out (by kernel_rfl)) ?_
    try go_wp2
    rw [rounds_succ]
    have H := HC15.out
    clear HC15
    have HC19 := Aside0.mk H
    clear H
    try go_wp2
    have n0_ : Aside0 ((w17.setCell ⟨gb139, 2, none⟩ (.int .u64 (Int.tmod a1_2 a0_0))).heap[gb138]? = some (.cells #[.int .u64 a0_0, .int .u64 a0_1, .bool a0_2] 45 (0, 0))) := ⟨by (with_reducible repeat (first | refine blk_drewN ?_ _ | refine blk_drew ?_ | refine blk_alloc ?_ _)); refine blk_far ?_ NB138_139.out _; (with_reducible repeat (first | refine blk_drewN ?_ _ | refine blk_drew ?_ | refine blk_alloc ?_ _)); exact BK138.out⟩
    have n1_ : Aside0 ((w17.setCell ⟨gb139, 2, none⟩ (.int .u64 (Int.tmod a1_2 a0_0))).heap[gb139]? = some (.cells #[.int .u64 (Int.tmod a1_0 a0_0), .int .u64 (Int.tmod a1_1 a0_0), .int .u64 (Int.tmod a1_2 a0_0), .int .u64 a1_3] 23 (0, 0))) := ⟨by (with_reducible repeat (first | refine blk_drewN ?_ _ | refine blk_drew ?_ | refine blk_alloc ?_ _)); refine blk_put (cs := #[.int .u64 (Int.tmod a1_0 a0_0), .int .u64 (Int.tmod a1_1 a0_0), .int .u64 a1_2, .int .u64 a1_3]) ?_ 2 _ rfl; (with_reducible repeat (first | refine blk_drewN ?_ _ | refine blk_drew ?_ | refine blk_alloc ?_ _)); exact BK139.out⟩
    have n2_ : Aside0 ((w17.setCell ⟨gb139, 2, none⟩ (.int .u64 (Int.tmod a1_2 a0_0))).heap[gb140]? = some (.cells #[.int .u64 0, .int .u64 0, .int .u64 0, .int .u64 0] 23 (0, 0))) := ⟨by (with_reducible repeat (first | refine blk_drewN ?_ _ | refine blk_drew ?_ | refine blk_alloc ?_ _)); refine blk_far ?_ NB140_139.out _; (with_reducible repeat (first | refine blk_drewN ?_ _ | refine blk_drew ?_ | refine blk_alloc ?_ _)); exact BK140.out⟩
    have n3_ : Aside0 (Below w.heap.size w (w17.setCell ⟨gb139, 2, none⟩ (.int .u64 (Int.tmod a1_2 a0_0)))) := ⟨by repeat (first | (with_reducible first | exact HB.out | apply below_alloc | apply pw_below_drewN | apply below_drew1 | refine below_set ?_ GE138.out | refine below_set ?_ GE139.out | refine below_set ?_ GE140.out) | exact HB.out)⟩
    (try clear BK138)
    (try clear BK139)
    (try clear BK140)
    (try clear HB)
    generalize (w17.setCell ⟨gb139, 2, none⟩ (.int .u64 (Int.tmod a1_2 a0_0))) = w20 at n0_ n1_ n2_ n3_ ⊢
    have BK138 := n0_
    have BK139 := n1_
    have BK140 := n2_
    have HB := n3_
    clear n0_ n1_ n2_ n3_
    have n0_ := Aside0.mk (blk_drew BK138.out)
    have n1_ := Aside0.mk (blk_drew BK139.out)
    have n2_ := Aside0.mk (blk_drew BK140.out)
    have n3_ := Aside0.mk (below_drew1 HB.out)
    clear BK138
    clear BK139
    clear BK140
    clear HB
    have BK138 := n0_
    have BK139 := n1_
    have BK140 := n2_
    have HB := n3_
    clear n0_ n1_ n2_ n3_
    refine start_ (n := 8) (S := fun w' => w'.cell? ⟨gb139, 0, none⟩ = some (.int .u64 (Int.tmod a1_0 a0_0)) ∧ w'.cell? ⟨gb139, 1, none⟩ = some (.int .u64 (Int.tmod a1_1 a0_0)) ∧ w'.cell? ⟨gb139, 2, none⟩ = some (.int .u64 (Int.tmod a1_2 a0_0)) ∧ w'.cell? ⟨gb139, 3, none⟩ = some (.int .u64 a1_3) ∧ w'.cell? ⟨gb138, 0, none⟩ = some (.int .u64 a0_0) ∧ w'.cell? ⟨gb138, 1, none⟩ = some (.int .u64 a0_1) ∧ w'.cell? ⟨gb138, 2, none⟩ = some (.bool a0_2)) (ds := [7]) #[false, false, false, false, false, false, false, false] (by kernel_rfl) rfl rfl ⟨(blk_cell BK139.out 0).trans rfl, (blk_cell BK139.out 1).trans rfl, (blk_cell BK139.out 2).trans rfl, (blk_cell BK139.out 3).trans rfl, (blk_cell BK138.out 0).trans rfl, (blk_cell BK138.out 1).trans rfl, (blk_cell BK138.out 2).trans rfl⟩ (fun hHeld => ?_); refine with_tabW sponge_mixer_reduced.tab4 sponge_mixer_reduced.bits4 (fun HT_ HW_ => ?_)
    generalize w20.drew = w21 at BK138 BK139 BK140 HB hHeld ⊢
    refine pure_ (i := 0) (N := some 9) (v := ?_) (a' := ?_) #[true, false, false, false, false, false, false, false] rfl rfl (any_of HT_.out (by kernel_rfl)) (fun _ _ _ h => h) (Or.inl ⟨by rfl, ?_⟩) ?_ ?_
    rotate_left
    · intro w'
      go_simp
      with_reducible rfl
    rotate_left
    · simp only [Act.put, List.setIfInBounds_toArray, List.set_cons_zero, List.set_cons_succ, i64_w, i32_w]
      rfl
    refine pure_ (i := 1) (N := some 10) (v := ?_) (a' := ?_) #[true, true, false, false, false, false, false, false] rfl rfl (any_of HT_.out (by kernel_rfl)) (fun _ _ _ h => h) (Or.inl ⟨by rfl, ?_⟩) ?_ ?_
    rotate_left
    · intro w'
      go_simp
      with_reducible rfl
    rotate_left
    · simp only [Act.put, List.setIfInBounds_toArray, List.set_cons_zero, List.set_cons_succ, i64_w, i32_w]
      rfl
    refine pure_ (i := 3) (N := some 12) (v := ?_) (a' := ?_) #[true, true, false, true, false, false, false, false] rfl rfl (any_of HT_.out (by kernel_rfl)) (fun _ _ _ h => h) (Or.inl ⟨by rfl, ?_⟩) ?_ ?_
    rotate_left
    · intro w'
      go_simp
      with_reducible rfl
    rotate_left
    · simp only [Act.put, List.setIfInBounds_toArray, List.set_cons_zero, List.set_cons_succ, i64_w, i32_w]
      rfl
    refine take_ (i := 2) (N := some 11) (v := ?_) (a' := ?_) #[true, true, true, true, false, false, false, false] rfl rfl (take_ofW HT_.out HW_.out (by kernel_rfl)) (fun _ _ _ h => h) (Or.inl ⟨by rfl, ?_⟩) hHeld ?_ ?_
    rotate_left
    · rintro w' ⟨s0, s1, s2, s3, s4, s5, s6⟩
      go_simp
      with_reducible rfl
    rotate_left
    · simp only [Act.put, List.setIfInBounds_toArray, List.set_cons_zero, List.set_cons_succ, i64_w, i32_w]
      rfl
    refine take_ (i := 4) (N := some 13) (v := ?_) (a' := ?_) #[true, true, true, true, true, false, false, false] rfl rfl (take_ofW HT_.out HW_.out (by kernel_rfl)) (fun _ _ _ h => h) (Or.inl ⟨by rfl, ?_⟩) hHeld ?_ ?_
    rotate_left
    · rintro w' ⟨s0, s1, s2, s3, s4, s5, s6⟩
      go_simp
      with_reducible rfl
    rotate_left
    · simp only [Act.put, List.setIfInBounds_toArray, List.set_cons_zero, List.set_cons_succ, i64_w, i32_w]
      rfl
    refine pure_ (i := 5) (N := some 14) (v := ?_) (a' := ?_) #[true, true, true, true, true, true, false, false] rfl rfl (any_of HT_.out (by kernel_rfl)) (fun _ _ _ h => h) (Or.inl ⟨by rfl, ?_⟩) ?_ ?_
    rotate_left
    · intro w'
      go_simp
      with_reducible rfl
    rotate_left
    · simp only [Act.put, List.setIfInBounds_toArray, List.set_cons_zero, List.set_cons_succ, i64_w, i32_w]
      rfl
    refine pure_ (i := 6) (N := some 15) (v := ?_) (a' := ?_) #[true, true, true, true, true, true, true, false] rfl rfl (any_of HT_.out (by kernel_rfl)) (fun _ _ _ h => h) (Or.inl ⟨by rfl, ?_⟩) ?_ ?_
    rotate_left
    · intro w'
      go_simp
      with_reducible rfl
    rotate_left
    · simp only [Act.put, List.setIfInBounds_toArray, List.set_cons_zero, List.set_cons_succ, i64_w, i32_w]
      rfl
    refine last_ (i := 7) (N := none) #[true, true, true, true, true, true, true, true] rfl rfl (one_of HT_.out (by kernel_rfl)) (by decide) (fun K hK => ?_)
    have hs22 : w21.cell? ⟨gb139, 3, none⟩ = some (.int .u64 a1_3) := (blk_cell BK139.out 3).trans rfl
    have hfs22 := blk_frozen BK139.out 3
    have hns22_0 := NB138_139.out
    have hns22_2 := NB140_139.out
    have hms22_0 := NB139_138.out
    have hms22_2 := NB139_140.out
    refine skip_ (w1 := ?_) (by rfl) rfl ?_ ?_
    rotate_left
    · go_simp
      rfl
    refine hK.out _ _ ?_
    clear hK K
    refine done_ (done_of HT_.out (by kernel_rfl)) ?_
    try go_wp2
    rw [rounds_succ]
    have H := HC19.out
    clear HC19
    simp only [Option.some.injEq, Prod.mk.injEq] at H
    obtain ⟨rfl, rfl, rfl, rfl⟩ := H
    have hnb23 := NB139_138.out
    have hnc23 := NB138_139.out
    have hnb24 := NB139_140.out
    have hnc24 := NB140_139.out
    have hcz25_0 : w21.cell? ⟨gb139, 0, none⟩ = some (.int .u64 (Int.tmod a1_0 a0_0)) := (blk_cell BK139.out 0).trans rfl
    have hcz25_1 : w21.cell? ⟨gb139, 1, none⟩ = some (.int .u64 (Int.tmod a1_1 a0_0)) := (blk_cell BK139.out 1).trans rfl
    have hcz25_2 : w21.cell? ⟨gb139, 2, none⟩ = some (.int .u64 (Int.tmod a1_2 a0_0)) := (blk_cell BK139.out 2).trans rfl
    have hcz25_3 : w21.cell? ⟨gb139, 3, none⟩ = some (.int .u64 a1_3) := (blk_cell BK139.out 3).trans rfl
    have hfz25_0 := blk_frozen BK139.out 0
    have hfz25_1 := blk_frozen BK139.out 1
    have hfz25_2 := blk_frozen BK139.out 2
    have hfz25_3 := blk_frozen BK139.out 3
    have hnb26 := NB140_138.out
    have hnc26 := NB138_140.out
    have hcz27_0 : w21.cell? ⟨gb140, 0, none⟩ = some (.int .u64 0) := (blk_cell BK140.out 0).trans rfl
    have hcz27_1 : w21.cell? ⟨gb140, 1, none⟩ = some (.int .u64 0) := (blk_cell BK140.out 1).trans rfl
    have hcz27_2 : w21.cell? ⟨gb140, 2, none⟩ = some (.int .u64 0) := (blk_cell BK140.out 2).trans rfl
    have hcz27_3 : w21.cell? ⟨gb140, 3, none⟩ = some (.int .u64 0) := (blk_cell BK140.out 3).trans rfl
    have hfz27_0 := blk_frozen BK140.out 0
    have hfz27_1 := blk_frozen BK140.out 1
    have hfz27_2 := blk_frozen BK140.out 2
    have hfz27_3 := blk_frozen BK140.out 3
    go_wp2
    refine bodyPost_ret (results_cell_row rfl _ _ gb140 23 #[.int .u64 (Int.tmod a1_0 a0_0), .int .u64 (Int.tmod a1_1 a0_0), .int .u64 (Int.tmod a1_2 a0_0), .int .u64 (Int.tmod a1_3 a0_0)] (0, 0) _ rfl (by (with_reducible repeat (first | refine blk_drewN ?_ _ | refine blk_drew ?_ | refine blk_alloc ?_ _)); refine blk_put (cs := #[.int .u64 (Int.tmod a1_0 a0_0), .int .u64 (Int.tmod a1_1 a0_0), .int .u64 (Int.tmod a1_2 a0_0), .int .u64 0]) ?_ 3 _ rfl; (with_reducible repeat (first | refine blk_drewN ?_ _ | refine blk_drew ?_ | refine blk_alloc ?_ _)); refine blk_put (cs := #[.int .u64 (Int.tmod a1_0 a0_0), .int .u64 (Int.tmod a1_1 a0_0), .int .u64 0, .int .u64 0]) ?_ 2 _ rfl; (with_reducible repeat (first | refine blk_drewN ?_ _ | refine blk_drew ?_ | refine blk_alloc ?_ _)); refine blk_put (cs := #[.int .u64 (Int.tmod a1_0 a0_0), .int .u64 0, .int .u64 0, .int .u64 0]) ?_ 1 _ rfl; (with_reducible repeat (first | refine blk_drewN ?_ _ | refine blk_drew ?_ | refine blk_alloc ?_ _)); refine blk_put (cs := #[.int .u64 0, .int .u64 0, .int .u64 0, .int .u64 0]) ?_ 0 _ rfl; (with_reducible repeat (first | refine blk_drewN ?_ _ | refine blk_drew ?_ | refine blk_alloc ?_ _)); refine blk_far ?_ NB140_139.out _; (with_reducible repeat (first | refine blk_drewN ?_ _ | refine blk_drew ?_ | refine blk_alloc ?_ _)); exact BK140.out) Tryd.underlying23 rfl (by kernel_rfl)) rfl ?_
    exact ⟨by first | rfl | (simp [errW_none, errW_some] <;> rfl) | (simp [*, errW_none, errW_some] <;> rfl), by repeat (first | (with_reducible first | exact HB.out | apply below_alloc | apply pw_below_drewN | apply below_drew1 | refine below_set ?_ GE138.out | refine below_set ?_ GE139.out | refine below_set ?_ GE140.out) | exact HB.out)⟩

end Go.Proofs.YtjfekjblnoagkaaDoor.Q
end
section
namespace Go.Proofs.YtjfekjblnoagkaaDoor.Q
open Go.RowKit Go.Proofs.YtjfekjblnoagkaaDoorW.PrintWords Go.Proofs.YtjfekjblnoagkaaDoorW.PrintLast Go.Proofs.YtjfekjblnoagkaaDoorW.PrintMore
attribute [local go_sem] max2_int min2_int max_two min_two max_three min_three max_four min_four   -- for this text's walks alone
set_option linter.unusedVariables false
set_option linter.unusedSimpArgs false

abbrev z14_0_ : Array Bool := #[false, false, false, false, false, false, false, false, false, false, false, false, false, false, false, false, false, false]
abbrev z14_1_ : Array Bool := #[false, true, false, false, false, false, false, false, false, false, false, false, false, false, false, false, false, false]
abbrev z14_2_ : Array Bool := #[false, true, true, false, false, false, false, false, false, false, false, false, false, false, false, false, false, false]
abbrev z14_3_ : Array Bool := #[false, true, true, false, true, false, false, false, false, false, false, false, false, false, false, false, false, false]
abbrev z14_4_ : Array Bool := #[false, true, true, false, true, true, false, false, false, false, false, false, false, false, false, false, false, false]
abbrev z14_5_ : Array Bool := #[false, true, true, false, true, true, true, false, false, false, false, false, false, false, false, false, false, false]
abbrev z14_6_ : Array Bool := #[true, true, true, false, true, true, true, false, false, false, false, false, false, false, false, false, false, false]
abbrev z14_7_ : Array Bool := #[true, true, true, true, true, true, true, false, false, false, false, false, false, false, false, false, false, false]
abbrev z14_8_ : Array Bool := #[true, true, true, true, true, true, true, false, true, false, false, false, false, false, false, false, false, false]
abbrev z14_9_ : Array Bool := #[true, true, true, true, true, true, true, false, true, true, false, false, false, false, false, false, false, false]
abbrev z14_10_ : Array Bool := #[true, true, true, true, true, true, true, true, true, true, true, true, true, true, true, true, false, false]
abbrev z14_11_ : Array Bool := #[true, true, true, true, true, true, true, true, true, true, false, false, false, false, false, false, false, false]
abbrev z14_12_ : Array Bool := #[true, true, true, true, true, true, true, false, true, true, false, false, false, false, false, true, false, false]
abbrev z14_13_ : Array Bool := #[true, true, true, true, true, true, true, true, true, true, true, false, false, false, false, false, false, false]
abbrev z14_14_ : Array Bool := #[true, true, true, true, true, true, true, true, true, true, false, false, false, false, false, true, false, false]
abbrev z14_15_ : Array Bool := #[true, true, true, true, true, true, true, true, true, true, true, true, false, false, false, false, false, false]
abbrev z14_16_ : Array Bool := #[true, true, true, true, true, true, true, true, true, true, true, false, false, false, false, true, false, false]
abbrev z14_17_ : Array Bool := #[true, true, true, true, true, true, true, true, true, true, true, true, true, false, false, false, false, false]
abbrev z14_18_ : Array Bool := #[true, true, true, true, true, true, true, true, true, true, true, true, true, true, false, false, false, false]
abbrev z14_19_ : Array Bool := #[true, true, true, true, true, true, true, true, true, true, true, true, true, true, true, false, false, false]
abbrev z14_20_ : Array Bool := #[true, true, true, true, true, true, true, true, true, true, true, true, false, false, false, true, false, false]
abbrev z14_21_ : Array Bool := #[true, true, true, true, true, true, true, true, true, true, true, true, true, false, false, true, false, false]
abbrev z14_22_ : Array Bool := #[true, true, true, true, true, true, true, true, true, true, true, true, true, true, false, true, false, false]
abbrev z14_23_ : Array Bool := #[true, true, true, true, true, true, true, true, true, true, true, true, true, true, true, true, true, false]
abbrev z14_24_ : Array Bool := #[true, true, true, true, true, true, true, true, true, true, true, true, true, true, true, true, true, true]
/-! ### sponge_Round: function 14 -/
def sponge_Round.f (k : Nat) (a0 : Int) (a1 : Int) (a2_0 : Int) (a2_1 : Int) (a2_2 : Int) (a2_3 : Int) : Option (Int × Int × Int × Int) := (sponge_known.f a0 a1).bind fun t143 => (if t143 = true then ((sponge_in.f a0).bind fun bt144 => ((field_Pow.f k a0 bt144.2.1 (IntKind.u64.wrap (wrap64 (4 * a1)))).bind fun t148 => ((sponge_mixer_reduced.f bt144.1 bt144.2.1 bt144.2.2 a2_0 a2_1 a2_2 a2_3).bind fun bt149 => ((sponge_mixer_round.f bt144.1 bt144.2.1 bt144.2.2 t148 bt149.1 bt149.2.1 bt149.2.2.1 bt149.2.2.2).bind fun bt153 => (some (bt153.2.1, bt153.2.2.1, bt153.2.2.2.1, bt153.2.2.2.2)))))) else (some (0, 0, 0, 0)))
theorem sponge_Round.mono : ∀ a0 a1 a2 a3 a4 a5 k, LeO (sponge_Round.f k a0 a1 a2 a3 a4 a5) (sponge_Round.f (k + 1) a0 a1 a2 a3 a4 a5) := by
  intro a0 a1 a2 a3 a4 a5 k
  unfold sponge_Round.f
  repeat' first
      | (with_reducible exact field_Pow.mono _ _ _ _)
      | (with_reducible exact LeO.refl _)
      | (with_reducible exact LeO.none _)
      | (with_reducible refine LeO.ite ?_ ?_)
      | (with_reducible refine LeO.bind ?_ (fun _ => ?_))
      | exact field_Pow.mono _ _ _ _
      | exact LeO.none _
      | refine LeO.ite ?_ ?_
      | refine LeO.bind ?_ (fun _ => ?_)
def sponge_Round.T4 : Bool × List (List Nat × List Nat) := (true, [([], []), ([], []), ([], []), ([2], [2]), ([], []), ([4], [4]), ([5], [5]), ([1, 3, 6], [1, 3, 6]), ([], []), ([], []), ([8, 9, 7], [8, 9]), ([0, 7, 10, 10], [0, 7, 10]), ([11], [11]), ([12], [12]), ([12], [12]), ([], []), ([13, 11, 0, 1, 2, 3, 4, 5, 6, 7, 8, 9, 10, 11, 12, 13, 15], [13]), ([15, 14, 16, 0, 1, 2, 3, 4, 5, 6, 7, 8, 9, 10, 11, 12, 13, 14, 15, 16], [14, 15])])
def sponge_Round.B4 : List Nat := [0, 0, 0, 4, 0, 16, 48, 126, 0, 0, 1022, 2047, 4095, 8191, 8191, 0, 49151, 131071]
theorem sponge_Round.tab4 : rtab .any (opsOf Tryd.f14 4) = sponge_Round.T4 := by kernel_rfl
theorem sponge_Round.bits4 : waitsOk sponge_Round.T4.2 sponge_Round.B4 = true := by kernel_rfl
set_option maxHeartbeats 8000000 in
set_option maxRecDepth 100000 in
theorem sponge_Round.calls (k : Nat) (a0 : Int) (a1 : Int) (a2_0 : Int) (a2_1 : Int) (a2_2 : Int) (a2_3 : Int) (r1 : Int) (r2 : Int) (r3 : Int) (r4 : Int) (w : World) (hrG : GL w) (h : sponge_Round.f k a0 a1 a2_0 a2_1 a2_2 a2_3 = some (r1, r2, r3, r4)) :
  Calls Tryd.prog 14 #[.int .i64 a0, .int .i64 a1, .agg #[.int .u64 a2_0, .int .u64 a2_1, .int .u64 a2_2, .int .u64 a2_3]] w fun e w' => e = .returned (.agg #[.int .u64 r1, .int .u64 r2, .int .u64 r3, .int .u64 r4]) ∧ Below w.heap.size w w' := by
 have hu23 := Tryd.underlying23
 have hu45 := Tryd.underlying45
 have HRG := Aside0.mk hrG
 clear hrG
 have HB := Aside0.mk (Below.refl w.heap.size w)
 have H : ((sponge_known.f a0 a1).bind fun t143 => (if t143 = true then ((sponge_in.f a0).bind fun bt144 => ((field_Pow.f k a0 bt144.2.1 (IntKind.u64.wrap (wrap64 (4 * a1)))).bind fun t148 => ((sponge_mixer_reduced.f bt144.1 bt144.2.1 bt144.2.2 a2_0 a2_1 a2_2 a2_3).bind fun bt149 => ((sponge_mixer_round.f bt144.1 bt144.2.1 bt144.2.2 t148 bt149.1 bt149.2.1 bt149.2.2.1 bt149.2.2.2).bind fun bt153 => (some (bt153.2.1, bt153.2.2.1, bt153.2.2.2.1, bt153.2.2.2.2)))))) else (some (0, 0, 0, 0)))) = some (r1, r2, r3, r4) := h
 clear h
 replace H := Option.bind_eq_some_iff.mp H
 obtain ⟨t143, A40, H⟩ := H
 have A4 := Aside0.mk A40
 clear A40
 by_cases c5 : t143 = true
 ·subst c5
  have H1 : ((sponge_in.f a0).bind fun bt144 => ((field_Pow.f k a0 bt144.2.1 (IntKind.u64.wrap (wrap64 (4 * a1)))).bind fun t148 => ((sponge_mixer_reduced.f bt144.1 bt144.2.1 bt144.2.2 a2_0 a2_1 a2_2 a2_3).bind fun bt149 => ((sponge_mixer_round.f bt144.1 bt144.2.1 bt144.2.2 t148 bt149.1 bt149.2.1 bt149.2.2.1 bt149.2.2.2).bind fun bt153 => (some (bt153.2.1, bt153.2.2.1, bt153.2.2.2.1, bt153.2.2.2.2)))))) = some (r1, r2, r3, r4) := by rw [if_pos rfl] at H; exact H
  clear H
  have H := H1
  clear H1
  replace H := Option.bind_eq_some_iff.mp H
  obtain ⟨⟨t144, t145, t146⟩, A60, H⟩ := H
  replace H : ((field_Pow.f k a0 t145 (IntKind.u64.wrap (wrap64 (4 * a1)))).bind fun t148 => ((sponge_mixer_reduced.f t144 t145 t146 a2_0 a2_1 a2_2 a2_3).bind fun bt149 => ((sponge_mixer_round.f t144 t145 t146 t148 bt149.1 bt149.2.1 bt149.2.2.1 bt149.2.2.2).bind fun bt153 => (some (bt153.2.1, bt153.2.2.1, bt153.2.2.2.1, bt153.2.2.2.2))))) = some (r1, r2, r3, r4) := H
  have A6 := Aside0.mk A60
  clear A60
  replace H := Option.bind_eq_some_iff.mp H
  obtain ⟨t148, A70, H⟩ := H
  have A7 := Aside0.mk A70
  clear A70
  replace H := Option.bind_eq_some_iff.mp H
  obtain ⟨⟨t149, t150, t151, t152⟩, A80, H⟩ := H
  replace H : ((sponge_mixer_round.f t144 t145 t146 t148 t149 t150 t151 t152).bind fun bt153 => (some (bt153.2.1, bt153.2.2.1, bt153.2.2.2.1, bt153.2.2.2.2))) = some (r1, r2, r3, r4) := H
  have A8 := Aside0.mk A80
  clear A80
  replace H := Option.bind_eq_some_iff.mp H
  obtain ⟨⟨t153, t154, t155, t156, t157⟩, A90, H⟩ := H
  replace H : (some (t154, t155, t156, t157)) = some (r1, r2, r3, r4) := H
  have A9 := Aside0.mk A90
  clear A90
  simp only [Option.some.injEq, Prod.mk.injEq] at H
  obtain ⟨rfl, rfl, rfl, rfl⟩ := H
  go_enter Tryd.func14, Tryd.ntmps14
  try go_wp2_with (first | ((with_reducible refine gate_dst (N := 5) rfl ?_); refine box_event ?hg (N := 5) ?hd (cs := #[.int .u64 a2_0, .int .u64 a2_1, .int .u64 a2_2, .int .u64 a2_3]) (t := 23) ?hr ?_; (case hd => rfl); (case hg => rfl); (case hr => first | (go_simp; done) | (go_simp; rfl)); intro g141 hg w10 hbox hb; have n0_ := Aside0.mk (below_step (by repeat (first | (with_reducible first | exact HB.out | apply below_alloc | apply pw_below_drewN | apply below_drew1) | exact HB.out)) hb); have n1_ := Aside0.mk (hbox); have n2_ := Aside0.mk ((by rw [hg]; exact (below_size (by repeat (first | (with_reducible first | exact HB.out | apply below_alloc | apply pw_below_drewN | apply below_drew1) | exact HB.out))) : w.heap.size ≤ g141)); have n3_ := Aside0.mk ((by rw [hg]; exact (below_size (by repeat (first | (with_reducible first | exact HB.out | apply below_alloc | apply pw_below_drewN | apply below_drew1) | exact HB.out))) : w.heap.size ≤ g141)); clear HB; have HB := n0_; have B141 := n1_; have GW141 := n2_; have GE141 := n3_; clear n0_ n1_ n2_ n3_; clear hb hbox hg) | ((with_reducible refine gate_dst (N := 6) rfl ?_); refine box_event ?hg (N := 6) ?hd (cs := #[.int .u64 0, .int .u64 0, .int .u64 0, .int .u64 0]) (t := 23) ?hr ?_; (case hd => rfl); (case hg => rfl); (case hr => first | (go_simp; done) | (go_simp; rfl)); intro g142 hg w11 hbox hb; have n0_ := Aside0.mk (blk_below (g := g141) (o := .cells #[.int .u64 a2_0, .int .u64 a2_1, .int .u64 a2_2, .int .u64 a2_3] 23 (0, 0)) (by (with_reducible repeat first | refine blk_drewN ?_ _ | refine blk_drew ?_ | refine blk_alloc ?_ _); exact B141.out) hb); have n1_ := Aside0.mk (below_step (by repeat (first | (with_reducible first | exact HB.out | apply below_alloc | apply pw_below_drewN | apply below_drew1 | refine below_set ?_ GE141.out) | exact HB.out)) hb); have n2_ := Aside0.mk (hbox); have n3_ := Aside0.mk ((by rw [hg]; exact (below_size (by repeat (first | (with_reducible first | exact HB.out | apply below_alloc | apply pw_below_drewN | apply below_drew1 | refine below_set ?_ GE141.out) | exact HB.out))) : w.heap.size ≤ g142)); have n4_ := Aside0.mk ((by rw [hg]; exact (below_size (by repeat (first | (with_reducible first | exact HB.out | apply below_alloc | apply pw_below_drewN | apply below_drew1 | refine below_set ?_ GE141.out) | exact HB.out))) : w.heap.size ≤ g142)); have n5_ := Aside0.mk ((by rw [hg]; exact Nat.ne_of_lt (blk_lt (g := g141) (o := .cells #[.int .u64 a2_0, .int .u64 a2_1, .int .u64 a2_2, .int .u64 a2_3] 23 (0, 0)) (by (with_reducible repeat first | refine blk_drewN ?_ _ | refine blk_drew ?_ | refine blk_alloc ?_ _); exact B141.out)) : g141 ≠ g142)); have n6_ := Aside0.mk ((by rw [hg]; exact Nat.ne_of_gt (blk_lt (g := g141) (o := .cells #[.int .u64 a2_0, .int .u64 a2_1, .int .u64 a2_2, .int .u64 a2_3] 23 (0, 0)) (by (with_reducible repeat first | refine blk_drewN ?_ _ | refine blk_drew ?_ | refine blk_alloc ?_ _); exact B141.out)) : g142 ≠ g141)); clear B141; clear HB; have B141 := n0_; have HB := n1_; have B142 := n2_; have GW142 := n3_; have GE142 := n4_; have NB141_142 := n5_; have NB142_141 := n6_; clear n0_ n1_ n2_ n3_ n4_ n5_ n6_; clear hb hbox hg) | ((with_reducible refine gate_callee (f := 28) rfl ?_); refine goesL_ (some 12) rfl rfl Tryd.func28 (by kernel_rfl) rfl #[.int .i64 a0, .int .i64 a1] rfl (by (try simp only [List.map_toArray, List.map_cons, List.map_nil]); first | done | rfl) ?_; (with_reducible refine (sponge_known.calls a0 a1 true _ A4.out).mono ?_); rintro e w' ⟨rfl, ⟨nd, rfl⟩⟩; refine ⟨_, rfl, ?_⟩; (try (rw [drewN_self w11]; generalize q_ : World.drewN w11 _ = w11; have n0_ : Aside0 (w11.heap[g141]? = some (.cells #[.int .u64 a2_0, .int .u64 a2_1, .int .u64 a2_2, .int .u64 a2_3] 23 (0, 0))) := ⟨by rw [← q_]; exact (by (with_reducible repeat first | refine blk_drewN ?_ _ | refine blk_drew ?_ | refine blk_alloc ?_ _); exact B141.out)⟩; have n1_ : Aside0 (w11.heap[g142]? = some (.cells #[.int .u64 0, .int .u64 0, .int .u64 0, .int .u64 0] 23 (0, 0))) := ⟨by rw [← q_]; exact (by (with_reducible repeat first | refine blk_drewN ?_ _ | refine blk_drew ?_ | refine blk_alloc ?_ _); exact B142.out)⟩; have n2_ : Aside0 (Below w.heap.size w w11) := ⟨by rw [← q_]; exact (by repeat (first | (with_reducible first | exact HB.out | apply below_alloc | apply pw_below_drewN | apply below_drew1 | refine below_set ?_ GE141.out | refine below_set ?_ GE142.out) | exact HB.out))⟩; clear B141 B142 HB q_; have B141 := n0_; have B142 := n1_; have HB := n2_; clear n0_ n1_ n2_))) | ((with_reducible refine gate_callee (f := 35) rfl ?_); refine goesL_ (some 16) rfl rfl Tryd.func35 (by kernel_rfl) rfl #[.int .i64 a0] rfl (by (try simp only [List.map_toArray, List.map_cons, List.map_nil]); first | done | rfl) ?_; (with_reducible refine (sponge_in.calls a0 t144 t145 t146 _ ?side1 A6.out).mono ?_); (case side1 => repeat (first | exact (GL.below HRG.out HB.out) | (with_reducible refine GL.alloc ?_ _) | (with_reducible refine GL.drewN ?_ _) | (with_reducible refine GL.drew ?_))); rintro e w12 ⟨rfl, hb⟩; refine ⟨_, rfl, ?_⟩; have n0_ := Aside0.mk (blk_below (g := g141) (o := .cells #[.int .u64 a2_0, .int .u64 a2_1, .int .u64 a2_2, .int .u64 a2_3] 23 (0, 0)) (by (with_reducible repeat first | refine blk_drewN ?_ _ | refine blk_drew ?_ | refine blk_alloc ?_ _); exact B141.out) hb); have n1_ := Aside0.mk (blk_below (g := g142) (o := .cells #[.int .u64 0, .int .u64 0, .int .u64 0, .int .u64 0] 23 (0, 0)) (by (with_reducible repeat first | refine blk_drewN ?_ _ | refine blk_drew ?_ | refine blk_alloc ?_ _); exact B142.out) hb); have n2_ := Aside0.mk (below_step (by repeat (first | (with_reducible first | exact HB.out | apply below_alloc | apply pw_below_drewN | apply below_drew1 | refine below_set ?_ GE141.out | refine below_set ?_ GE142.out) | exact HB.out)) hb); clear B141; clear B142; clear HB; have B141 := n0_; have B142 := n1_; have HB := n2_; clear n0_ n1_ n2_; (try clear hb); (try clear hb2); (try clear hk); (try clear hi)) | ((with_reducible refine gate_dst (N := 7) rfl ?_); refine box_event ?hg (N := 7) ?hd (cs := #[.int .u64 0, .int .u64 0, .bool false]) (t := 45) ?hr ?_; (case hd => rfl); (case hg => rfl); (case hr => first | (go_simp; done) | (go_simp; rfl)); intro g147 hg w13 hbox hb; have n0_ := Aside0.mk (blk_below (g := g141) (o := .cells #[.int .u64 a2_0, .int .u64 a2_1, .int .u64 a2_2, .int .u64 a2_3] 23 (0, 0)) (by (with_reducible repeat first | refine blk_drewN ?_ _ | refine blk_drew ?_ | refine blk_alloc ?_ _); exact B141.out) hb); have n1_ := Aside0.mk (blk_below (g := g142) (o := .cells #[.int .u64 0, .int .u64 0, .int .u64 0, .int .u64 0] 23 (0, 0)) (by (with_reducible repeat first | refine blk_drewN ?_ _ | refine blk_drew ?_ | refine blk_alloc ?_ _); exact B142.out) hb); have n2_ := Aside0.mk (below_step (by repeat (first | (with_reducible first | exact HB.out | apply below_alloc | apply pw_below_drewN | apply below_drew1 | refine below_set ?_ GE141.out | refine below_set ?_ GE142.out) | exact HB.out)) hb); have n3_ := Aside0.mk (hbox); have n4_ := Aside0.mk ((by rw [hg]; exact (below_size (by repeat (first | (with_reducible first | exact HB.out | apply below_alloc | apply pw_below_drewN | apply below_drew1 | refine below_set ?_ GE141.out | refine below_set ?_ GE142.out) | exact HB.out))) : w.heap.size ≤ g147)); have n5_ := Aside0.mk ((by rw [hg]; exact (below_size (by repeat (first | (with_reducible first | exact HB.out | apply below_alloc | apply pw_below_drewN | apply below_drew1 | refine below_set ?_ GE141.out | refine below_set ?_ GE142.out) | exact HB.out))) : w.heap.size ≤ g147)); have n6_ := Aside0.mk ((by rw [hg]; exact Nat.ne_of_lt (blk_lt (g := g141) (o := .cells #[.int .u64 a2_0, .int .u64 a2_1, .int .u64 a2_2, .int .u64 a2_3] 23 (0, 0)) (by (with_reducible repeat first | refine blk_drewN ?_ _ | refine blk_drew ?_ | refine blk_alloc ?_ _); exact B141.out)) : g141 ≠ g147)); have n7_ := Aside0.mk ((by rw [hg]; exact Nat.ne_of_gt (blk_lt (g := g141) (o := .cells #[.int .u64 a2_0, .int .u64 a2_1, .int .u64 a2_2, .int .u64 a2_3] 23 (0, 0)) (by (with_reducible repeat first | refine blk_drewN ?_ _ | refine blk_drew ?_ | refine blk_alloc ?_ _); exact B141.out)) : g147 ≠ g141)); have n8_ := Aside0.mk ((by rw [hg]; exact Nat.ne_of_lt (blk_lt (g := g142) (o := .cells #[.int .u64 0, .int .u64 0, .int .u64 0, .int .u64 0] 23 (0, 0)) (by (with_reducible repeat first | refine blk_drewN ?_ _ | refine blk_drew ?_ | refine blk_alloc ?_ _); exact B142.out)) : g142 ≠ g147)); have n9_ := Aside0.mk ((by rw [hg]; exact Nat.ne_of_gt (blk_lt (g := g142) (o := .cells #[.int .u64 0, .int .u64 0, .int .u64 0, .int .u64 0] 23 (0, 0)) (by (with_reducible repeat first | refine blk_drewN ?_ _ | refine blk_drew ?_ | refine blk_alloc ?_ _); exact B142.out)) : g147 ≠ g142)); clear B141; clear B142; clear HB; have B141 := n0_; have B142 := n1_; have HB := n2_; have B147 := n3_; have GW147 := n4_; have GE147 := n5_; have NB141_147 := n6_; have NB147_141 := n7_; have NB142_147 := n8_; have NB147_142 := n9_; clear n0_ n1_ n2_ n3_ n4_ n5_ n6_ n7_ n8_ n9_; clear hb hbox hg; have hnb14 := NB147_141.out; have hnc14 := NB141_147.out; have hnb15 := NB147_142.out; have hnc15 := NB142_147.out; have hcz16_0 : w13.cell? ⟨g147, 0, none⟩ = some (.int .u64 0) := bq_ B147 0; have hcz16_1 : w13.cell? ⟨g147, 1, none⟩ = some (.int .u64 0) := bq_ B147 1; have hcz16_2 : w13.cell? ⟨g147, 2, none⟩ = some (.bool false) := bq_ B147 2; have hfz16_0 := blk_frozen B147.out 0; have hfz16_1 := blk_frozen B147.out 1; have hfz16_2 := blk_frozen B147.out 2))
  have n0_ : Aside0 ((((w13.setCell ⟨g147, 0, none⟩ (.int .u64 t144)).setCell ⟨g147, 1, none⟩ (.int .u64 t145)).setCell ⟨g147, 2, none⟩ (.bool t146)).heap[g141]? = some (.cells #[.int .u64 a2_0, .int .u64 a2_1, .int .u64 a2_2, .int .u64 a2_3] 23 (0, 0))) := ⟨by (with_reducible repeat first | refine blk_drewN ?_ _ | refine blk_drew ?_ | refine blk_alloc ?_ _); refine blk_far ?_ NB141_147.out _; (with_reducible repeat first | refine blk_drewN ?_ _ | refine blk_drew ?_ | refine blk_alloc ?_ _); refine blk_far ?_ NB141_147.out _; (with_reducible repeat first | refine blk_drewN ?_ _ | refine blk_drew ?_ | refine blk_alloc ?_ _); refine blk_far ?_ NB141_147.out _; (with_reducible repeat first | refine blk_drewN ?_ _ | refine blk_drew ?_ | refine blk_alloc ?_ _); exact B141.out⟩
  have n1_ : Aside0 ((((w13.setCell ⟨g147, 0, none⟩ (.int .u64 t144)).setCell ⟨g147, 1, none⟩ (.int .u64 t145)).setCell ⟨g147, 2, none⟩ (.bool t146)).heap[g142]? = some (.cells #[.int .u64 0, .int .u64 0, .int .u64 0, .int .u64 0] 23 (0, 0))) := ⟨by (with_reducible repeat first | refine blk_drewN ?_ _ | refine blk_drew ?_ | refine blk_alloc ?_ _); refine blk_far ?_ NB142_147.out _; (with_reducible repeat first | refine blk_drewN ?_ _ | refine blk_drew ?_ | refine blk_alloc ?_ _); refine blk_far ?_ NB142_147.out _; (with_reducible repeat first | refine blk_drewN ?_ _ | refine blk_drew ?_ | refine blk_alloc ?_ _); refine blk_far ?_ NB142_147.out _; (with_reducible repeat first | refine blk_drewN ?_ _ | refine blk_drew ?_ | refine blk_alloc ?_ _); exact B142.out⟩
  have n2_ : Aside0 ((((w13.setCell ⟨g147, 0, none⟩ (.int .u64 t144)).setCell ⟨g147, 1, none⟩ (.int .u64 t145)).setCell ⟨g147, 2, none⟩ (.bool t146)).heap[g147]? = some (.cells #[.int .u64 t144, .int .u64 t145, .bool t146] 45 (0, 0))) := ⟨by (with_reducible repeat first | refine blk_drewN ?_ _ | refine blk_drew ?_ | refine blk_alloc ?_ _); refine blk_put (cs := #[.int .u64 t144, .int .u64 t145, .bool false]) ?_ 2 _ rfl; (with_reducible repeat first | refine blk_drewN ?_ _ | refine blk_drew ?_ | refine blk_alloc ?_ _); refine blk_put (cs := #[.int .u64 t144, .int .u64 0, .bool false]) ?_ 1 _ rfl; (with_reducible repeat first | refine blk_drewN ?_ _ | refine blk_drew ?_ | refine blk_alloc ?_ _); refine blk_put (cs := #[.int .u64 0, .int .u64 0, .bool false]) ?_ 0 _ rfl; (with_reducible repeat first | refine blk_drewN ?_ _ | refine blk_drew ?_ | refine blk_alloc ?_ _); exact B147.out⟩
  have n3_ : Aside0 (Below w.heap.size w (((w13.setCell ⟨g147, 0, none⟩ (.int .u64 t144)).setCell ⟨g147, 1, none⟩ (.int .u64 t145)).setCell ⟨g147, 2, none⟩ (.bool t146))) := ⟨by repeat (first | (with_reducible first | exact HB.out | apply below_alloc | apply pw_below_drewN | apply below_drew1 | refine below_set ?_ GE141.out | refine below_set ?_ GE142.out | refine below_set ?_ GE147.out) | exact HB.out)⟩
  (try clear B141)
  (try clear B142)
  (try clear B147)
  (try clear HB)
  generalize (((w13.setCell ⟨g147, 0, none⟩ (.int .u64 t144)).setCell ⟨g147, 1, none⟩ (.int .u64 t145)).setCell ⟨g147, 2, none⟩ (.bool t146)) = w17 at n0_ n1_ n2_ n3_ ⊢
  have B141 := n0_
  have B142 := n1_
  have B147 := n2_
  have HB := n3_
  clear n0_ n1_ n2_ n3_
  have n0_ := Aside0.mk (blk_drew B141.out)
  have n1_ := Aside0.mk (blk_drew B142.out)
  have n2_ := Aside0.mk (blk_drew B147.out)
  have n3_ := Aside0.mk (below_drew1 HB.out)
  clear B141
  clear B142
  clear B147
  clear HB
  have B141 := n0_
  have B142 := n1_
  have B147 := n2_
  have HB := n3_
  clear n0_ n1_ n2_ n3_
  refine start_ (n := 18) (S := fun w' => w'.cell? ⟨g147, 0, none⟩ = some (.int .u64 t144) ∧ w'.cell? ⟨g147, 1, none⟩ = some (.int .u64 t145) ∧ w'.cell? ⟨g147, 2, none⟩ = some (.bool t146) ∧ w'.cell? ⟨g141, 0, none⟩ = some (.int .u64 a2_0) ∧ w'.cell? ⟨g141, 1, none⟩ = some (.int .u64 a2_1) ∧ w'.cell? ⟨g141, 2, none⟩ = some (.int .u64 a2_2) ∧ w'.cell? ⟨g141, 3, none⟩ = some (.int .u64 a2_3)) (ds := []) z14_0_ (by kernel_rfl) rfl rfl ⟨bq_ B147 0, bq_ B147 1, bq_ B147 2, bq_ B141 0, bq_ B141 1, bq_ B141 2, bq_ B141 3⟩ (fun hL => ?_); refine with_tabW sponge_Round.tab4 sponge_Round.bits4 (fun T_ W_ => ?_)
  generalize w17.drew = w18 at B141 B142 B147 HB hL ⊢
  refine pure_ (i := 1) (N := some 19) (v := ?_) (a' := ?_) z14_1_ rfl rfl (any_of T_.out (by kernel_rfl)) (fun _ _ _ h => h) (Or.inl ⟨by rfl, ?_⟩) ?_ ?_
  rotate_left; · intro w'; go_simp; with_reducible rfl
  rotate_left; · simp only [Act.put, sa_, sb_, sc_, i64_w, i32_w]; rfl
  refine pure_ (i := 2) (N := some 20) (v := ?_) (a' := ?_) z14_2_ rfl rfl (any_of T_.out (by kernel_rfl)) (fun _ _ _ h => h) (Or.inl ⟨by rfl, ?_⟩) ?_ ?_
  rotate_left; · intro w'; go_simp; with_reducible rfl
  rotate_left; · simp only [Act.put, sa_, sb_, sc_, i64_w, i32_w]; rfl
  refine pure_ (i := 4) (N := some 22) (v := ?_) (a' := ?_) z14_3_ rfl rfl (any_of T_.out (by kernel_rfl)) (fun _ _ _ h => h) (Or.inl ⟨by rfl, ?_⟩) ?_ ?_
  rotate_left; · intro w'; go_simp; with_reducible rfl
  rotate_left; · simp only [Act.put, sa_, sb_, sc_, i64_w, i32_w]; rfl
  refine pure_ (i := 5) (N := some 23) (v := ?_) (a' := ?_) z14_4_ rfl rfl (any_of T_.out (by kernel_rfl)) (fun _ _ _ h => h) (Or.inl ⟨by rfl, ?_⟩) ?_ ?_
  rotate_left; · intro w'; go_simp; with_reducible rfl
  rotate_left; · simp only [Act.put, sa_, sb_, sc_, i64_w, i32_w]; rfl
  refine pure_ (i := 6) (N := some 24) (v := ?_) (a' := ?_) z14_5_ rfl rfl (any_of T_.out (by kernel_rfl)) (fun _ _ _ h => h) (Or.inl ⟨by rfl, ?_⟩) ?_ ?_
  rotate_left; · intro w'; go_simp; with_reducible rfl
  rotate_left; · simp only [Act.put, sa_, sb_, sc_, i64_w, i32_w]; rfl
  refine take_ (i := 0) (N := some 18) (v := ?_) (a' := ?_) z14_6_ rfl rfl (take_ofW T_.out W_.out (by kernel_rfl)) (fun _ _ _ h => h) (Or.inl ⟨by rfl, ?_⟩) hL ?_ ?_
  rotate_left
  ·rintro w' ⟨s0, s1, s2, s3, s4, s5, s6⟩
   go_simp
   with_reducible rfl
  rotate_left
  ·simp only [Act.put, sa_, sb_, sc_, i64_w, i32_w]
   rfl
  refine take_ (i := 3) (N := some 21) (v := ?_) (a' := ?_) z14_7_ rfl rfl (take_ofW T_.out W_.out (by kernel_rfl)) (fun _ _ _ h => h) (Or.inl ⟨by rfl, ?_⟩) hL ?_ ?_
  rotate_left
  ·rintro w' ⟨s0, s1, s2, s3, s4, s5, s6⟩
   go_simp
   with_reducible rfl
  rotate_left
  ·simp only [Act.put, sa_, sb_, sc_, i64_w, i32_w]
   rfl
  refine take_ (i := 8) (N := some 26) (v := ?_) (a' := ?_) z14_8_ rfl rfl (take_ofW T_.out W_.out (by kernel_rfl)) (fun _ _ _ h => h) (Or.inl ⟨by rfl, ?_⟩) hL ?_ ?_
  rotate_left
  ·rintro w' ⟨s0, s1, s2, s3, s4, s5, s6⟩
   go_simp
   with_reducible rfl
  rotate_left
  ·simp only [Act.put, sa_, sb_, sc_, i64_w, i32_w]
   rfl
  refine take_ (i := 9) (N := some 27) (v := ?_) (a' := ?_) z14_9_ rfl rfl (take_ofW T_.out W_.out (by kernel_rfl)) (fun _ _ _ h => h) (Or.inl ⟨by rfl, ?_⟩) hL ?_ ?_
  rotate_left
  ·rintro w' ⟨s0, s1, s2, s3, s4, s5, s6⟩
   go_simp
   with_reducible rfl
  rotate_left
  ·simp only [Act.put, sa_, sb_, sc_, i64_w, i32_w]
   rfl
  refine join_ (σ := Nat) 2 z14_10_ (fun s_ => [(25, .int .u64 t148), (28, .agg #[.int .u64 t149, .int .u64 t150, .int .u64 t151, .int .u64 t152]), (29, .tuple #[.int .u64 t153, .agg #[.int .u64 t154, .int .u64 t155, .int .u64 t156, .int .u64 t157]]), (9, .pointer (some ⟨s_, 0, none⟩)), (17, .tuple #[.int .u64 t153, .agg #[.int .u64 t154, .int .u64 t155, .int .u64 t156, .int .u64 t157]]), (30, .int .u64 t153), (31, .agg #[.int .u64 t154, .int .u64 t155, .int .u64 t156, .int .u64 t157])]) (fun s_ w' => (w'.cell? ⟨g147, 0, none⟩ = some (.int .u64 t144) ∧ w'.cell? ⟨g147, 1, none⟩ = some (.int .u64 t145) ∧ w'.cell? ⟨g147, 2, none⟩ = some (.bool t146) ∧ w'.cell? ⟨g141, 0, none⟩ = some (.int .u64 a2_0) ∧ w'.cell? ⟨g141, 1, none⟩ = some (.int .u64 a2_1) ∧ w'.cell? ⟨g141, 2, none⟩ = some (.int .u64 a2_2) ∧ w'.cell? ⟨g141, 3, none⟩ = some (.int .u64 a2_3)) ∧ (w'.heap[g141]? = some (.cells #[.int .u64 a2_0, .int .u64 a2_1, .int .u64 a2_2, .int .u64 a2_3] 23 (0, 0))) ∧ (w'.heap[g142]? = some (.cells #[.int .u64 0, .int .u64 0, .int .u64 0, .int .u64 0] 23 (0, 0))) ∧ (w'.heap[g147]? = some (.cells #[.int .u64 t144, .int .u64 t145, .bool t146] 45 (0, 0))) ∧ (w'.heap[s_]? = some (.cells #[.int .u64 0, .int .u64 0, .int .u64 0, .int .u64 0] 23 (0, 0))) ∧ (w.heap.size ≤ s_) ∧ (w.heap.size ≤ s_) ∧ (g141 ≠ s_) ∧ (s_ ≠ g141) ∧ (g142 ≠ s_) ∧ (s_ ≠ g142) ∧ (g147 ≠ s_) ∧ (s_ ≠ g147) ∧ (Below w.heap.size w w')) ?_ ?_
  rotate_left
  ·intro hCont
   refine two_ (i := 7) (j := 15) (Ni := some 25) (Nj := some 9) z14_11_ z14_12_ rfl rfl rfl rfl (two_of T_.out (by kernel_rfl)) (by decide) (by decide) (fun K hK => ?_) (fun K hK => ?_)
   ·skip
    refine goes_ Tryd.func29 (by kernel_rfl) rfl #[.int .i64 a0, .int .u64 t145, .int .u64 (IntKind.u64.wrap (wrap64 (4 * a1)))] (by rfl) rfl rfl (by (try simp only [List.map_toArray, List.map_cons, List.map_nil]); first | done | rfl) ?_
    with_reducible refine (field_Pow.calls k a0 t145 (IntKind.u64.wrap (wrap64 (4 * a1))) t148 _ ?side1 A7.out).mono ?_
    (case side1 => repeat (first | exact (GL.below HRG.out HB.out) | (with_reducible refine GL.alloc ?_ _) | (with_reducible refine GL.drewN ?_ _) | (with_reducible refine GL.drew ?_)))
    rintro e w19 ⟨rfl, hb⟩
    refine ⟨_, rfl, ?_⟩
    have n0_ := Aside0.mk (blk_below (g := g141) (o := .cells #[.int .u64 a2_0, .int .u64 a2_1, .int .u64 a2_2, .int .u64 a2_3] 23 (0, 0)) (by (with_reducible repeat first | refine blk_drewN ?_ _ | refine blk_drew ?_ | refine blk_alloc ?_ _); exact B141.out) hb)
    have n1_ := Aside0.mk (blk_below (g := g142) (o := .cells #[.int .u64 0, .int .u64 0, .int .u64 0, .int .u64 0] 23 (0, 0)) (by (with_reducible repeat first | refine blk_drewN ?_ _ | refine blk_drew ?_ | refine blk_alloc ?_ _); exact B142.out) hb)
    have n2_ := Aside0.mk (blk_below (g := g147) (o := .cells #[.int .u64 t144, .int .u64 t145, .bool t146] 45 (0, 0)) (by (with_reducible repeat first | refine blk_drewN ?_ _ | refine blk_drew ?_ | refine blk_alloc ?_ _); exact B147.out) hb)
    have n3_ := Aside0.mk (below_step (by repeat (first | (with_reducible first | exact HB.out | apply below_alloc | apply pw_below_drewN | apply below_drew1 | refine below_set ?_ GE141.out | refine below_set ?_ GE142.out | refine below_set ?_ GE147.out) | exact HB.out)) hb)
    clear B141
    clear B142
    clear B147
    clear HB
    have B141 := n0_
    have B142 := n1_
    have B147 := n2_
    have HB := n3_
    clear n0_ n1_ n2_ n3_
    (try clear hb)
    (try clear hb2)
    (try clear hk)
    (try clear hi)
    refine hK.out _ _ ⟨bq_ B147 0, bq_ B147 1, bq_ B147 2, bq_ B141 0, bq_ B141 1, bq_ B141 2, bq_ B141 3⟩ (fun hL => ?_)
    clear hK K
    refine norm_ (a' := ?_) ?_ ?_
    rotate_left
    ·show Act.put _ (some 25) _ = _
     simp only [Act.put, sa_, sb_, sc_, i64_w, i32_w]
     rfl
    refine two_ (i := 10) (j := 15) (Ni := some 28) (Nj := some 9) z14_13_ z14_14_ rfl rfl rfl rfl (two_of T_.out (by kernel_rfl)) (by decide) (by decide) (fun K hK => ?_) (fun K hK => ?_)
    ·skip
     refine goes_ Tryd.func37 (by kernel_rfl) rfl #[.agg #[.int .u64 t144, .int .u64 t145, .bool t146], .agg #[.int .u64 a2_0, .int .u64 a2_1, .int .u64 a2_2, .int .u64 a2_3]] (by rfl) rfl rfl (by (try simp only [List.map_toArray, List.map_cons, List.map_nil]); first | done | rfl) ?_
     with_reducible refine (sponge_mixer_reduced.calls t144 t145 t146 a2_0 a2_1 a2_2 a2_3 t149 t150 t151 t152 _ A8.out).mono ?_
     rintro e w20 ⟨rfl, hb⟩
     refine ⟨_, rfl, ?_⟩
     have n0_ := Aside0.mk (blk_below (g := g141) (o := .cells #[.int .u64 a2_0, .int .u64 a2_1, .int .u64 a2_2, .int .u64 a2_3] 23 (0, 0)) (by (with_reducible repeat first | refine blk_drewN ?_ _ | refine blk_drew ?_ | refine blk_alloc ?_ _); exact B141.out) hb)
     have n1_ := Aside0.mk (blk_below (g := g142) (o := .cells #[.int .u64 0, .int .u64 0, .int .u64 0, .int .u64 0] 23 (0, 0)) (by (with_reducible repeat first | refine blk_drewN ?_ _ | refine blk_drew ?_ | refine blk_alloc ?_ _); exact B142.out) hb)
     have n2_ := Aside0.mk (blk_below (g := g147) (o := .cells #[.int .u64 t144, .int .u64 t145, .bool t146] 45 (0, 0)) (by (with_reducible repeat first | refine blk_drewN ?_ _ | refine blk_drew ?_ | refine blk_alloc ?_ _); exact B147.out) hb)
     have n3_ := Aside0.mk (below_step (by repeat (first | (with_reducible first | exact HB.out | apply below_alloc | apply pw_below_drewN | apply below_drew1 | refine below_set ?_ GE141.out | refine below_set ?_ GE142.out | refine below_set ?_ GE147.out) | exact HB.out)) hb)
     clear B141
     clear B142
     clear B147
     clear HB
     have B141 := n0_
     have B142 := n1_
     have B147 := n2_
     have HB := n3_
     clear n0_ n1_ n2_ n3_
     (try clear hb)
     (try clear hb2)
     (try clear hk)
     (try clear hi)
     refine hK.out _ _ ⟨bq_ B147 0, bq_ B147 1, bq_ B147 2, bq_ B141 0, bq_ B141 1, bq_ B141 2, bq_ B141 3⟩ (fun hL => ?_)
     clear hK K
     refine norm_ (a' := ?_) ?_ ?_
     rotate_left
     ·show Act.put _ (some 28) _ = _
      simp only [Act.put, sa_, sb_, sc_, i64_w, i32_w]
      rfl
     refine two_ (i := 11) (j := 15) (Ni := some 29) (Nj := some 9) z14_15_ z14_16_ rfl rfl rfl rfl (two_of T_.out (by kernel_rfl)) (by decide) (by decide) (fun K hK => ?_) (fun K hK => ?_)
     ·skip
      refine goes_ Tryd.func36 (by kernel_rfl) rfl #[.agg #[.int .u64 t144, .int .u64 t145, .bool t146], .int .u64 t148, .agg #[.int .u64 t149, .int .u64 t150, .int .u64 t151, .int .u64 t152]] (by rfl) rfl rfl (by (try simp only [List.map_toArray, List.map_cons, List.map_nil]); first | done | rfl) ?_
      with_reducible refine (sponge_mixer_round.calls t144 t145 t146 t148 t149 t150 t151 t152 t153 t154 t155 t156 t157 _ A9.out).mono ?_
      rintro e w21 ⟨rfl, hb⟩
      refine ⟨_, rfl, ?_⟩
      have n0_ := Aside0.mk (blk_below (g := g141) (o := .cells #[.int .u64 a2_0, .int .u64 a2_1, .int .u64 a2_2, .int .u64 a2_3] 23 (0, 0)) (by (with_reducible repeat first | refine blk_drewN ?_ _ | refine blk_drew ?_ | refine blk_alloc ?_ _); exact B141.out) hb)
      have n1_ := Aside0.mk (blk_below (g := g142) (o := .cells #[.int .u64 0, .int .u64 0, .int .u64 0, .int .u64 0] 23 (0, 0)) (by (with_reducible repeat first | refine blk_drewN ?_ _ | refine blk_drew ?_ | refine blk_alloc ?_ _); exact B142.out) hb)
      have n2_ := Aside0.mk (blk_below (g := g147) (o := .cells #[.int .u64 t144, .int .u64 t145, .bool t146] 45 (0, 0)) (by (with_reducible repeat first | refine blk_drewN ?_ _ | refine blk_drew ?_ | refine blk_alloc ?_ _); exact B147.out) hb)
      have n3_ := Aside0.mk (below_step (by repeat (first | (with_reducible first | exact HB.out | apply below_alloc | apply pw_below_drewN | apply below_drew1 | refine below_set ?_ GE141.out | refine below_set ?_ GE142.out | refine below_set ?_ GE147.out) | exact HB.out)) hb)
      clear B141
      clear B142
      clear B147
      clear HB
      have B141 := n0_
      have B142 := n1_
      have B147 := n2_
      have HB := n3_
      clear n0_ n1_ n2_ n3_
      (try clear hb)
      (try clear hb2)
      (try clear hk)
      (try clear hi)
      refine hK.out _ _ ⟨bq_ B147 0, bq_ B147 1, bq_ B147 2, bq_ B141 0, bq_ B141 1, bq_ B141 2, bq_ B141 3⟩ (fun hL => ?_)
      clear hK K
      refine norm_ (a' := ?_) ?_ ?_
      rotate_left
      ·show Act.put _ (some 29) _ = _
       simp only [Act.put, sa_, sb_, sc_, i64_w, i32_w]
       rfl
      refine pure_ (i := 12) (N := some 17) (v := ?_) (a' := ?_) z14_17_ rfl rfl (any_of T_.out (by kernel_rfl)) (fun _ _ _ h => h) (Or.inl ⟨by rfl, ?_⟩) ?_ ?_
      rotate_left; · intro w'; go_simp; with_reducible rfl
      rotate_left; · simp only [Act.put, sa_, sb_, sc_, i64_w, i32_w]; rfl
      refine pure_ (i := 13) (N := some 30) (v := ?_) (a' := ?_) z14_18_ rfl rfl (any_of T_.out (by kernel_rfl)) (fun _ _ _ h => h) (Or.inl ⟨by rfl, ?_⟩) ?_ ?_
      rotate_left; · intro w'; go_simp; with_reducible rfl
      rotate_left; · simp only [Act.put, sa_, sb_, sc_, i64_w, i32_w]; rfl
      refine pure_ (i := 14) (N := some 31) (v := ?_) (a' := ?_) z14_19_ rfl rfl (any_of T_.out (by kernel_rfl)) (fun _ _ _ h => h) (Or.inl ⟨by rfl, ?_⟩) ?_ ?_
      rotate_left; · intro w'; go_simp; with_reducible rfl
      rotate_left; · simp only [Act.put, sa_, sb_, sc_, i64_w, i32_w]; rfl
      refine one_ (i := 15) (N := some 9) z14_10_ rfl rfl (one_of T_.out (by kernel_rfl)) (by decide) (fun K hK => ?_)
      refine box_step ?hg (N := 9) ?hd (cs := #[.int .u64 0, .int .u64 0, .int .u64 0, .int .u64 0]) (t := 23) ?hr ?_; (case hd => rfl); (case hg => rfl); (case hr => first | (go_simp; done) | (go_simp; rfl))
      intro g158 hg w22 hbox hb
      have n0_ := Aside0.mk (blk_below (g := g141) (o := .cells #[.int .u64 a2_0, .int .u64 a2_1, .int .u64 a2_2, .int .u64 a2_3] 23 (0, 0)) (by (with_reducible repeat first | refine blk_drewN ?_ _ | refine blk_drew ?_ | refine blk_alloc ?_ _); exact B141.out) hb)
      have n1_ := Aside0.mk (blk_below (g := g142) (o := .cells #[.int .u64 0, .int .u64 0, .int .u64 0, .int .u64 0] 23 (0, 0)) (by (with_reducible repeat first | refine blk_drewN ?_ _ | refine blk_drew ?_ | refine blk_alloc ?_ _); exact B142.out) hb)
      have n2_ := Aside0.mk (blk_below (g := g147) (o := .cells #[.int .u64 t144, .int .u64 t145, .bool t146] 45 (0, 0)) (by (with_reducible repeat first | refine blk_drewN ?_ _ | refine blk_drew ?_ | refine blk_alloc ?_ _); exact B147.out) hb)
      have n3_ := Aside0.mk (below_step (by repeat (first | (with_reducible first | exact HB.out | apply below_alloc | apply pw_below_drewN | apply below_drew1 | refine below_set ?_ GE141.out | refine below_set ?_ GE142.out | refine below_set ?_ GE147.out) | exact HB.out)) hb)
      have n4_ := Aside0.mk (hbox)
      have n5_ := Aside0.mk ((by rw [hg]; exact (below_size (by repeat (first | (with_reducible first | exact HB.out | apply below_alloc | apply pw_below_drewN | apply below_drew1 | refine below_set ?_ GE141.out | refine below_set ?_ GE142.out | refine below_set ?_ GE147.out) | exact HB.out))) : w.heap.size ≤ g158))
      have n6_ := Aside0.mk ((by rw [hg]; exact (below_size (by repeat (first | (with_reducible first | exact HB.out | apply below_alloc | apply pw_below_drewN | apply below_drew1 | refine below_set ?_ GE141.out | refine below_set ?_ GE142.out | refine below_set ?_ GE147.out) | exact HB.out))) : w.heap.size ≤ g158))
      have n7_ := Aside0.mk ((by rw [hg]; exact Nat.ne_of_lt (blk_lt (g := g141) (o := .cells #[.int .u64 a2_0, .int .u64 a2_1, .int .u64 a2_2, .int .u64 a2_3] 23 (0, 0)) (by (with_reducible repeat first | refine blk_drewN ?_ _ | refine blk_drew ?_ | refine blk_alloc ?_ _); exact B141.out)) : g141 ≠ g158))
      have n8_ := Aside0.mk ((by rw [hg]; exact Nat.ne_of_gt (blk_lt (g := g141) (o := .cells #[.int .u64 a2_0, .int .u64 a2_1, .int .u64 a2_2, .int .u64 a2_3] 23 (0, 0)) (by (with_reducible repeat first | refine blk_drewN ?_ _ | refine blk_drew ?_ | refine blk_alloc ?_ _); exact B141.out)) : g158 ≠ g141))
      have n9_ := Aside0.mk ((by rw [hg]; exact Nat.ne_of_lt (blk_lt (g := g142) (o := .cells #[.int .u64 0, .int .u64 0, .int .u64 0, .int .u64 0] 23 (0, 0)) (by (with_reducible repeat first | refine blk_drewN ?_ _ | refine blk_drew ?_ | refine blk_alloc ?_ _); exact B142.out)) : g142 ≠ g158))
      have n10_ := Aside0.mk ((by rw [hg]; exact Nat.ne_of_gt (blk_lt (g := g142) (o := .cells #[.int .u64 0, .int .u64 0, .int .u64 0, .int .u64 0] 23 (0, 0)) (by (with_reducible repeat first | refine blk_drewN ?_ _ | refine blk_drew ?_ | refine blk_alloc ?_ _); exact B142.out)) : g158 ≠ g142))
      have n11_ := Aside0.mk ((by rw [hg]; exact Nat.ne_of_lt (blk_lt (g := g147) (o := .cells #[.int .u64 t144, .int .u64 t145, .bool t146] 45 (0, 0)) (by (with_reducible repeat first | refine blk_drewN ?_ _ | refine blk_drew ?_ | refine blk_alloc ?_ _); exact B147.out)) : g147 ≠ g158))
      have n12_ := Aside0.mk ((by rw [hg]; exact Nat.ne_of_gt (blk_lt (g := g147) (o := .cells #[.int .u64 t144, .int .u64 t145, .bool t146] 45 (0, 0)) (by (with_reducible repeat first | refine blk_drewN ?_ _ | refine blk_drew ?_ | refine blk_alloc ?_ _); exact B147.out)) : g158 ≠ g147))
      clear B141
      clear B142
      clear B147
      clear HB
      have B141 := n0_
      have B142 := n1_
      have B147 := n2_
      have HB := n3_
      have B158 := n4_
      have GW158 := n5_
      have GE158 := n6_
      have NB141_158 := n7_
      have NB158_141 := n8_
      have NB142_158 := n9_
      have NB158_142 := n10_
      have NB147_158 := n11_
      have NB158_147 := n12_
      clear n0_ n1_ n2_ n3_ n4_ n5_ n6_ n7_ n8_ n9_ n10_ n11_ n12_
      clear hb hbox hg
      refine hK.out _ _ ⟨bq_ B147 0, bq_ B147 1, bq_ B147 2, bq_ B141 0, bq_ B141 1, bq_ B141 2, bq_ B141 3⟩ (fun hL => ?_)
      clear hK K
      refine norm_ (a' := ?_) ?_ ?_
      rotate_left
      ·show Act.put _ (some 9) _ = _
       simp only [Act.put, sa_, sb_, sc_, i64_w, i32_w]
       rfl
      exact norm_ (by simp only [putAll, Act.put, List.setIfInBounds_toArray, List.set_cons_zero, List.set_cons_succ]) (hCont (g158) _ ⟨hL, (by (with_reducible repeat first | refine blk_drewN ?_ _ | refine blk_drew ?_ | refine blk_alloc ?_ _); exact B141.out), (by (with_reducible repeat first | refine blk_drewN ?_ _ | refine blk_drew ?_ | refine blk_alloc ?_ _); exact B142.out), (by (with_reducible repeat first | refine blk_drewN ?_ _ | refine blk_drew ?_ | refine blk_alloc ?_ _); exact B147.out), (by (with_reducible repeat first | refine blk_drewN ?_ _ | refine blk_drew ?_ | refine blk_alloc ?_ _); exact B158.out), GW158.out, GE158.out, NB141_158.out, NB158_141.out, NB142_158.out, NB158_142.out, NB147_158.out, NB158_147.out, (by repeat (first | (with_reducible first | exact HB.out | apply below_alloc | apply pw_below_drewN | apply below_drew1 | refine below_set ?_ GE141.out | refine below_set ?_ GE142.out | refine below_set ?_ GE147.out | refine below_set ?_ GE158.out) | exact HB.out))⟩)
     ·skip
      refine box_step ?hg (N := 9) ?hd (cs := #[.int .u64 0, .int .u64 0, .int .u64 0, .int .u64 0]) (t := 23) ?hr ?_; (case hd => rfl); (case hg => rfl); (case hr => first | (go_simp; done) | (go_simp; rfl))
      intro g158 hg w21 hbox hb
      have n0_ := Aside0.mk (blk_below (g := g141) (o := .cells #[.int .u64 a2_0, .int .u64 a2_1, .int .u64 a2_2, .int .u64 a2_3] 23 (0, 0)) (by (with_reducible repeat first | refine blk_drewN ?_ _ | refine blk_drew ?_ | refine blk_alloc ?_ _); exact B141.out) hb)
      have n1_ := Aside0.mk (blk_below (g := g142) (o := .cells #[.int .u64 0, .int .u64 0, .int .u64 0, .int .u64 0] 23 (0, 0)) (by (with_reducible repeat first | refine blk_drewN ?_ _ | refine blk_drew ?_ | refine blk_alloc ?_ _); exact B142.out) hb)
      have n2_ := Aside0.mk (blk_below (g := g147) (o := .cells #[.int .u64 t144, .int .u64 t145, .bool t146] 45 (0, 0)) (by (with_reducible repeat first | refine blk_drewN ?_ _ | refine blk_drew ?_ | refine blk_alloc ?_ _); exact B147.out) hb)
      have n3_ := Aside0.mk (below_step (by repeat (first | (with_reducible first | exact HB.out | apply below_alloc | apply pw_below_drewN | apply below_drew1 | refine below_set ?_ GE141.out | refine below_set ?_ GE142.out | refine below_set ?_ GE147.out) | exact HB.out)) hb)
      have n4_ := Aside0.mk (hbox)
      have n5_ := Aside0.mk ((by rw [hg]; exact (below_size (by repeat (first | (with_reducible first | exact HB.out | apply below_alloc | apply pw_below_drewN | apply below_drew1 | refine below_set ?_ GE141.out | refine below_set ?_ GE142.out | refine below_set ?_ GE147.out) | exact HB.out))) : w.heap.size ≤ g158))
      have n6_ := Aside0.mk ((by rw [hg]; exact (below_size (by repeat (first | (with_reducible first | exact HB.out | apply below_alloc | apply pw_below_drewN | apply below_drew1 | refine below_set ?_ GE141.out | refine below_set ?_ GE142.out | refine below_set ?_ GE147.out) | exact HB.out))) : w.heap.size ≤ g158))
      have n7_ := Aside0.mk ((by rw [hg]; exact Nat.ne_of_lt (blk_lt (g := g141) (o := .cells #[.int .u64 a2_0, .int .u64 a2_1, .int .u64 a2_2, .int .u64 a2_3] 23 (0, 0)) (by (with_reducible repeat first | refine blk_drewN ?_ _ | refine blk_drew ?_ | refine blk_alloc ?_ _); exact B141.out)) : g141 ≠ g158))
      have n8_ := Aside0.mk ((by rw [hg]; exact Nat.ne_of_gt (blk_lt (g := g141) (o := .cells #[.int .u64 a2_0, .int .u64 a2_1, .int .u64 a2_2, .int .u64 a2_3] 23 (0, 0)) (by (with_reducible repeat first | refine blk_drewN ?_ _ | refine blk_drew ?_ | refine blk_alloc ?_ _); exact B141.out)) : g158 ≠ g141))
      have n9_ := Aside0.mk ((by rw [hg]; exact Nat.ne_of_lt (blk_lt (g := g142) (o := .cells #[.int .u64 0, .int .u64 0, .int .u64 0, .int .u64 0] 23 (0, 0)) (by (with_reducible repeat first | refine blk_drewN ?_ _ | refine blk_drew ?_ | refine blk_alloc ?_ _); exact B142.out)) : g142 ≠ g158))
      have n10_ := Aside0.mk ((by rw [hg]; exact Nat.ne_of_gt (blk_lt (g := g142) (o := .cells #[.int .u64 0, .int .u64 0, .int .u64 0, .int .u64 0] 23 (0, 0)) (by (with_reducible repeat first | refine blk_drewN ?_ _ | refine blk_drew ?_ | refine blk_alloc ?_ _); exact B142.out)) : g158 ≠ g142))
      have n11_ := Aside0.mk ((by rw [hg]; exact Nat.ne_of_lt (blk_lt (g := g147) (o := .cells #[.int .u64 t144, .int .u64 t145, .bool t146] 45 (0, 0)) (by (with_reducible repeat first | refine blk_drewN ?_ _ | refine blk_drew ?_ | refine blk_alloc ?_ _); exact B147.out)) : g147 ≠ g158))
      have n12_ := Aside0.mk ((by rw [hg]; exact Nat.ne_of_gt (blk_lt (g := g147) (o := .cells #[.int .u64 t144, .int .u64 t145, .bool t146] 45 (0, 0)) (by (with_reducible repeat first | refine blk_drewN ?_ _ | refine blk_drew ?_ | refine blk_alloc ?_ _); exact B147.out)) : g158 ≠ g147))
      clear B141
      clear B142
      clear B147
      clear HB
      have B141 := n0_
      have B142 := n1_
      have B147 := n2_
      have HB := n3_
      have B158 := n4_
      have GW158 := n5_
      have GE158 := n6_
      have NB141_158 := n7_
      have NB158_141 := n8_
      have NB142_158 := n9_
      have NB158_142 := n10_
      have NB147_158 := n11_
      have NB158_147 := n12_
      clear n0_ n1_ n2_ n3_ n4_ n5_ n6_ n7_ n8_ n9_ n10_ n11_ n12_
      clear hb hbox hg
      refine hK.out _ _ ⟨bq_ B147 0, bq_ B147 1, bq_ B147 2, bq_ B141 0, bq_ B141 1, bq_ B141 2, bq_ B141 3⟩ (fun hL => ?_)
      clear hK K
      refine norm_ (a' := ?_) ?_ ?_
      rotate_left
      ·show Act.put _ (some 9) _ = _
       simp only [Act.put, sa_, sb_, sc_, i64_w, i32_w]
       rfl
      refine one_ (i := 11) (N := some 29) z14_20_ rfl rfl (one_of T_.out (by kernel_rfl)) (by decide) (fun K hK => ?_)
      refine goes_ Tryd.func36 (by kernel_rfl) rfl #[.agg #[.int .u64 t144, .int .u64 t145, .bool t146], .int .u64 t148, .agg #[.int .u64 t149, .int .u64 t150, .int .u64 t151, .int .u64 t152]] (by rfl) rfl rfl (by (try simp only [List.map_toArray, List.map_cons, List.map_nil]); first | done | rfl) ?_
      with_reducible refine (sponge_mixer_round.calls t144 t145 t146 t148 t149 t150 t151 t152 t153 t154 t155 t156 t157 _ A9.out).mono ?_
      rintro e w22 ⟨rfl, hb⟩
      refine ⟨_, rfl, ?_⟩
      have n0_ := Aside0.mk (blk_below (g := g141) (o := .cells #[.int .u64 a2_0, .int .u64 a2_1, .int .u64 a2_2, .int .u64 a2_3] 23 (0, 0)) (by (with_reducible repeat first | refine blk_drewN ?_ _ | refine blk_drew ?_ | refine blk_alloc ?_ _); exact B141.out) hb)
      have n1_ := Aside0.mk (blk_below (g := g142) (o := .cells #[.int .u64 0, .int .u64 0, .int .u64 0, .int .u64 0] 23 (0, 0)) (by (with_reducible repeat first | refine blk_drewN ?_ _ | refine blk_drew ?_ | refine blk_alloc ?_ _); exact B142.out) hb)
      have n2_ := Aside0.mk (blk_below (g := g147) (o := .cells #[.int .u64 t144, .int .u64 t145, .bool t146] 45 (0, 0)) (by (with_reducible repeat first | refine blk_drewN ?_ _ | refine blk_drew ?_ | refine blk_alloc ?_ _); exact B147.out) hb)
      have n3_ := Aside0.mk (blk_below (g := g158) (o := .cells #[.int .u64 0, .int .u64 0, .int .u64 0, .int .u64 0] 23 (0, 0)) (by (with_reducible repeat first | refine blk_drewN ?_ _ | refine blk_drew ?_ | refine blk_alloc ?_ _); exact B158.out) hb)
      have n4_ := Aside0.mk (below_step (by repeat (first | (with_reducible first | exact HB.out | apply below_alloc | apply pw_below_drewN | apply below_drew1 | refine below_set ?_ GE141.out | refine below_set ?_ GE142.out | refine below_set ?_ GE147.out | refine below_set ?_ GE158.out) | exact HB.out)) hb)
      clear B141
      clear B142
      clear B147
      clear B158
      clear HB
      have B141 := n0_
      have B142 := n1_
      have B147 := n2_
      have B158 := n3_
      have HB := n4_
      clear n0_ n1_ n2_ n3_ n4_
      (try clear hb)
      (try clear hb2)
      (try clear hk)
      (try clear hi)
      refine hK.out _ _ ⟨bq_ B147 0, bq_ B147 1, bq_ B147 2, bq_ B141 0, bq_ B141 1, bq_ B141 2, bq_ B141 3⟩ (fun hL => ?_)
      clear hK K
      refine norm_ (a' := ?_) ?_ ?_
      rotate_left
      ·show Act.put _ (some 29) _ = _
       simp only [Act.put, sa_, sb_, sc_, i64_w, i32_w]
       rfl
      refine pure_ (i := 12) (N := some 17) (v := ?_) (a' := ?_) z14_21_ rfl rfl (any_of T_.out (by kernel_rfl)) (fun _ _ _ h => h) (Or.inl ⟨by rfl, ?_⟩) ?_ ?_
      rotate_left; · intro w'; go_simp; with_reducible rfl
      rotate_left; · simp only [Act.put, sa_, sb_, sc_, i64_w, i32_w]; rfl
      refine pure_ (i := 13) (N := some 30) (v := ?_) (a' := ?_) z14_22_ rfl rfl (any_of T_.out (by kernel_rfl)) (fun _ _ _ h => h) (Or.inl ⟨by rfl, ?_⟩) ?_ ?_
      rotate_left; · intro w'; go_simp; with_reducible rfl
      rotate_left; · simp only [Act.put, sa_, sb_, sc_, i64_w, i32_w]; rfl
      refine pure_ (i := 14) (N := some 31) (v := ?_) (a' := ?_) z14_10_ rfl rfl (any_of T_.out (by kernel_rfl)) (fun _ _ _ h => h) (Or.inl ⟨by rfl, ?_⟩) ?_ ?_
      rotate_left; · intro w'; go_simp; with_reducible rfl
      rotate_left; · simp only [Act.put, sa_, sb_, sc_, i64_w, i32_w]; rfl
      exact norm_ (by simp only [putAll, Act.put, List.setIfInBounds_toArray, List.set_cons_zero, List.set_cons_succ]) (hCont (g158) _ ⟨hL, (by (with_reducible repeat first | refine blk_drewN ?_ _ | refine blk_drew ?_ | refine blk_alloc ?_ _); exact B141.out), (by (with_reducible repeat first | refine blk_drewN ?_ _ | refine blk_drew ?_ | refine blk_alloc ?_ _); exact B142.out), (by (with_reducible repeat first | refine blk_drewN ?_ _ | refine blk_drew ?_ | refine blk_alloc ?_ _); exact B147.out), (by (with_reducible repeat first | refine blk_drewN ?_ _ | refine blk_drew ?_ | refine blk_alloc ?_ _); exact B158.out), GW158.out, GE158.out, NB141_158.out, NB158_141.out, NB142_158.out, NB158_142.out, NB147_158.out, NB158_147.out, (by repeat (first | (with_reducible first | exact HB.out | apply below_alloc | apply pw_below_drewN | apply below_drew1 | refine below_set ?_ GE141.out | refine below_set ?_ GE142.out | refine below_set ?_ GE147.out | refine below_set ?_ GE158.out) | exact HB.out))⟩)
    ·skip
     refine box_step ?hg (N := 9) ?hd (cs := #[.int .u64 0, .int .u64 0, .int .u64 0, .int .u64 0]) (t := 23) ?hr ?_; (case hd => rfl); (case hg => rfl); (case hr => first | (go_simp; done) | (go_simp; rfl))
     intro g158 hg w20 hbox hb
     have n0_ := Aside0.mk (blk_below (g := g141) (o := .cells #[.int .u64 a2_0, .int .u64 a2_1, .int .u64 a2_2, .int .u64 a2_3] 23 (0, 0)) (by (with_reducible repeat first | refine blk_drewN ?_ _ | refine blk_drew ?_ | refine blk_alloc ?_ _); exact B141.out) hb)
     have n1_ := Aside0.mk (blk_below (g := g142) (o := .cells #[.int .u64 0, .int .u64 0, .int .u64 0, .int .u64 0] 23 (0, 0)) (by (with_reducible repeat first | refine blk_drewN ?_ _ | refine blk_drew ?_ | refine blk_alloc ?_ _); exact B142.out) hb)
     have n2_ := Aside0.mk (blk_below (g := g147) (o := .cells #[.int .u64 t144, .int .u64 t145, .bool t146] 45 (0, 0)) (by (with_reducible repeat first | refine blk_drewN ?_ _ | refine blk_drew ?_ | refine blk_alloc ?_ _); exact B147.out) hb)
     have n3_ := Aside0.mk (below_step (by repeat (first | (with_reducible first | exact HB.out | apply below_alloc | apply pw_below_drewN | apply below_drew1 | refine below_set ?_ GE141.out | refine below_set ?_ GE142.out | refine below_set ?_ GE147.out) | exact HB.out)) hb)
     have n4_ := Aside0.mk (hbox)
     have n5_ := Aside0.mk ((by rw [hg]; exact (below_size (by repeat (first | (with_reducible first | exact HB.out | apply below_alloc | apply pw_below_drewN | apply below_drew1 | refine below_set ?_ GE141.out | refine below_set ?_ GE142.out | refine below_set ?_ GE147.out) | exact HB.out))) : w.heap.size ≤ g158))
     have n6_ := Aside0.mk ((by rw [hg]; exact (below_size (by repeat (first | (with_reducible first | exact HB.out | apply below_alloc | apply pw_below_drewN | apply below_drew1 | refine below_set ?_ GE141.out | refine below_set ?_ GE142.out | refine below_set ?_ GE147.out) | exact HB.out))) : w.heap.size ≤ g158))
     have n7_ := Aside0.mk ((by rw [hg]; exact Nat.ne_of_lt (blk_lt (g := g141) (o := .cells #[.int .u64 a2_0, .int .u64 a2_1, .int .u64 a2_2, .int .u64 a2_3] 23 (0, 0)) (by (with_reducible repeat first | refine blk_drewN ?_ _ | refine blk_drew ?_ | refine blk_alloc ?_ _); exact B141.out)) : g141 ≠ g158))
     have n8_ := Aside0.mk ((by rw [hg]; exact Nat.ne_of_gt (blk_lt (g := g141) (o := .cells #[.int .u64 a2_0, .int .u64 a2_1, .int .u64 a2_2, .int .u64 a2_3] 23 (0, 0)) (by (with_reducible repeat first | refine blk_drewN ?_ _ | refine blk_drew ?_ | refine blk_alloc ?_ _); exact B141.out)) : g158 ≠ g141))
     have n9_ := Aside0.mk ((by rw [hg]; exact Nat.ne_of_lt (blk_lt (g := g142) (o := .cells #[.int .u64 0, .int .u64 0, .int .u64 0, .int .u64 0] 23 (0, 0)) (by (with_reducible repeat first | refine blk_drewN ?_ _ | refine blk_drew ?_ | refine blk_alloc ?_ _); exact B142.out)) : g142 ≠ g158))
     have n10_ := Aside0.mk ((by rw [hg]; exact Nat.ne_of_gt (blk_lt (g := g142) (o := .cells #[.int .u64 0, .int .u64 0, .int .u64 0, .int .u64 0] 23 (0, 0)) (by (with_reducible repeat first | refine blk_drewN ?_ _ | refine blk_drew ?_ | refine blk_alloc ?_ _); exact B142.out)) : g158 ≠ g142))
     have n11_ := Aside0.mk ((by rw [hg]; exact Nat.ne_of_lt (blk_lt (g := g147) (o := .cells #[.int .u64 t144, .int .u64 t145, .bool t146] 45 (0, 0)) (by (with_reducible repeat first | refine blk_drewN ?_ _ | refine blk_drew ?_ | refine blk_alloc ?_ _); exact B147.out)) : g147 ≠ g158))
     have n12_ := Aside0.mk ((by rw [hg]; exact Nat.ne_of_gt (blk_lt (g := g147) (o := .cells #[.int .u64 t144, .int .u64 t145, .bool t146] 45 (0, 0)) (by (with_reducible repeat first | refine blk_drewN ?_ _ | refine blk_drew ?_ | refine blk_alloc ?_ _); exact B147.out)) : g158 ≠ g147))
     clear B141
     clear B142
     clear B147
     clear HB
     have B141 := n0_
     have B142 := n1_
     have B147 := n2_
     have HB := n3_
     have B158 := n4_
     have GW158 := n5_
     have GE158 := n6_
     have NB141_158 := n7_
     have NB158_141 := n8_
     have NB142_158 := n9_
     have NB158_142 := n10_
     have NB147_158 := n11_
     have NB158_147 := n12_
     clear n0_ n1_ n2_ n3_ n4_ n5_ n6_ n7_ n8_ n9_ n10_ n11_ n12_
     clear hb hbox hg
     refine hK.out _ _ ⟨bq_ B147 0, bq_ B147 1, bq_ B147 2, bq_ B141 0, bq_ B141 1, bq_ B141 2, bq_ B141 3⟩ (fun hL => ?_)
     clear hK K
     refine norm_ (a' := ?_) ?_ ?_
     rotate_left
     ·show Act.put _ (some 9) _ = _
      simp only [Act.put, sa_, sb_, sc_, i64_w, i32_w]
      rfl
     refine one_ (i := 10) (N := some 28) z14_16_ rfl rfl (one_of T_.out (by kernel_rfl)) (by decide) (fun K hK => ?_)
     refine goes_ Tryd.func37 (by kernel_rfl) rfl #[.agg #[.int .u64 t144, .int .u64 t145, .bool t146], .agg #[.int .u64 a2_0, .int .u64 a2_1, .int .u64 a2_2, .int .u64 a2_3]] (by rfl) rfl rfl (by (try simp only [List.map_toArray, List.map_cons, List.map_nil]); first | done | rfl) ?_
     with_reducible refine (sponge_mixer_reduced.calls t144 t145 t146 a2_0 a2_1 a2_2 a2_3 t149 t150 t151 t152 _ A8.out).mono ?_
     rintro e w21 ⟨rfl, hb⟩
     refine ⟨_, rfl, ?_⟩
     have n0_ := Aside0.mk (blk_below (g := g141) (o := .cells #[.int .u64 a2_0, .int .u64 a2_1, .int .u64 a2_2, .int .u64 a2_3] 23 (0, 0)) (by (with_reducible repeat first | refine blk_drewN ?_ _ | refine blk_drew ?_ | refine blk_alloc ?_ _); exact B141.out) hb)
     have n1_ := Aside0.mk (blk_below (g := g142) (o := .cells #[.int .u64 0, .int .u64 0, .int .u64 0, .int .u64 0] 23 (0, 0)) (by (with_reducible repeat first | refine blk_drewN ?_ _ | refine blk_drew ?_ | refine blk_alloc ?_ _); exact B142.out) hb)
     have n2_ := Aside0.mk (blk_below (g := g147) (o := .cells #[.int .u64 t144, .int .u64 t145, .bool t146] 45 (0, 0)) (by (with_reducible repeat first | refine blk_drewN ?_ _ | refine blk_drew ?_ | refine blk_alloc ?_ _); exact B147.out) hb)
     have n3_ := Aside0.mk (blk_below (g := g158) (o := .cells #[.int .u64 0, .int .u64 0, .int .u64 0, .int .u64 0] 23 (0, 0)) (by (with_reducible repeat first | refine blk_drewN ?_ _ | refine blk_drew ?_ | refine blk_alloc ?_ _); exact B158.out) hb)
     have n4_ := Aside0.mk (below_step (by repeat (first | (with_reducible first | exact HB.out | apply below_alloc | apply pw_below_drewN | apply below_drew1 | refine below_set ?_ GE141.out | refine below_set ?_ GE142.out | refine below_set ?_ GE147.out | refine below_set ?_ GE158.out) | exact HB.out)) hb)
     clear B141
     clear B142
     clear B147
     clear B158
     clear HB
     have B141 := n0_
     have B142 := n1_
     have B147 := n2_
     have B158 := n3_
     have HB := n4_
     clear n0_ n1_ n2_ n3_ n4_
     (try clear hb)
     (try clear hb2)
     (try clear hk)
     (try clear hi)
     refine hK.out _ _ ⟨bq_ B147 0, bq_ B147 1, bq_ B147 2, bq_ B141 0, bq_ B141 1, bq_ B141 2, bq_ B141 3⟩ (fun hL => ?_)
     clear hK K
     refine norm_ (a' := ?_) ?_ ?_
     rotate_left
     ·show Act.put _ (some 28) _ = _
      simp only [Act.put, sa_, sb_, sc_, i64_w, i32_w]
      rfl
     refine one_ (i := 11) (N := some 29) z14_20_ rfl rfl (one_of T_.out (by kernel_rfl)) (by decide) (fun K hK => ?_)
     refine goes_ Tryd.func36 (by kernel_rfl) rfl #[.agg #[.int .u64 t144, .int .u64 t145, .bool t146], .int .u64 t148, .agg #[.int .u64 t149, .int .u64 t150, .int .u64 t151, .int .u64 t152]] (by rfl) rfl rfl (by (try simp only [List.map_toArray, List.map_cons, List.map_nil]); first | done | rfl) ?_
     with_reducible refine (sponge_mixer_round.calls t144 t145 t146 t148 t149 t150 t151 t152 t153 t154 t155 t156 t157 _ A9.out).mono ?_
     rintro e w22 ⟨rfl, hb⟩
     refine ⟨_, rfl, ?_⟩
     have n0_ := Aside0.mk (blk_below (g := g141) (o := .cells #[.int .u64 a2_0, .int .u64 a2_1, .int .u64 a2_2, .int .u64 a2_3] 23 (0, 0)) (by (with_reducible repeat first | refine blk_drewN ?_ _ | refine blk_drew ?_ | refine blk_alloc ?_ _); exact B141.out) hb)
     have n1_ := Aside0.mk (blk_below (g := g142) (o := .cells #[.int .u64 0, .int .u64 0, .int .u64 0, .int .u64 0] 23 (0, 0)) (by (with_reducible repeat first | refine blk_drewN ?_ _ | refine blk_drew ?_ | refine blk_alloc ?_ _); exact B142.out) hb)
     have n2_ := Aside0.mk (blk_below (g := g147) (o := .cells #[.int .u64 t144, .int .u64 t145, .bool t146] 45 (0, 0)) (by (with_reducible repeat first | refine blk_drewN ?_ _ | refine blk_drew ?_ | refine blk_alloc ?_ _); exact B147.out) hb)
     have n3_ := Aside0.mk (blk_below (g := g158) (o := .cells #[.int .u64 0, .int .u64 0, .int .u64 0, .int .u64 0] 23 (0, 0)) (by (with_reducible repeat first | refine blk_drewN ?_ _ | refine blk_drew ?_ | refine blk_alloc ?_ _); exact B158.out) hb)
     have n4_ := Aside0.mk (below_step (by repeat (first | (with_reducible first | exact HB.out | apply below_alloc | apply pw_below_drewN | apply below_drew1 | refine below_set ?_ GE141.out | refine below_set ?_ GE142.out | refine below_set ?_ GE147.out | refine below_set ?_ GE158.out) | exact HB.out)) hb)
     clear B141
     clear B142
     clear B147
     clear B158
     clear HB
     have B141 := n0_
     have B142 := n1_
     have B147 := n2_
     have B158 := n3_
     have HB := n4_
     clear n0_ n1_ n2_ n3_ n4_
     (try clear hb)
     (try clear hb2)
     (try clear hk)
     (try clear hi)
     refine hK.out _ _ ⟨bq_ B147 0, bq_ B147 1, bq_ B147 2, bq_ B141 0, bq_ B141 1, bq_ B141 2, bq_ B141 3⟩ (fun hL => ?_)
     clear hK K
     refine norm_ (a' := ?_) ?_ ?_
     rotate_left
     ·show Act.put _ (some 29) _ = _
      simp only [Act.put, sa_, sb_, sc_, i64_w, i32_w]
      rfl
     refine pure_ (i := 12) (N := some 17) (v := ?_) (a' := ?_) z14_21_ rfl rfl (any_of T_.out (by kernel_rfl)) (fun _ _ _ h => h) (Or.inl ⟨by rfl, ?_⟩) ?_ ?_
     rotate_left; · intro w'; go_simp; with_reducible rfl
     rotate_left; · simp only [Act.put, sa_, sb_, sc_, i64_w, i32_w]; rfl
     refine pure_ (i := 13) (N := some 30) (v := ?_) (a' := ?_) z14_22_ rfl rfl (any_of T_.out (by kernel_rfl)) (fun _ _ _ h => h) (Or.inl ⟨by rfl, ?_⟩) ?_ ?_
     rotate_left; · intro w'; go_simp; with_reducible rfl
     rotate_left; · simp only [Act.put, sa_, sb_, sc_, i64_w, i32_w]; rfl
     refine pure_ (i := 14) (N := some 31) (v := ?_) (a' := ?_) z14_10_ rfl rfl (any_of T_.out (by kernel_rfl)) (fun _ _ _ h => h) (Or.inl ⟨by rfl, ?_⟩) ?_ ?_
     rotate_left; · intro w'; go_simp; with_reducible rfl
     rotate_left; · simp only [Act.put, sa_, sb_, sc_, i64_w, i32_w]; rfl
     exact norm_ (by simp only [putAll, Act.put, List.setIfInBounds_toArray, List.set_cons_zero, List.set_cons_succ]) (hCont (g158) _ ⟨hL, (by (with_reducible repeat first | refine blk_drewN ?_ _ | refine blk_drew ?_ | refine blk_alloc ?_ _); exact B141.out), (by (with_reducible repeat first | refine blk_drewN ?_ _ | refine blk_drew ?_ | refine blk_alloc ?_ _); exact B142.out), (by (with_reducible repeat first | refine blk_drewN ?_ _ | refine blk_drew ?_ | refine blk_alloc ?_ _); exact B147.out), (by (with_reducible repeat first | refine blk_drewN ?_ _ | refine blk_drew ?_ | refine blk_alloc ?_ _); exact B158.out), GW158.out, GE158.out, NB141_158.out, NB158_141.out, NB142_158.out, NB158_142.out, NB147_158.out, NB158_147.out, (by repeat (first | (with_reducible first | exact HB.out | apply below_alloc | apply pw_below_drewN | apply below_drew1 | refine below_set ?_ GE141.out | refine below_set ?_ GE142.out | refine below_set ?_ GE147.out | refine below_set ?_ GE158.out) | exact HB.out))⟩)
   ·skip
    refine box_step ?hg (N := 9) ?hd (cs := #[.int .u64 0, .int .u64 0, .int .u64 0, .int .u64 0]) (t := 23) ?hr ?_; (case hd => rfl); (case hg => rfl); (case hr => first | (go_simp; done) | (go_simp; rfl))
    intro g158 hg w19 hbox hb
    have n0_ := Aside0.mk (blk_below (g := g141) (o := .cells #[.int .u64 a2_0, .int .u64 a2_1, .int .u64 a2_2, .int .u64 a2_3] 23 (0, 0)) (by (with_reducible repeat first | refine blk_drewN ?_ _ | refine blk_drew ?_ | refine blk_alloc ?_ _); exact B141.out) hb)
    have n1_ := Aside0.mk (blk_below (g := g142) (o := .cells #[.int .u64 0, .int .u64 0, .int .u64 0, .int .u64 0] 23 (0, 0)) (by (with_reducible repeat first | refine blk_drewN ?_ _ | refine blk_drew ?_ | refine blk_alloc ?_ _); exact B142.out) hb)
    have n2_ := Aside0.mk (blk_below (g := g147) (o := .cells #[.int .u64 t144, .int .u64 t145, .bool t146] 45 (0, 0)) (by (with_reducible repeat first | refine blk_drewN ?_ _ | refine blk_drew ?_ | refine blk_alloc ?_ _); exact B147.out) hb)
    have n3_ := Aside0.mk (below_step (by repeat (first | (with_reducible first | exact HB.out | apply below_alloc | apply pw_below_drewN | apply below_drew1 | refine below_set ?_ GE141.out | refine below_set ?_ GE142.out | refine below_set ?_ GE147.out) | exact HB.out)) hb)
    have n4_ := Aside0.mk (hbox)
    have n5_ := Aside0.mk ((by rw [hg]; exact (below_size (by repeat (first | (with_reducible first | exact HB.out | apply below_alloc | apply pw_below_drewN | apply below_drew1 | refine below_set ?_ GE141.out | refine below_set ?_ GE142.out | refine below_set ?_ GE147.out) | exact HB.out))) : w.heap.size ≤ g158))
    have n6_ := Aside0.mk ((by rw [hg]; exact (below_size (by repeat (first | (with_reducible first | exact HB.out | apply below_alloc | apply pw_below_drewN | apply below_drew1 | refine below_set ?_ GE141.out | refine below_set ?_ GE142.out | refine below_set ?_ GE147.out) | exact HB.out))) : w.heap.size ≤ g158))
    have n7_ := Aside0.mk ((by rw [hg]; exact Nat.ne_of_lt (blk_lt (g := g141) (o := .cells #[.int .u64 a2_0, .int .u64 a2_1, .int .u64 a2_2, .int .u64 a2_3] 23 (0, 0)) (by (with_reducible repeat first | refine blk_drewN ?_ _ | refine blk_drew ?_ | refine blk_alloc ?_ _); exact B141.out)) : g141 ≠ g158))
    have n8_ := Aside0.mk ((by rw [hg]; exact Nat.ne_of_gt (blk_lt (g := g141) (o := .cells #[.int .u64 a2_0, .int .u64 a2_1, .int .u64 a2_2, .int .u64 a2_3] 23 (0, 0)) (by (with_reducible repeat first | refine blk_drewN ?_ _ | refine blk_drew ?_ | refine blk_alloc ?_ _); exact B141.out)) : g158 ≠ g141))
    have n9_ := Aside0.mk ((by rw [hg]; exact Nat.ne_of_lt (blk_lt (g := g142) (o := .cells #[.int .u64 0, .int .u64 0, .int .u64 0, .int .u64 0] 23 (0, 0)) (by (with_reducible repeat first | refine blk_drewN ?_ _ | refine blk_drew ?_ | refine blk_alloc ?_ _); exact B142.out)) : g142 ≠ g158))
    have n10_ := Aside0.mk ((by rw [hg]; exact Nat.ne_of_gt (blk_lt (g := g142) (o := .cells #[.int .u64 0, .int .u64 0, .int .u64 0, .int .u64 0] 23 (0, 0)) (by (with_reducible repeat first | refine blk_drewN ?_ _ | refine blk_drew ?_ | refine blk_alloc ?_ _); exact B142.out)) : g158 ≠ g142))
    have n11_ := Aside0.mk ((by rw [hg]; exact Nat.ne_of_lt (blk_lt (g := g147) (o := .cells #[.int .u64 t144, .int .u64 t145, .bool t146] 45 (0, 0)) (by (with_reducible repeat first | refine blk_drewN ?_ _ | refine blk_drew ?_ | refine blk_alloc ?_ _); exact B147.out)) : g147 ≠ g158))
    have n12_ := Aside0.mk ((by rw [hg]; exact Nat.ne_of_gt (blk_lt (g := g147) (o := .cells #[.int .u64 t144, .int .u64 t145, .bool t146] 45 (0, 0)) (by (with_reducible repeat first | refine blk_drewN ?_ _ | refine blk_drew ?_ | refine blk_alloc ?_ _); exact B147.out)) : g158 ≠ g147))
    clear B141
    clear B142
    clear B147
    clear HB
    have B141 := n0_
    have B142 := n1_
    have B147 := n2_
    have HB := n3_
    have B158 := n4_
    have GW158 := n5_
    have GE158 := n6_
    have NB141_158 := n7_
    have NB158_141 := n8_
    have NB142_158 := n9_
    have NB158_142 := n10_
    have NB147_158 := n11_
    have NB158_147 := n12_
    clear n0_ n1_ n2_ n3_ n4_ n5_ n6_ n7_ n8_ n9_ n10_ n11_ n12_
    clear hb hbox hg
    refine hK.out _ _ ⟨bq_ B147 0, bq_ B147 1, bq_ B147 2, bq_ B141 0, bq_ B141 1, bq_ B141 2, bq_ B141 3⟩ (fun hL => ?_)
    clear hK K
    refine norm_ (a' := ?_) ?_ ?_
    rotate_left
    ·show Act.put _ (some 9) _ = _
     simp only [Act.put, sa_, sb_, sc_, i64_w, i32_w]
     rfl
    refine one_ (i := 7) (N := some 25) z14_14_ rfl rfl (one_of T_.out (by kernel_rfl)) (by decide) (fun K hK => ?_)
    refine goes_ Tryd.func29 (by kernel_rfl) rfl #[.int .i64 a0, .int .u64 t145, .int .u64 (IntKind.u64.wrap (wrap64 (4 * a1)))] (by rfl) rfl rfl (by (try simp only [List.map_toArray, List.map_cons, List.map_nil]); first | done | rfl) ?_
    with_reducible refine (field_Pow.calls k a0 t145 (IntKind.u64.wrap (wrap64 (4 * a1))) t148 _ ?side1 A7.out).mono ?_
    (case side1 => repeat (first | exact (GL.below HRG.out HB.out) | (with_reducible refine GL.alloc ?_ _) | (with_reducible refine GL.drewN ?_ _) | (with_reducible refine GL.drew ?_)))
    rintro e w20 ⟨rfl, hb⟩
    refine ⟨_, rfl, ?_⟩
    have n0_ := Aside0.mk (blk_below (g := g141) (o := .cells #[.int .u64 a2_0, .int .u64 a2_1, .int .u64 a2_2, .int .u64 a2_3] 23 (0, 0)) (by (with_reducible repeat first | refine blk_drewN ?_ _ | refine blk_drew ?_ | refine blk_alloc ?_ _); exact B141.out) hb)
    have n1_ := Aside0.mk (blk_below (g := g142) (o := .cells #[.int .u64 0, .int .u64 0, .int .u64 0, .int .u64 0] 23 (0, 0)) (by (with_reducible repeat first | refine blk_drewN ?_ _ | refine blk_drew ?_ | refine blk_alloc ?_ _); exact B142.out) hb)
    have n2_ := Aside0.mk (blk_below (g := g147) (o := .cells #[.int .u64 t144, .int .u64 t145, .bool t146] 45 (0, 0)) (by (with_reducible repeat first | refine blk_drewN ?_ _ | refine blk_drew ?_ | refine blk_alloc ?_ _); exact B147.out) hb)
    have n3_ := Aside0.mk (blk_below (g := g158) (o := .cells #[.int .u64 0, .int .u64 0, .int .u64 0, .int .u64 0] 23 (0, 0)) (by (with_reducible repeat first | refine blk_drewN ?_ _ | refine blk_drew ?_ | refine blk_alloc ?_ _); exact B158.out) hb)
    have n4_ := Aside0.mk (below_step (by repeat (first | (with_reducible first | exact HB.out | apply below_alloc | apply pw_below_drewN | apply below_drew1 | refine below_set ?_ GE141.out | refine below_set ?_ GE142.out | refine below_set ?_ GE147.out | refine below_set ?_ GE158.out) | exact HB.out)) hb)
    clear B141
    clear B142
    clear B147
    clear B158
    clear HB
    have B141 := n0_
    have B142 := n1_
    have B147 := n2_
    have B158 := n3_
    have HB := n4_
    clear n0_ n1_ n2_ n3_ n4_
    (try clear hb)
    (try clear hb2)
    (try clear hk)
    (try clear hi)
    refine hK.out _ _ ⟨bq_ B147 0, bq_ B147 1, bq_ B147 2, bq_ B141 0, bq_ B141 1, bq_ B141 2, bq_ B141 3⟩ (fun hL => ?_)
    clear hK K
    refine norm_ (a' := ?_) ?_ ?_
    rotate_left
    ·show Act.put _ (some 25) _ = _
     simp only [Act.put, sa_, sb_, sc_, i64_w, i32_w]
     rfl
    refine one_ (i := 10) (N := some 28) z14_16_ rfl rfl (one_of T_.out (by kernel_rfl)) (by decide) (fun K hK => ?_)
    refine goes_ Tryd.func37 (by kernel_rfl) rfl #[.agg #[.int .u64 t144, .int .u64 t145, .bool t146], .agg #[.int .u64 a2_0, .int .u64 a2_1, .int .u64 a2_2, .int .u64 a2_3]] (by rfl) rfl rfl (by (try simp only [List.map_toArray, List.map_cons, List.map_nil]); first | done | rfl) ?_
    with_reducible refine (sponge_mixer_reduced.calls t144 t145 t146 a2_0 a2_1 a2_2 a2_3 t149 t150 t151 t152 _ A8.out).mono ?_
    rintro e w21 ⟨rfl, hb⟩
    refine ⟨_, rfl, ?_⟩
    have n0_ := Aside0.mk (blk_below (g := g141) (o := .cells #[.int .u64 a2_0, .int .u64 a2_1, .int .u64 a2_2, .int .u64 a2_3] 23 (0, 0)) (by (with_reducible repeat first | refine blk_drewN ?_ _ | refine blk_drew ?_ | refine blk_alloc ?_ _); exact B141.out) hb)
    have n1_ := Aside0.mk (blk_below (g := g142) (o := .cells #[.int .u64 0, .int .u64 0, .int .u64 0, .int .u64 0] 23 (0, 0)) (by (with_reducible repeat first | refine blk_drewN ?_ _ | refine blk_drew ?_ | refine blk_alloc ?_ _); exact B142.out) hb)
    have n2_ := Aside0.mk (blk_below (g := g147) (o := .cells #[.int .u64 t144, .int .u64 t145, .bool t146] 45 (0, 0)) (by (with_reducible repeat first | refine blk_drewN ?_ _ | refine blk_drew ?_ | refine blk_alloc ?_ _); exact B147.out) hb)
    have n3_ := Aside0.mk (blk_below (g := g158) (o := .cells #[.int .u64 0, .int .u64 0, .int .u64 0, .int .u64 0] 23 (0, 0)) (by (with_reducible repeat first | refine blk_drewN ?_ _ | refine blk_drew ?_ | refine blk_alloc ?_ _); exact B158.out) hb)
    have n4_ := Aside0.mk (below_step (by repeat (first | (with_reducible first | exact HB.out | apply below_alloc | apply pw_below_drewN | apply below_drew1 | refine below_set ?_ GE141.out | refine below_set ?_ GE142.out | refine below_set ?_ GE147.out | refine below_set ?_ GE158.out) | exact HB.out)) hb)
    clear B141
    clear B142
    clear B147
    clear B158
    clear HB
    have B141 := n0_
    have B142 := n1_
    have B147 := n2_
    have B158 := n3_
    have HB := n4_
    clear n0_ n1_ n2_ n3_ n4_
    (try clear hb)
    (try clear hb2)
    (try clear hk)
    (try clear hi)
    refine hK.out _ _ ⟨bq_ B147 0, bq_ B147 1, bq_ B147 2, bq_ B141 0, bq_ B141 1, bq_ B141 2, bq_ B141 3⟩ (fun hL => ?_)
    clear hK K
    refine norm_ (a' := ?_) ?_ ?_
    rotate_left
    ·show Act.put _ (some 28) _ = _
     simp only [Act.put, sa_, sb_, sc_, i64_w, i32_w]
     rfl
    refine one_ (i := 11) (N := some 29) z14_20_ rfl rfl (one_of T_.out (by kernel_rfl)) (by decide) (fun K hK => ?_)
    refine goes_ Tryd.func36 (by kernel_rfl) rfl #[.agg #[.int .u64 t144, .int .u64 t145, .bool t146], .int .u64 t148, .agg #[.int .u64 t149, .int .u64 t150, .int .u64 t151, .int .u64 t152]] (by rfl) rfl rfl (by (try simp only [List.map_toArray, List.map_cons, List.map_nil]); first | done | rfl) ?_
    with_reducible refine (sponge_mixer_round.calls t144 t145 t146 t148 t149 t150 t151 t152 t153 t154 t155 t156 t157 _ A9.out).mono ?_
    rintro e w22 ⟨rfl, hb⟩
    refine ⟨_, rfl, ?_⟩
    have n0_ := Aside0.mk (blk_below (g := g141) (o := .cells #[.int .u64 a2_0, .int .u64 a2_1, .int .u64 a2_2, .int .u64 a2_3] 23 (0, 0)) (by (with_reducible repeat first | refine blk_drewN ?_ _ | refine blk_drew ?_ | refine blk_alloc ?_ _); exact B141.out) hb)
    have n1_ := Aside0.mk (blk_below (g := g142) (o := .cells #[.int .u64 0, .int .u64 0, .int .u64 0, .int .u64 0] 23 (0, 0)) (by (with_reducible repeat first | refine blk_drewN ?_ _ | refine blk_drew ?_ | refine blk_alloc ?_ _); exact B142.out) hb)
    have n2_ := Aside0.mk (blk_below (g := g147) (o := .cells #[.int .u64 t144, .int .u64 t145, .bool t146] 45 (0, 0)) (by (with_reducible repeat first | refine blk_drewN ?_ _ | refine blk_drew ?_ | refine blk_alloc ?_ _); exact B147.out) hb)
    have n3_ := Aside0.mk (blk_below (g := g158) (o := .cells #[.int .u64 0, .int .u64 0, .int .u64 0, .int .u64 0] 23 (0, 0)) (by (with_reducible repeat first | refine blk_drewN ?_ _ | refine blk_drew ?_ | refine blk_alloc ?_ _); exact B158.out) hb)
    have n4_ := Aside0.mk (below_step (by repeat (first | (with_reducible first | exact HB.out | apply below_alloc | apply pw_below_drewN | apply below_drew1 | refine below_set ?_ GE141.out | refine below_set ?_ GE142.out | refine below_set ?_ GE147.out | refine below_set ?_ GE158.out) | exact HB.out)) hb)
    clear B141
    clear B142
    clear B147
    clear B158
    clear HB
    have B141 := n0_
    have B142 := n1_
    have B147 := n2_
    have B158 := n3_
    have HB := n4_
    clear n0_ n1_ n2_ n3_ n4_
    (try clear hb)
    (try clear hb2)
    (try clear hk)
    (try clear hi)
    refine hK.out _ _ ⟨bq_ B147 0, bq_ B147 1, bq_ B147 2, bq_ B141 0, bq_ B141 1, bq_ B141 2, bq_ B141 3⟩ (fun hL => ?_)
    clear hK K
    refine norm_ (a' := ?_) ?_ ?_
    rotate_left
    ·show Act.put _ (some 29) _ = _
     simp only [Act.put, sa_, sb_, sc_, i64_w, i32_w]
     rfl
    refine pure_ (i := 12) (N := some 17) (v := ?_) (a' := ?_) z14_21_ rfl rfl (any_of T_.out (by kernel_rfl)) (fun _ _ _ h => h) (Or.inl ⟨by rfl, ?_⟩) ?_ ?_
    rotate_left; · intro w'; go_simp; with_reducible rfl
    rotate_left; · simp only [Act.put, sa_, sb_, sc_, i64_w, i32_w]; rfl
    refine pure_ (i := 13) (N := some 30) (v := ?_) (a' := ?_) z14_22_ rfl rfl (any_of T_.out (by kernel_rfl)) (fun _ _ _ h => h) (Or.inl ⟨by rfl, ?_⟩) ?_ ?_
    rotate_left; · intro w'; go_simp; with_reducible rfl
    rotate_left; · simp only [Act.put, sa_, sb_, sc_, i64_w, i32_w]; rfl
    refine pure_ (i := 14) (N := some 31) (v := ?_) (a' := ?_) z14_10_ rfl rfl (any_of T_.out (by kernel_rfl)) (fun _ _ _ h => h) (Or.inl ⟨by rfl, ?_⟩) ?_ ?_
    rotate_left; · intro w'; go_simp; with_reducible rfl
    rotate_left; · simp only [Act.put, sa_, sb_, sc_, i64_w, i32_w]; rfl
    exact norm_ (by simp only [putAll, Act.put, List.setIfInBounds_toArray, List.set_cons_zero, List.set_cons_succ]) (hCont (g158) _ ⟨hL, (by (with_reducible repeat first | refine blk_drewN ?_ _ | refine blk_drew ?_ | refine blk_alloc ?_ _); exact B141.out), (by (with_reducible repeat first | refine blk_drewN ?_ _ | refine blk_drew ?_ | refine blk_alloc ?_ _); exact B142.out), (by (with_reducible repeat first | refine blk_drewN ?_ _ | refine blk_drew ?_ | refine blk_alloc ?_ _); exact B147.out), (by (with_reducible repeat first | refine blk_drewN ?_ _ | refine blk_drew ?_ | refine blk_alloc ?_ _); exact B158.out), GW158.out, GE158.out, NB141_158.out, NB158_141.out, NB142_158.out, NB158_142.out, NB147_158.out, NB158_147.out, (by repeat (first | (with_reducible first | exact HB.out | apply below_alloc | apply pw_below_drewN | apply below_drew1 | refine below_set ?_ GE141.out | refine below_set ?_ GE142.out | refine below_set ?_ GE147.out | refine below_set ?_ GE158.out) | exact HB.out))⟩)
  rintro g158 w23 ⟨hS_, h0_, h1_, h2_, h3_, h4_, h5_, h6_, h7_, h8_, h9_, h10_, h11_, h12_⟩
  have n0_ : Aside0 (w23.heap[g141]? = some (.cells #[.int .u64 a2_0, .int .u64 a2_1, .int .u64 a2_2, .int .u64 a2_3] 23 (0, 0))) := ⟨h0_⟩
  have n1_ : Aside0 (w23.heap[g142]? = some (.cells #[.int .u64 0, .int .u64 0, .int .u64 0, .int .u64 0] 23 (0, 0))) := ⟨h1_⟩
  have n2_ : Aside0 (w23.heap[g147]? = some (.cells #[.int .u64 t144, .int .u64 t145, .bool t146] 45 (0, 0))) := ⟨h2_⟩
  have n3_ : Aside0 (w23.heap[g158]? = some (.cells #[.int .u64 0, .int .u64 0, .int .u64 0, .int .u64 0] 23 (0, 0))) := ⟨h3_⟩
  have n4_ : Aside0 (w.heap.size ≤ g158) := ⟨h4_⟩
  have n5_ : Aside0 (w.heap.size ≤ g158) := ⟨h5_⟩
  have n6_ : Aside0 (g141 ≠ g158) := ⟨h6_⟩
  have n7_ : Aside0 (g158 ≠ g141) := ⟨h7_⟩
  have n8_ : Aside0 (g142 ≠ g158) := ⟨h8_⟩
  have n9_ : Aside0 (g158 ≠ g142) := ⟨h9_⟩
  have n10_ : Aside0 (g147 ≠ g158) := ⟨h10_⟩
  have n11_ : Aside0 (g158 ≠ g147) := ⟨h11_⟩
  have n12_ : Aside0 (Below w.heap.size w w23) := ⟨h12_⟩
  clear B141
  clear B142
  clear B147
  clear HB
  clear h0_ h1_ h2_ h3_ h4_ h5_ h6_ h7_ h8_ h9_ h10_ h11_ h12_
  have B141 := n0_
  have B142 := n1_
  have B147 := n2_
  have B158 := n3_
  have GW158 := n4_
  have GE158 := n5_
  have NB141_158 := n6_
  have NB158_141 := n7_
  have NB142_158 := n8_
  have NB158_142 := n9_
  have NB147_158 := n10_
  have NB158_147 := n11_
  have HB := n12_
  clear n0_ n1_ n2_ n3_ n4_ n5_ n6_ n7_ n8_ n9_ n10_ n11_ n12_
  have hL : w23.cell? ⟨g147, 0, none⟩ = some (.int .u64 t144) ∧ w23.cell? ⟨g147, 1, none⟩ = some (.int .u64 t145) ∧ w23.cell? ⟨g147, 2, none⟩ = some (.bool t146) ∧ w23.cell? ⟨g141, 0, none⟩ = some (.int .u64 a2_0) ∧ w23.cell? ⟨g141, 1, none⟩ = some (.int .u64 a2_1) ∧ w23.cell? ⟨g141, 2, none⟩ = some (.int .u64 a2_2) ∧ w23.cell? ⟨g141, 3, none⟩ = some (.int .u64 a2_3) := hS_
  refine norm_ (a' := ?_) ?_ ?_
  rotate_left
  ·simp only [putAll, Act.put, List.setIfInBounds_toArray, List.set_cons_zero, List.set_cons_succ]
   rfl
  refine pure_ (i := 16) (N := some 8) (v := ?_) (a' := ?_) z14_23_ rfl rfl (any_of T_.out (by kernel_rfl)) (fun _ _ _ h => h) (Or.inl ⟨by rfl, ?_⟩) ?_ ?_
  rotate_left; · intro w'; go_simp; with_reducible rfl
  rotate_left; · simp only [Act.put, sa_, sb_, sc_, i64_w, i32_w]; rfl
  refine one_ (i := 17) (N := none) z14_24_ rfl rfl (one_of T_.out (by kernel_rfl)) (by decide) (fun K hK => ?_)
  have hs24 : w23.cell? ⟨g158, 0, none⟩ = some (.int .u64 0) := bq_ B158 0
  have hfs24 := blk_frozen B158.out 0
  have hns24_0 := NB141_158.out
  have hns24_1 := NB142_158.out
  have hns24_2 := NB147_158.out
  have hms24_0 := NB158_141.out
  have hms24_1 := NB158_142.out
  have hms24_2 := NB158_147.out
  have hs25 : w23.cell? ⟨g158, 1, none⟩ = some (.int .u64 0) := bq_ B158 1
  have hfs25 := blk_frozen B158.out 1
  have hns25_0 := NB141_158.out
  have hns25_1 := NB142_158.out
  have hns25_2 := NB147_158.out
  have hms25_0 := NB158_141.out
  have hms25_1 := NB158_142.out
  have hms25_2 := NB158_147.out
  have hs26 : w23.cell? ⟨g158, 2, none⟩ = some (.int .u64 0) := bq_ B158 2
  have hfs26 := blk_frozen B158.out 2
  have hns26_0 := NB141_158.out
  have hns26_1 := NB142_158.out
  have hns26_2 := NB147_158.out
  have hms26_0 := NB158_141.out
  have hms26_1 := NB158_142.out
  have hms26_2 := NB158_147.out
  have hs27 : w23.cell? ⟨g158, 3, none⟩ = some (.int .u64 0) := bq_ B158 3
  have hfs27 := blk_frozen B158.out 3
  have hns27_0 := NB141_158.out
  have hns27_1 := NB142_158.out
  have hns27_2 := NB147_158.out
  have hms27_0 := NB158_141.out
  have hms27_1 := NB158_142.out
  have hms27_2 := NB158_147.out
  refine skip_ (w1 := ?_) (by rfl) rfl ?_ ?_
  rotate_left
  ·go_simp
   rfl
  refine hK.out _ _ ⟨((cell_far (p := ⟨g158, _, none⟩) NB147_158.out _).trans (((cell_far (p := ⟨g158, _, none⟩) NB147_158.out _).trans (((cell_far (p := ⟨g158, _, none⟩) NB147_158.out _).trans (((cell_far (p := ⟨g158, _, none⟩) NB147_158.out _).trans (hL.1)))))))), ((cell_far (p := ⟨g158, _, none⟩) NB147_158.out _).trans (((cell_far (p := ⟨g158, _, none⟩) NB147_158.out _).trans (((cell_far (p := ⟨g158, _, none⟩) NB147_158.out _).trans (((cell_far (p := ⟨g158, _, none⟩) NB147_158.out _).trans (hL.2.1)))))))), ((cell_far (p := ⟨g158, _, none⟩) NB147_158.out _).trans (((cell_far (p := ⟨g158, _, none⟩) NB147_158.out _).trans (((cell_far (p := ⟨g158, _, none⟩) NB147_158.out _).trans (((cell_far (p := ⟨g158, _, none⟩) NB147_158.out _).trans (hL.2.2.1)))))))), ((cell_far (p := ⟨g158, _, none⟩) NB141_158.out _).trans (((cell_far (p := ⟨g158, _, none⟩) NB141_158.out _).trans (((cell_far (p := ⟨g158, _, none⟩) NB141_158.out _).trans (((cell_far (p := ⟨g158, _, none⟩) NB141_158.out _).trans (hL.2.2.2.1)))))))), ((cell_far (p := ⟨g158, _, none⟩) NB141_158.out _).trans (((cell_far (p := ⟨g158, _, none⟩) NB141_158.out _).trans (((cell_far (p := ⟨g158, _, none⟩) NB141_158.out _).trans (((cell_far (p := ⟨g158, _, none⟩) NB141_158.out _).trans (hL.2.2.2.2.1)))))))), ((cell_far (p := ⟨g158, _, none⟩) NB141_158.out _).trans (((cell_far (p := ⟨g158, _, none⟩) NB141_158.out _).trans (((cell_far (p := ⟨g158, _, none⟩) NB141_158.out _).trans (((cell_far (p := ⟨g158, _, none⟩) NB141_158.out _).trans (hL.2.2.2.2.2.1)))))))), ((cell_far (p := ⟨g158, _, none⟩) NB141_158.out _).trans (((cell_far (p := ⟨g158, _, none⟩) NB141_158.out _).trans (((cell_far (p := ⟨g158, _, none⟩) NB141_158.out _).trans (((cell_far (p := ⟨g158, _, none⟩) NB141_158.out _).trans (hL.2.2.2.2.2.2))))))))⟩ (fun hL => ?_)
  clear hK K
  refine done_ (done_of T_.out (by kernel_rfl)) ?_
  have hnb28 := NB158_141.out
  have hnc28 := NB141_158.out
  have hnb29 := NB158_142.out
  have hnc29 := NB142_158.out
  have hnb30 := NB158_147.out
  have hnc30 := NB147_158.out
  have hcz31_0 : w23.cell? ⟨g158, 0, none⟩ = some (.int .u64 0) := bq_ B158 0
  have hcz31_1 : w23.cell? ⟨g158, 1, none⟩ = some (.int .u64 0) := bq_ B158 1
  have hcz31_2 : w23.cell? ⟨g158, 2, none⟩ = some (.int .u64 0) := bq_ B158 2
  have hcz31_3 : w23.cell? ⟨g158, 3, none⟩ = some (.int .u64 0) := bq_ B158 3
  have hfz31_0 := blk_frozen B158.out 0
  have hfz31_1 := blk_frozen B158.out 1
  have hfz31_2 := blk_frozen B158.out 2
  have hfz31_3 := blk_frozen B158.out 3
  have hnb32 := NB142_141.out
  have hnc32 := NB141_142.out
  have hcz33_0 : w23.cell? ⟨g142, 0, none⟩ = some (.int .u64 0) := bq_ B142 0
  have hcz33_1 : w23.cell? ⟨g142, 1, none⟩ = some (.int .u64 0) := bq_ B142 1
  have hcz33_2 : w23.cell? ⟨g142, 2, none⟩ = some (.int .u64 0) := bq_ B142 2
  have hcz33_3 : w23.cell? ⟨g142, 3, none⟩ = some (.int .u64 0) := bq_ B142 3
  have hfz33_0 := blk_frozen B142.out 0
  have hfz33_1 := blk_frozen B142.out 1
  have hfz33_2 := blk_frozen B142.out 2
  have hfz33_3 := blk_frozen B142.out 3
  try go_wp2
  refine bodyPost_ret (results_cell_row rfl _ _ g142 23 #[.int .u64 t154, .int .u64 t155, .int .u64 t156, .int .u64 t157] (0, 0) _ rfl (by (with_reducible repeat first | refine blk_drewN ?_ _ | refine blk_drew ?_ | refine blk_alloc ?_ _); refine blk_put (cs := #[.int .u64 t154, .int .u64 t155, .int .u64 t156, .int .u64 0]) ?_ 3 _ rfl; (with_reducible repeat first | refine blk_drewN ?_ _ | refine blk_drew ?_ | refine blk_alloc ?_ _); refine blk_put (cs := #[.int .u64 t154, .int .u64 t155, .int .u64 0, .int .u64 0]) ?_ 2 _ rfl; (with_reducible repeat first | refine blk_drewN ?_ _ | refine blk_drew ?_ | refine blk_alloc ?_ _); refine blk_put (cs := #[.int .u64 t154, .int .u64 0, .int .u64 0, .int .u64 0]) ?_ 1 _ rfl; (with_reducible repeat first | refine blk_drewN ?_ _ | refine blk_drew ?_ | refine blk_alloc ?_ _); refine blk_put (cs := #[.int .u64 0, .int .u64 0, .int .u64 0, .int .u64 0]) ?_ 0 _ rfl; (with_reducible repeat first | refine blk_drewN ?_ _ | refine blk_drew ?_ | refine blk_alloc ?_ _); refine blk_far ?_ NB142_158.out _; (with_reducible repeat first | refine blk_drewN ?_ _ | refine blk_drew ?_ | refine blk_alloc ?_ _); refine blk_far ?_ NB142_158.out _; (with_reducible repeat first | refine blk_drewN ?_ _ | refine blk_drew ?_ | refine blk_alloc ?_ _); refine blk_far ?_ NB142_158.out _; (with_reducible repeat first | refine blk_drewN ?_ _ | refine blk_drew ?_ | refine blk_alloc ?_ _); refine blk_far ?_ NB142_158.out _; (with_reducible repeat first | refine blk_drewN ?_ _ | refine blk_drew ?_ | refine blk_alloc ?_ _); exact B142.out) Tryd.underlying23 rfl (by kernel_rfl)) rfl ?_
  exact ⟨by first | rfl | (simp [errW_none, errW_some] <;> rfl) | (simp [*, errW_none, errW_some] <;> rfl), by repeat (first | (with_reducible first | exact HB.out | apply below_alloc | apply pw_below_drewN | apply below_drew1 | refine below_set ?_ GE141.out | refine below_set ?_ GE142.out | refine below_set ?_ GE147.out | refine below_set ?_ GE158.out) | exact HB.out)⟩
 ·replace c5 := Bool.eq_false_iff.mpr c5
  subst c5
  have H1 : (some (0, 0, 0, 0)) = some (r1, r2, r3, r4) := by rw [if_neg (show ¬ (false = true) by decide)] at H; exact H
  clear H
  have H := H1
  clear H1
  simp only [Option.some.injEq, Prod.mk.injEq] at H
  obtain ⟨rfl, rfl, rfl, rfl⟩ := H
  go_enter Tryd.func14, Tryd.ntmps14
  go_wp2_with (first | ((with_reducible refine gate_dst (N := 5) rfl ?_); refine box_event ?hg (N := 5) ?hd (cs := #[.int .u64 a2_0, .int .u64 a2_1, .int .u64 a2_2, .int .u64 a2_3]) (t := 23) ?hr ?_; (case hd => rfl); (case hg => rfl); (case hr => first | (go_simp; done) | (go_simp; rfl)); intro g141 hg w34 hbox hb; have n0_ := Aside0.mk (below_step (by repeat (first | (with_reducible first | exact HB.out | apply below_alloc | apply pw_below_drewN | apply below_drew1) | exact HB.out)) hb); have n1_ := Aside0.mk (hbox); have n2_ := Aside0.mk ((by rw [hg]; exact (below_size (by repeat (first | (with_reducible first | exact HB.out | apply below_alloc | apply pw_below_drewN | apply below_drew1) | exact HB.out))) : w.heap.size ≤ g141)); have n3_ := Aside0.mk ((by rw [hg]; exact (below_size (by repeat (first | (with_reducible first | exact HB.out | apply below_alloc | apply pw_below_drewN | apply below_drew1) | exact HB.out))) : w.heap.size ≤ g141)); clear HB; have HB := n0_; have B141 := n1_; have GW141 := n2_; have GE141 := n3_; clear n0_ n1_ n2_ n3_; clear hb hbox hg) | ((with_reducible refine gate_dst (N := 6) rfl ?_); refine box_event ?hg (N := 6) ?hd (cs := #[.int .u64 0, .int .u64 0, .int .u64 0, .int .u64 0]) (t := 23) ?hr ?_; (case hd => rfl); (case hg => rfl); (case hr => first | (go_simp; done) | (go_simp; rfl)); intro g142 hg w35 hbox hb; have n0_ := Aside0.mk (blk_below (g := g141) (o := .cells #[.int .u64 a2_0, .int .u64 a2_1, .int .u64 a2_2, .int .u64 a2_3] 23 (0, 0)) (by (with_reducible repeat first | refine blk_drewN ?_ _ | refine blk_drew ?_ | refine blk_alloc ?_ _); exact B141.out) hb); have n1_ := Aside0.mk (below_step (by repeat (first | (with_reducible first | exact HB.out | apply below_alloc | apply pw_below_drewN | apply below_drew1 | refine below_set ?_ GE141.out) | exact HB.out)) hb); have n2_ := Aside0.mk (hbox); have n3_ := Aside0.mk ((by rw [hg]; exact (below_size (by repeat (first | (with_reducible first | exact HB.out | apply below_alloc | apply pw_below_drewN | apply below_drew1 | refine below_set ?_ GE141.out) | exact HB.out))) : w.heap.size ≤ g142)); have n4_ := Aside0.mk ((by rw [hg]; exact (below_size (by repeat (first | (with_reducible first | exact HB.out | apply below_alloc | apply pw_below_drewN | apply below_drew1 | refine below_set ?_ GE141.out) | exact HB.out))) : w.heap.size ≤ g142)); have n5_ := Aside0.mk ((by rw [hg]; exact Nat.ne_of_lt (blk_lt (g := g141) (o := .cells #[.int .u64 a2_0, .int .u64 a2_1, .int .u64 a2_2, .int .u64 a2_3] 23 (0, 0)) (by (with_reducible repeat first | refine blk_drewN ?_ _ | refine blk_drew ?_ | refine blk_alloc ?_ _); exact B141.out)) : g141 ≠ g142)); have n6_ := Aside0.mk ((by rw [hg]; exact Nat.ne_of_gt (blk_lt (g := g141) (o := .cells #[.int .u64 a2_0, .int .u64 a2_1, .int .u64 a2_2, .int .u64 a2_3] 23 (0, 0)) (by (with_reducible repeat first | refine blk_drewN ?_ _ | refine blk_drew ?_ | refine blk_alloc ?_ _); exact B141.out)) : g142 ≠ g141)); clear B141; clear HB; have B141 := n0_; have HB := n1_; have B142 := n2_; have GW142 := n3_; have GE142 := n4_; have NB141_142 := n5_; have NB142_141 := n6_; clear n0_ n1_ n2_ n3_ n4_ n5_ n6_; clear hb hbox hg) | ((with_reducible refine gate_callee (f := 28) rfl ?_); refine goesL_ (some 12) rfl rfl Tryd.func28 (by kernel_rfl) rfl #[.int .i64 a0, .int .i64 a1] rfl (by (try simp only [List.map_toArray, List.map_cons, List.map_nil]); first | done | rfl) ?_; (with_reducible refine (sponge_known.calls a0 a1 false _ A4.out).mono ?_); rintro e w' ⟨rfl, ⟨nd, rfl⟩⟩; refine ⟨_, rfl, ?_⟩; (try (rw [drewN_self w35]; generalize q_ : World.drewN w35 _ = w35; have n0_ : Aside0 (w35.heap[g141]? = some (.cells #[.int .u64 a2_0, .int .u64 a2_1, .int .u64 a2_2, .int .u64 a2_3] 23 (0, 0))) := ⟨by rw [← q_]; exact (by (with_reducible repeat first | refine blk_drewN ?_ _ | refine blk_drew ?_ | refine blk_alloc ?_ _); exact B141.out)⟩; have n1_ : Aside0 (w35.heap[g142]? = some (.cells #[.int .u64 0, .int .u64 0, .int .u64 0, .int .u64 0] 23 (0, 0))) := ⟨by rw [← q_]; exact (by (with_reducible repeat first | refine blk_drewN ?_ _ | refine blk_drew ?_ | refine blk_alloc ?_ _); exact B142.out)⟩; have n2_ : Aside0 (Below w.heap.size w w35) := ⟨by rw [← q_]; exact (by repeat (first | (with_reducible first | exact HB.out | apply below_alloc | apply pw_below_drewN | apply below_drew1 | refine below_set ?_ GE141.out | refine below_set ?_ GE142.out) | exact HB.out))⟩; clear B141 B142 HB q_; have B141 := n0_; have B142 := n1_; have HB := n2_; clear n0_ n1_ n2_)); have hnb36 := NB142_141.out; have hnc36 := NB141_142.out; have hcz37_0 : w35.cell? ⟨g142, 0, none⟩ = some (.int .u64 0) := bq_ B142 0; have hcz37_1 : w35.cell? ⟨g142, 1, none⟩ = some (.int .u64 0) := bq_ B142 1; have hcz37_2 : w35.cell? ⟨g142, 2, none⟩ = some (.int .u64 0) := bq_ B142 2; have hcz37_3 : w35.cell? ⟨g142, 3, none⟩ = some (.int .u64 0) := bq_ B142 3; have hfz37_0 := blk_frozen B142.out 0; have hfz37_1 := blk_frozen B142.out 1; have hfz37_2 := blk_frozen B142.out 2; have hfz37_3 := blk_frozen B142.out 3))
  refine bodyPost_ret (results_cell_row rfl _ _ g142 23 #[.int .u64 0, .int .u64 0, .int .u64 0, .int .u64 0] (0, 0) _ rfl (by (with_reducible repeat first | refine blk_drewN ?_ _ | refine blk_drew ?_ | refine blk_alloc ?_ _); refine blk_put (cs := #[.int .u64 0, .int .u64 0, .int .u64 0, .int .u64 0]) ?_ 3 _ rfl; (with_reducible repeat first | refine blk_drewN ?_ _ | refine blk_drew ?_ | refine blk_alloc ?_ _); refine blk_put (cs := #[.int .u64 0, .int .u64 0, .int .u64 0, .int .u64 0]) ?_ 2 _ rfl; (with_reducible repeat first | refine blk_drewN ?_ _ | refine blk_drew ?_ | refine blk_alloc ?_ _); refine blk_put (cs := #[.int .u64 0, .int .u64 0, .int .u64 0, .int .u64 0]) ?_ 1 _ rfl; (with_reducible repeat first | refine blk_drewN ?_ _ | refine blk_drew ?_ | refine blk_alloc ?_ _); refine blk_put (cs := #[.int .u64 0, .int .u64 0, .int .u64 0, .int .u64 0]) ?_ 0 _ rfl; (with_reducible repeat first | refine blk_drewN ?_ _ | refine blk_drew ?_ | refine blk_alloc ?_ _); exact B142.out) Tryd.underlying23 rfl (by kernel_rfl)) rfl ?_
  exact ⟨by first | rfl | (simp [errW_none, errW_some] <;> rfl) | (simp [*, errW_none, errW_some] <;> rfl), by repeat (first | (with_reducible first | exact HB.out | apply below_alloc | apply pw_below_drewN | apply below_drew1 | refine below_set ?_ GE141.out | refine below_set ?_ GE142.out) | exact HB.out)⟩

end Go.Proofs.YtjfekjblnoagkaaDoor.Q
end
section
namespace Go.Proofs.YtjfekjblnoagkaaDoor.Q
open Go.RowKit Go.Proofs.YtjfekjblnoagkaaDoorW.PrintWords Go.Proofs.YtjfekjblnoagkaaDoorW.PrintLast Go.Proofs.YtjfekjblnoagkaaDoorW.PrintMore
attribute [local go_sem] max2_int min2_int max_two min_two max_three min_three max_four min_four   -- for this text's walks alone
set_option linter.unusedVariables false
set_option linter.unusedSimpArgs false

/-! ### sponge_mixer_perm: function 42 -/
def sponge_mixer_perm.f (a0_0 : Int) (a0_1 : Int) (a0_2 : Bool) (a1_0 : Int) (a1_1 : Int) (a1_2 : Int) (a1_3 : Int) : Option (Int × Int × Int × Int) := (sponge_mixer_round.f a0_0 a0_1 a0_2 1 a1_0 a1_1 a1_2 a1_3).bind fun bt236 => ((sponge_mixer_round.f a0_0 a0_1 a0_2 bt236.1 bt236.2.1 bt236.2.2.1 bt236.2.2.2.1 bt236.2.2.2.2).bind fun bt241 => ((sponge_mixer_round.f a0_0 a0_1 a0_2 bt241.1 bt241.2.1 bt241.2.2.1 bt241.2.2.2.1 bt241.2.2.2.2).bind fun bt246 => ((sponge_mixer_round.f a0_0 a0_1 a0_2 bt246.1 bt246.2.1 bt246.2.2.1 bt246.2.2.2.1 bt246.2.2.2.2).bind fun bt251 => ((sponge_mixer_round.f a0_0 a0_1 a0_2 bt251.1 bt251.2.1 bt251.2.2.1 bt251.2.2.2.1 bt251.2.2.2.2).bind fun bt256 => ((sponge_mixer_round.f a0_0 a0_1 a0_2 bt256.1 bt256.2.1 bt256.2.2.1 bt256.2.2.2.1 bt256.2.2.2.2).bind fun bt261 => ((sponge_mixer_round.f a0_0 a0_1 a0_2 bt261.1 bt261.2.1 bt261.2.2.1 bt261.2.2.2.1 bt261.2.2.2.2).bind fun bt266 => ((sponge_mixer_round.f a0_0 a0_1 a0_2 bt266.1 bt266.2.1 bt266.2.2.1 bt266.2.2.2.1 bt266.2.2.2.2).bind fun bt271 => (some (bt271.2.1, bt271.2.2.1, bt271.2.2.2.1, bt271.2.2.2.2)))))))))
set_option maxHeartbeats 8000000 in
set_option maxRecDepth 100000 in
theorem sponge_mixer_perm.calls (a0_0 : Int) (a0_1 : Int) (a0_2 : Bool) (a1_0 : Int) (a1_1 : Int) (a1_2 : Int) (a1_3 : Int) (r1 : Int) (r2 : Int) (r3 : Int) (r4 : Int) (w : World) (h : sponge_mixer_perm.f a0_0 a0_1 a0_2 a1_0 a1_1 a1_2 a1_3 = some (r1, r2, r3, r4)) :
  Calls Tryd.prog 42 #[.agg #[.int .u64 a0_0, .int .u64 a0_1, .bool a0_2], .agg #[.int .u64 a1_0, .int .u64 a1_1, .int .u64 a1_2, .int .u64 a1_3]] w fun e w' => e = .returned (.agg #[.int .u64 r1, .int .u64 r2, .int .u64 r3, .int .u64 r4]) ∧ Below w.heap.size w w' := by
 have hu45 := Tryd.underlying45
 have hu23 := Tryd.underlying23
 have HB := Aside0.mk (Below.refl w.heap.size w)
 have H : ((sponge_mixer_round.f a0_0 a0_1 a0_2 1 a1_0 a1_1 a1_2 a1_3).bind fun bt236 => ((sponge_mixer_round.f a0_0 a0_1 a0_2 bt236.1 bt236.2.1 bt236.2.2.1 bt236.2.2.2.1 bt236.2.2.2.2).bind fun bt241 => ((sponge_mixer_round.f a0_0 a0_1 a0_2 bt241.1 bt241.2.1 bt241.2.2.1 bt241.2.2.2.1 bt241.2.2.2.2).bind fun bt246 => ((sponge_mixer_round.f a0_0 a0_1 a0_2 bt246.1 bt246.2.1 bt246.2.2.1 bt246.2.2.2.1 bt246.2.2.2.2).bind fun bt251 => ((sponge_mixer_round.f a0_0 a0_1 a0_2 bt251.1 bt251.2.1 bt251.2.2.1 bt251.2.2.2.1 bt251.2.2.2.2).bind fun bt256 => ((sponge_mixer_round.f a0_0 a0_1 a0_2 bt256.1 bt256.2.1 bt256.2.2.1 bt256.2.2.2.1 bt256.2.2.2.2).bind fun bt261 => ((sponge_mixer_round.f a0_0 a0_1 a0_2 bt261.1 bt261.2.1 bt261.2.2.1 bt261.2.2.2.1 bt261.2.2.2.2).bind fun bt266 => ((sponge_mixer_round.f a0_0 a0_1 a0_2 bt266.1 bt266.2.1 bt266.2.2.1 bt266.2.2.2.1 bt266.2.2.2.2).bind fun bt271 => (some (bt271.2.1, bt271.2.2.1, bt271.2.2.2.1, bt271.2.2.2.2)))))))))) = some (r1, r2, r3, r4) := h
 clear h
 have HC3 := Aside0.mk H
 clear H
 go_enter Tryd.func42, Tryd.ntmps42
 go_wp2_with (first | ((with_reducible refine gate_dst (N := 2) rfl ?_); refine box_event ?hg (N := 2) ?hd (cs := #[.int .u64 a0_0, .int .u64 a0_1, .bool a0_2]) (t := 45) ?hr ?_; (case hd => rfl); (case hg => rfl); (case hr => first | (go_simp; done) | (go_simp; rfl)); intro g233 hg w4 hbox hb; have n0_ := Aside0.mk (below_step (by repeat (first | (with_reducible first | exact HB.out | apply below_alloc | apply pw_below_drewN | apply below_drew1) | exact HB.out)) hb); have n1_ := Aside0.mk (hbox); have n2_ := Aside0.mk ((by rw [hg]; exact (below_size (by repeat (first | (with_reducible first | exact HB.out | apply below_alloc | apply pw_below_drewN | apply below_drew1) | exact HB.out))) : w.heap.size ≤ g233)); have n3_ := Aside0.mk ((by rw [hg]; exact (below_size (by repeat (first | (with_reducible first | exact HB.out | apply below_alloc | apply pw_below_drewN | apply below_drew1) | exact HB.out))) : w.heap.size ≤ g233)); clear HB; have HB := n0_; have B233 := n1_; have GW233 := n2_; have GE233 := n3_; clear n0_ n1_ n2_ n3_; clear hb hbox hg) | ((with_reducible refine gate_dst (N := 3) rfl ?_); refine box_event ?hg (N := 3) ?hd (cs := #[.int .u64 a1_0, .int .u64 a1_1, .int .u64 a1_2, .int .u64 a1_3]) (t := 23) ?hr ?_; (case hd => rfl); (case hg => rfl); (case hr => first | (go_simp; done) | (go_simp; rfl)); intro g234 hg w5 hbox hb; have n0_ := Aside0.mk (blk_below (g := g233) (o := .cells #[.int .u64 a0_0, .int .u64 a0_1, .bool a0_2] 45 (0, 0)) (by (with_reducible repeat first | refine blk_drewN ?_ _ | refine blk_drew ?_ | refine blk_alloc ?_ _); exact B233.out) hb); have n1_ := Aside0.mk (below_step (by repeat (first | (with_reducible first | exact HB.out | apply below_alloc | apply pw_below_drewN | apply below_drew1 | refine below_set ?_ GE233.out) | exact HB.out)) hb); have n2_ := Aside0.mk (hbox); have n3_ := Aside0.mk ((by rw [hg]; exact (below_size (by repeat (first | (with_reducible first | exact HB.out | apply below_alloc | apply pw_below_drewN | apply below_drew1 | refine below_set ?_ GE233.out) | exact HB.out))) : w.heap.size ≤ g234)); have n4_ := Aside0.mk ((by rw [hg]; exact (below_size (by repeat (first | (with_reducible first | exact HB.out | apply below_alloc | apply pw_below_drewN | apply below_drew1 | refine below_set ?_ GE233.out) | exact HB.out))) : w.heap.size ≤ g234)); have n5_ := Aside0.mk ((by rw [hg]; exact Nat.ne_of_lt (blk_lt (g := g233) (o := .cells #[.int .u64 a0_0, .int .u64 a0_1, .bool a0_2] 45 (0, 0)) (by (with_reducible repeat first | refine blk_drewN ?_ _ | refine blk_drew ?_ | refine blk_alloc ?_ _); exact B233.out)) : g233 ≠ g234)); have n6_ := Aside0.mk ((by rw [hg]; exact Nat.ne_of_gt (blk_lt (g := g233) (o := .cells #[.int .u64 a0_0, .int .u64 a0_1, .bool a0_2] 45 (0, 0)) (by (with_reducible repeat first | refine blk_drewN ?_ _ | refine blk_drew ?_ | refine blk_alloc ?_ _); exact B233.out)) : g234 ≠ g233)); clear B233; clear HB; have B233 := n0_; have HB := n1_; have B234 := n2_; have GW234 := n3_; have GE234 := n4_; have NB233_234 := n5_; have NB234_233 := n6_; clear n0_ n1_ n2_ n3_ n4_ n5_ n6_; clear hb hbox hg) | ((with_reducible refine gate_dst (N := 4) rfl ?_); refine box_event ?hg (N := 4) ?hd (cs := #[.int .u64 0, .int .u64 0, .int .u64 0, .int .u64 0]) (t := 23) ?hr ?_; (case hd => rfl); (case hg => rfl); (case hr => first | (go_simp; done) | (go_simp; rfl)); intro g235 hg w6 hbox hb; have n0_ := Aside0.mk (blk_below (g := g233) (o := .cells #[.int .u64 a0_0, .int .u64 a0_1, .bool a0_2] 45 (0, 0)) (by (with_reducible repeat first | refine blk_drewN ?_ _ | refine blk_drew ?_ | refine blk_alloc ?_ _); exact B233.out) hb); have n1_ := Aside0.mk (blk_below (g := g234) (o := .cells #[.int .u64 a1_0, .int .u64 a1_1, .int .u64 a1_2, .int .u64 a1_3] 23 (0, 0)) (by (with_reducible repeat first | refine blk_drewN ?_ _ | refine blk_drew ?_ | refine blk_alloc ?_ _); exact B234.out) hb); have n2_ := Aside0.mk (below_step (by repeat (first | (with_reducible first | exact HB.out | apply below_alloc | apply pw_below_drewN | apply below_drew1 | refine below_set ?_ GE233.out | refine below_set ?_ GE234.out) | exact HB.out)) hb); have n3_ := Aside0.mk (hbox); have n4_ := Aside0.mk ((by rw [hg]; exact (below_size (by repeat (first | (with_reducible first | exact HB.out | apply below_alloc | apply pw_below_drewN | apply below_drew1 | refine below_set ?_ GE233.out | refine below_set ?_ GE234.out) | exact HB.out))) : w.heap.size ≤ g235)); have n5_ := Aside0.mk ((by rw [hg]; exact (below_size (by repeat (first | (with_reducible first | exact HB.out | apply below_alloc | apply pw_below_drewN | apply below_drew1 | refine below_set ?_ GE233.out | refine below_set ?_ GE234.out) | exact HB.out))) : w.heap.size ≤ g235)); have n6_ := Aside0.mk ((by rw [hg]; exact Nat.ne_of_lt (blk_lt (g := g233) (o := .cells #[.int .u64 a0_0, .int .u64 a0_1, .bool a0_2] 45 (0, 0)) (by (with_reducible repeat first | refine blk_drewN ?_ _ | refine blk_drew ?_ | refine blk_alloc ?_ _); exact B233.out)) : g233 ≠ g235)); have n7_ := Aside0.mk ((by rw [hg]; exact Nat.ne_of_gt (blk_lt (g := g233) (o := .cells #[.int .u64 a0_0, .int .u64 a0_1, .bool a0_2] 45 (0, 0)) (by (with_reducible repeat first | refine blk_drewN ?_ _ | refine blk_drew ?_ | refine blk_alloc ?_ _); exact B233.out)) : g235 ≠ g233)); have n8_ := Aside0.mk ((by rw [hg]; exact Nat.ne_of_lt (blk_lt (g := g234) (o := .cells #[.int .u64 a1_0, .int .u64 a1_1, .int .u64 a1_2, .int .u64 a1_3] 23 (0, 0)) (by (with_reducible repeat first | refine blk_drewN ?_ _ | refine blk_drew ?_ | refine blk_alloc ?_ _); exact B234.out)) : g234 ≠ g235)); have n9_ := Aside0.mk ((by rw [hg]; exact Nat.ne_of_gt (blk_lt (g := g234) (o := .cells #[.int .u64 a1_0, .int .u64 a1_1, .int .u64 a1_2, .int .u64 a1_3] 23 (0, 0)) (by (with_reducible repeat first | refine blk_drewN ?_ _ | refine blk_drew ?_ | refine blk_alloc ?_ _); exact B234.out)) : g235 ≠ g234)); clear B233; clear B234; clear HB; have B233 := n0_; have B234 := n1_; have HB := n2_; have B235 := n3_; have GW235 := n4_; have GE235 := n5_; have NB233_235 := n6_; have NB235_233 := n7_; have NB234_235 := n8_; have NB235_234 := n9_; clear n0_ n1_ n2_ n3_ n4_ n5_ n6_ n7_ n8_ n9_; clear hb hbox hg))
 refine wp_loop_rounds 9 ?_
 rw [rounds_succ]
 have H := HC3.out
 clear HC3
 replace H := Option.bind_eq_some_iff.mp H
 obtain ⟨⟨t236, t237, t238, t239, t240⟩, A70, H⟩ := H
 replace H : ((sponge_mixer_round.f a0_0 a0_1 a0_2 t236 t237 t238 t239 t240).bind fun bt241 => ((sponge_mixer_round.f a0_0 a0_1 a0_2 bt241.1 bt241.2.1 bt241.2.2.1 bt241.2.2.2.1 bt241.2.2.2.2).bind fun bt246 => ((sponge_mixer_round.f a0_0 a0_1 a0_2 bt246.1 bt246.2.1 bt246.2.2.1 bt246.2.2.2.1 bt246.2.2.2.2).bind fun bt251 => ((sponge_mixer_round.f a0_0 a0_1 a0_2 bt251.1 bt251.2.1 bt251.2.2.1 bt251.2.2.2.1 bt251.2.2.2.2).bind fun bt256 => ((sponge_mixer_round.f a0_0 a0_1 a0_2 bt256.1 bt256.2.1 bt256.2.2.1 bt256.2.2.2.1 bt256.2.2.2.2).bind fun bt261 => ((sponge_mixer_round.f a0_0 a0_1 a0_2 bt261.1 bt261.2.1 bt261.2.2.1 bt261.2.2.2.1 bt261.2.2.2.2).bind fun bt266 => ((sponge_mixer_round.f a0_0 a0_1 a0_2 bt266.1 bt266.2.1 bt266.2.2.1 bt266.2.2.2.1 bt266.2.2.2.2).bind fun bt271 => (some (bt271.2.1, bt271.2.2.1, bt271.2.2.2.1, bt271.2.2.2.2))))))))) = some (r1, r2, r3, r4) := H
 have A7 := Aside0.mk A70
 clear A70
 have HC8 := Aside0.mk H
 clear H
 have hnb9 := NB233_234.out
 have hnc9 := NB234_233.out
 have hnb10 := NB233_235.out
 have hnc10 := NB235_233.out
 have hcz11_0 : w6.cell? ⟨g233, 0, none⟩ = some (.int .u64 a0_0) := bq_ B233 0
 have hcz11_1 : w6.cell? ⟨g233, 1, none⟩ = some (.int .u64 a0_1) := bq_ B233 1
 have hcz11_2 : w6.cell? ⟨g233, 2, none⟩ = some (.bool a0_2) := bq_ B233 2
 have hfz11_0 := blk_frozen B233.out 0
 have hfz11_1 := blk_frozen B233.out 1
 have hfz11_2 := blk_frozen B233.out 2
 have hnb12 := NB234_235.out
 have hnc12 := NB235_234.out
 have hcz13_0 : w6.cell? ⟨g234, 0, none⟩ = some (.int .u64 a1_0) := bq_ B234 0
 have hcz13_1 : w6.cell? ⟨g234, 1, none⟩ = some (.int .u64 a1_1) := bq_ B234 1
 have hcz13_2 : w6.cell? ⟨g234, 2, none⟩ = some (.int .u64 a1_2) := bq_ B234 2
 have hcz13_3 : w6.cell? ⟨g234, 3, none⟩ = some (.int .u64 a1_3) := bq_ B234 3
 have hfz13_0 := blk_frozen B234.out 0
 have hfz13_1 := blk_frozen B234.out 1
 have hfz13_2 := blk_frozen B234.out 2
 have hfz13_3 := blk_frozen B234.out 3
 go_wp2_with (first | ((with_reducible refine gate_callee (f := 36) rfl ?_); refine goesL_ (some 12) rfl rfl Tryd.func36 (by kernel_rfl) rfl #[.agg #[.int .u64 a0_0, .int .u64 a0_1, .bool a0_2], .int .u64 1, .agg #[.int .u64 a1_0, .int .u64 a1_1, .int .u64 a1_2, .int .u64 a1_3]] rfl (by (try simp only [List.map_toArray, List.map_cons, List.map_nil]); first | done | rfl) ?_; (with_reducible refine (sponge_mixer_round.calls a0_0 a0_1 a0_2 1 a1_0 a1_1 a1_2 a1_3 t236 t237 t238 t239 t240 _ A7.out).mono ?_); rintro e w14 ⟨rfl, hb⟩; refine ⟨_, rfl, ?_⟩; have n0_ := Aside0.mk (blk_below (g := g233) (o := .cells #[.int .u64 a0_0, .int .u64 a0_1, .bool a0_2] 45 (0, 0)) (by (with_reducible repeat first | refine blk_drewN ?_ _ | refine blk_drew ?_ | refine blk_alloc ?_ _); exact B233.out) hb); have n1_ := Aside0.mk (blk_below (g := g234) (o := .cells #[.int .u64 a1_0, .int .u64 a1_1, .int .u64 a1_2, .int .u64 a1_3] 23 (0, 0)) (by (with_reducible repeat first | refine blk_drewN ?_ _ | refine blk_drew ?_ | refine blk_alloc ?_ _); exact B234.out) hb); have n2_ := Aside0.mk (blk_below (g := g235) (o := .cells #[.int .u64 0, .int .u64 0, .int .u64 0, .int .u64 0] 23 (0, 0)) (by (with_reducible repeat first | refine blk_drewN ?_ _ | refine blk_drew ?_ | refine blk_alloc ?_ _); exact B235.out) hb); have n3_ := Aside0.mk (below_step (by repeat (first | (with_reducible first | exact HB.out | apply below_alloc | apply pw_below_drewN | apply below_drew1 | refine below_set ?_ GE233.out | refine below_set ?_ GE234.out | refine below_set ?_ GE235.out) | exact HB.out)) hb); clear B233; clear B234; clear B235; clear HB; have B233 := n0_; have B234 := n1_; have B235 := n2_; have HB := n3_; clear n0_ n1_ n2_ n3_; (try clear hb); (try clear hb2); (try clear hk); (try clear hi); have hcz15_0 : w14.cell? ⟨g234, 0, none⟩ = some (.int .u64 a1_0) := bq_ B234 0; have hcz15_1 : w14.cell? ⟨g234, 1, none⟩ = some (.int .u64 a1_1) := bq_ B234 1; have hcz15_2 : w14.cell? ⟨g234, 2, none⟩ = some (.int .u64 a1_2) := bq_ B234 2; have hcz15_3 : w14.cell? ⟨g234, 3, none⟩ = some (.int .u64 a1_3) := bq_ B234 3; have hfz15_0 := blk_frozen B234.out 0; have hfz15_1 := blk_frozen B234.out 1; have hfz15_2 := blk_frozen B234.out 2; have hfz15_3 := blk_frozen B234.out 3))
 rw [rounds_succ]
 have H := HC8.out
 clear HC8
 replace H := Option.bind_eq_some_iff.mp H
 obtain ⟨⟨t241, t242, t243, t244, t245⟩, A160, H⟩ := H
 replace H : ((sponge_mixer_round.f a0_0 a0_1 a0_2 t241 t242 t243 t244 t245).bind fun bt246 => ((sponge_mixer_round.f a0_0 a0_1 a0_2 bt246.1 bt246.2.1 bt246.2.2.1 bt246.2.2.2.1 bt246.2.2.2.2).bind fun bt251 => ((sponge_mixer_round.f a0_0 a0_1 a0_2 bt251.1 bt251.2.1 bt251.2.2.1 bt251.2.2.2.1 bt251.2.2.2.2).bind fun bt256 => ((sponge_mixer_round.f a0_0 a0_1 a0_2 bt256.1 bt256.2.1 bt256.2.2.1 bt256.2.2.2.1 bt256.2.2.2.2).bind fun bt261 => ((sponge_mixer_round.f a0_0 a0_1 a0_2 bt261.1 bt261.2.1 bt261.2.2.1 bt261.2.2.2.1 bt261.2.2.2.2).bind fun bt266 => ((sponge_mixer_round.f a0_0 a0_1 a0_2 bt266.1 bt266.2.1 bt266.2.2.1 bt266.2.2.2.1 bt266.2.2.2.2).bind fun bt271 => (some (bt271.2.1, bt271.2.2.1, bt271.2.2.2.1, bt271.2.2.2.2)))))))) = some (r1, r2, r3, r4) := H
 have A16 := Aside0.mk A160
 clear A160
 have HC17 := Aside0.mk H
 clear H
 have hnb18 := NB233_234.out
 have hnc18 := NB234_233.out
 have hnb19 := NB233_235.out
 have hnc19 := NB235_233.out
 have hcz20_0 : w14.cell? ⟨g233, 0, none⟩ = some (.int .u64 a0_0) := bq_ B233 0
 have hcz20_1 : w14.cell? ⟨g233, 1, none⟩ = some (.int .u64 a0_1) := bq_ B233 1
 have hcz20_2 : w14.cell? ⟨g233, 2, none⟩ = some (.bool a0_2) := bq_ B233 2
 have hfz20_0 := blk_frozen B233.out 0
 have hfz20_1 := blk_frozen B233.out 1
 have hfz20_2 := blk_frozen B233.out 2
 have hnb21 := NB234_235.out
 have hnc21 := NB235_234.out
 have hcz22_0 : w14.cell? ⟨g234, 0, none⟩ = some (.int .u64 a1_0) := bq_ B234 0
 have hcz22_1 : w14.cell? ⟨g234, 1, none⟩ = some (.int .u64 a1_1) := bq_ B234 1
 have hcz22_2 : w14.cell? ⟨g234, 2, none⟩ = some (.int .u64 a1_2) := bq_ B234 2
 have hcz22_3 : w14.cell? ⟨g234, 3, none⟩ = some (.int .u64 a1_3) := bq_ B234 3
 have hfz22_0 := blk_frozen B234.out 0
 have hfz22_1 := blk_frozen B234.out 1
 have hfz22_2 := blk_frozen B234.out 2
 have hfz22_3 := blk_frozen B234.out 3
 go_wp2_with (first | ((with_reducible refine gate_callee (f := 36) rfl ?_); refine goesL_ (some 12) rfl rfl Tryd.func36 (by kernel_rfl) rfl #[.agg #[.int .u64 a0_0, .int .u64 a0_1, .bool a0_2], .int .u64 t236, .agg #[.int .u64 t237, .int .u64 t238, .int .u64 t239, .int .u64 t240]] rfl (by (try simp only [List.map_toArray, List.map_cons, List.map_nil]); first | done | rfl) ?_; (with_reducible refine (sponge_mixer_round.calls a0_0 a0_1 a0_2 t236 t237 t238 t239 t240 t241 t242 t243 t244 t245 _ A16.out).mono ?_); rintro e w23 ⟨rfl, hb⟩; refine ⟨_, rfl, ?_⟩; have n0_ := Aside0.mk (blk_below (g := g233) (o := .cells #[.int .u64 a0_0, .int .u64 a0_1, .bool a0_2] 45 (0, 0)) (by (with_reducible repeat first | refine blk_drewN ?_ _ | refine blk_drew ?_ | refine blk_alloc ?_ _); refine blk_far ?_ NB233_234.out _; (with_reducible repeat first | refine blk_drewN ?_ _ | refine blk_drew ?_ | refine blk_alloc ?_ _); refine blk_far ?_ NB233_234.out _; (with_reducible repeat first | refine blk_drewN ?_ _ | refine blk_drew ?_ | refine blk_alloc ?_ _); refine blk_far ?_ NB233_234.out _; (with_reducible repeat first | refine blk_drewN ?_ _ | refine blk_drew ?_ | refine blk_alloc ?_ _); refine blk_far ?_ NB233_234.out _; (with_reducible repeat first | refine blk_drewN ?_ _ | refine blk_drew ?_ | refine blk_alloc ?_ _); exact B233.out) hb); have n1_ := Aside0.mk (blk_below (g := g234) (o := .cells #[.int .u64 t237, .int .u64 t238, .int .u64 t239, .int .u64 t240] 23 (0, 0)) (by (with_reducible repeat first | refine blk_drewN ?_ _ | refine blk_drew ?_ | refine blk_alloc ?_ _); refine blk_put (cs := #[.int .u64 t237, .int .u64 t238, .int .u64 t239, .int .u64 a1_3]) ?_ 3 _ rfl; (with_reducible repeat first | refine blk_drewN ?_ _ | refine blk_drew ?_ | refine blk_alloc ?_ _); refine blk_put (cs := #[.int .u64 t237, .int .u64 t238, .int .u64 a1_2, .int .u64 a1_3]) ?_ 2 _ rfl; (with_reducible repeat first | refine blk_drewN ?_ _ | refine blk_drew ?_ | refine blk_alloc ?_ _); refine blk_put (cs := #[.int .u64 t237, .int .u64 a1_1, .int .u64 a1_2, .int .u64 a1_3]) ?_ 1 _ rfl; (with_reducible repeat first | refine blk_drewN ?_ _ | refine blk_drew ?_ | refine blk_alloc ?_ _); refine blk_put (cs := #[.int .u64 a1_0, .int .u64 a1_1, .int .u64 a1_2, .int .u64 a1_3]) ?_ 0 _ rfl; (with_reducible repeat first | refine blk_drewN ?_ _ | refine blk_drew ?_ | refine blk_alloc ?_ _); exact B234.out) hb); have n2_ := Aside0.mk (blk_below (g := g235) (o := .cells #[.int .u64 0, .int .u64 0, .int .u64 0, .int .u64 0] 23 (0, 0)) (by (with_reducible repeat first | refine blk_drewN ?_ _ | refine blk_drew ?_ | refine blk_alloc ?_ _); refine blk_far ?_ NB235_234.out _; (with_reducible repeat first | refine blk_drewN ?_ _ | refine blk_drew ?_ | refine blk_alloc ?_ _); refine blk_far ?_ NB235_234.out _; (with_reducible repeat first | refine blk_drewN ?_ _ | refine blk_drew ?_ | refine blk_alloc ?_ _); refine blk_far ?_ NB235_234.out _; (with_reducible repeat first | refine blk_drewN ?_ _ | refine blk_drew ?_ | refine blk_alloc ?_ _); refine blk_far ?_ NB235_234.out _; (with_reducible repeat first | refine blk_drewN ?_ _ | refine blk_drew ?_ | refine blk_alloc ?_ _); exact B235.out) hb); have n3_ := Aside0.mk (below_step (by repeat (first | (with_reducible first | exact HB.out | apply below_alloc | apply pw_below_drewN | apply below_drew1 | refine below_set ?_ GE233.out | refine below_set ?_ GE234.out | refine below_set ?_ GE235.out) | exact HB.out)) hb); clear B233; clear B234; clear B235; clear HB; have B233 := n0_; have B234 := n1_; have B235 := n2_; have HB := n3_; clear n0_ n1_ n2_ n3_; (try clear hb); (try clear hb2); (try clear hk); (try clear hi); have hcz24_0 : w23.cell? ⟨g234, 0, none⟩ = some (.int .u64 t237) := bq_ B234 0; have hcz24_1 : w23.cell? ⟨g234, 1, none⟩ = some (.int .u64 t238) := bq_ B234 1; have hcz24_2 : w23.cell? ⟨g234, 2, none⟩ = some (.int .u64 t239) := bq_ B234 2; have hcz24_3 : w23.cell? ⟨g234, 3, none⟩ = some (.int .u64 t240) := bq_ B234 3; have hfz24_0 := blk_frozen B234.out 0; have hfz24_1 := blk_frozen B234.out 1; have hfz24_2 := blk_frozen B234.out 2; have hfz24_3 := blk_frozen B234.out 3))
 rw [rounds_succ]
 have H := HC17.out
 clear HC17
 replace H := Option.bind_eq_some_iff.mp H
 obtain ⟨⟨t246, t247, t248, t249, t250⟩, A250, H⟩ := H
 replace H : ((sponge_mixer_round.f a0_0 a0_1 a0_2 t246 t247 t248 t249 t250).bind fun bt251 => ((sponge_mixer_round.f a0_0 a0_1 a0_2 bt251.1 bt251.2.1 bt251.2.2.1 bt251.2.2.2.1 bt251.2.2.2.2).bind fun bt256 => ((sponge_mixer_round.f a0_0 a0_1 a0_2 bt256.1 bt256.2.1 bt256.2.2.1 bt256.2.2.2.1 bt256.2.2.2.2).bind fun bt261 => ((sponge_mixer_round.f a0_0 a0_1 a0_2 bt261.1 bt261.2.1 bt261.2.2.1 bt261.2.2.2.1 bt261.2.2.2.2).bind fun bt266 => ((sponge_mixer_round.f a0_0 a0_1 a0_2 bt266.1 bt266.2.1 bt266.2.2.1 bt266.2.2.2.1 bt266.2.2.2.2).bind fun bt271 => (some (bt271.2.1, bt271.2.2.1, bt271.2.2.2.1, bt271.2.2.2.2))))))) = some (r1, r2, r3, r4) := H
 have A25 := Aside0.mk A250
 clear A250
 have HC26 := Aside0.mk H
 clear H
 have hnb27 := NB233_234.out
 have hnc27 := NB234_233.out
 have hnb28 := NB233_235.out
 have hnc28 := NB235_233.out
 have hcz29_0 : w23.cell? ⟨g233, 0, none⟩ = some (.int .u64 a0_0) := bq_ B233 0
 have hcz29_1 : w23.cell? ⟨g233, 1, none⟩ = some (.int .u64 a0_1) := bq_ B233 1
 have hcz29_2 : w23.cell? ⟨g233, 2, none⟩ = some (.bool a0_2) := bq_ B233 2
 have hfz29_0 := blk_frozen B233.out 0
 have hfz29_1 := blk_frozen B233.out 1
 have hfz29_2 := blk_frozen B233.out 2
 have hnb30 := NB234_235.out
 have hnc30 := NB235_234.out
 have hcz31_0 : w23.cell? ⟨g234, 0, none⟩ = some (.int .u64 t237) := bq_ B234 0
 have hcz31_1 : w23.cell? ⟨g234, 1, none⟩ = some (.int .u64 t238) := bq_ B234 1
 have hcz31_2 : w23.cell? ⟨g234, 2, none⟩ = some (.int .u64 t239) := bq_ B234 2
 have hcz31_3 : w23.cell? ⟨g234, 3, none⟩ = some (.int .u64 t240) := bq_ B234 3
 have hfz31_0 := blk_frozen B234.out 0
 have hfz31_1 := blk_frozen B234.out 1
 have hfz31_2 := blk_frozen B234.out 2
 have hfz31_3 := blk_frozen B234.out 3
 go_wp2_with (first | ((with_reducible refine gate_callee (f := 36) rfl ?_); refine goesL_ (some 12) rfl rfl Tryd.func36 (by kernel_rfl) rfl #[.agg #[.int .u64 a0_0, .int .u64 a0_1, .bool a0_2], .int .u64 t241, .agg #[.int .u64 t242, .int .u64 t243, .int .u64 t244, .int .u64 t245]] rfl (by (try simp only [List.map_toArray, List.map_cons, List.map_nil]); first | done | rfl) ?_; (with_reducible refine (sponge_mixer_round.calls a0_0 a0_1 a0_2 t241 t242 t243 t244 t245 t246 t247 t248 t249 t250 _ A25.out).mono ?_); rintro e w32 ⟨rfl, hb⟩; refine ⟨_, rfl, ?_⟩; have n0_ := Aside0.mk (blk_below (g := g233) (o := .cells #[.int .u64 a0_0, .int .u64 a0_1, .bool a0_2] 45 (0, 0)) (by (with_reducible repeat first | refine blk_drewN ?_ _ | refine blk_drew ?_ | refine blk_alloc ?_ _); refine blk_far ?_ NB233_234.out _; (with_reducible repeat first | refine blk_drewN ?_ _ | refine blk_drew ?_ | refine blk_alloc ?_ _); refine blk_far ?_ NB233_234.out _; (with_reducible repeat first | refine blk_drewN ?_ _ | refine blk_drew ?_ | refine blk_alloc ?_ _); refine blk_far ?_ NB233_234.out _; (with_reducible repeat first | refine blk_drewN ?_ _ | refine blk_drew ?_ | refine blk_alloc ?_ _); refine blk_far ?_ NB233_234.out _; (with_reducible repeat first | refine blk_drewN ?_ _ | refine blk_drew ?_ | refine blk_alloc ?_ _); exact B233.out) hb); have n1_ := Aside0.mk (blk_below (g := g234) (o := .cells #[.int .u64 t242, .int .u64 t243, .int .u64 t244, .int .u64 t245] 23 (0, 0)) (by (with_reducible repeat first | refine blk_drewN ?_ _ | refine blk_drew ?_ | refine blk_alloc ?_ _); refine blk_put (cs := #[.int .u64 t242, .int .u64 t243, .int .u64 t244, .int .u64 t240]) ?_ 3 _ rfl; (with_reducible repeat first | refine blk_drewN ?_ _ | refine blk_drew ?_ | refine blk_alloc ?_ _); refine blk_put (cs := #[.int .u64 t242, .int .u64 t243, .int .u64 t239, .int .u64 t240]) ?_ 2 _ rfl; (with_reducible repeat first | refine blk_drewN ?_ _ | refine blk_drew ?_ | refine blk_alloc ?_ _); refine blk_put (cs := #[.int .u64 t242, .int .u64 t238, .int .u64 t239, .int .u64 t240]) ?_ 1 _ rfl; (with_reducible repeat first | refine blk_drewN ?_ _ | refine blk_drew ?_ | refine blk_alloc ?_ _); refine blk_put (cs := #[.int .u64 t237, .int .u64 t238, .int .u64 t239, .int .u64 t240]) ?_ 0 _ rfl; (with_reducible repeat first | refine blk_drewN ?_ _ | refine blk_drew ?_ | refine blk_alloc ?_ _); exact B234.out) hb); have n2_ := Aside0.mk (blk_below (g := g235) (o := .cells #[.int .u64 0, .int .u64 0, .int .u64 0, .int .u64 0] 23 (0, 0)) (by (with_reducible repeat first | refine blk_drewN ?_ _ | refine blk_drew ?_ | refine blk_alloc ?_ _); refine blk_far ?_ NB235_234.out _; (with_reducible repeat first | refine blk_drewN ?_ _ | refine blk_drew ?_ | refine blk_alloc ?_ _); refine blk_far ?_ NB235_234.out _; (with_reducible repeat first | refine blk_drewN ?_ _ | refine blk_drew ?_ | refine blk_alloc ?_ _); refine blk_far ?_ NB235_234.out _; (with_reducible repeat first | refine blk_drewN ?_ _ | refine blk_drew ?_ | refine blk_alloc ?_ _); refine blk_far ?_ NB235_234.out _; (with_reducible repeat first | refine blk_drewN ?_ _ | refine blk_drew ?_ | refine blk_alloc ?_ _); exact B235.out) hb); have n3_ := Aside0.mk (below_step (by repeat (first | (with_reducible first | exact HB.out | apply below_alloc | apply pw_below_drewN | apply below_drew1 | refine below_set ?_ GE233.out | refine below_set ?_ GE234.out | refine below_set ?_ GE235.out) | exact HB.out)) hb); clear B233; clear B234; clear B235; clear HB; have B233 := n0_; have B234 := n1_; have B235 := n2_; have HB := n3_; clear n0_ n1_ n2_ n3_; (try clear hb); (try clear hb2); (try clear hk); (try clear hi); have hcz33_0 : w32.cell? ⟨g234, 0, none⟩ = some (.int .u64 t242) := bq_ B234 0; have hcz33_1 : w32.cell? ⟨g234, 1, none⟩ = some (.int .u64 t243) := bq_ B234 1; have hcz33_2 : w32.cell? ⟨g234, 2, none⟩ = some (.int .u64 t244) := bq_ B234 2; have hcz33_3 : w32.cell? ⟨g234, 3, none⟩ = some (.int .u64 t245) := bq_ B234 3; have hfz33_0 := blk_frozen B234.out 0; have hfz33_1 := blk_frozen B234.out 1; have hfz33_2 := blk_frozen B234.out 2; have hfz33_3 := blk_frozen B234.out 3))
 rw [rounds_succ]
 have H := HC26.out
 clear HC26
 replace H := Option.bind_eq_some_iff.mp H
 obtain ⟨⟨t251, t252, t253, t254, t255⟩, A340, H⟩ := H
 replace H : ((sponge_mixer_round.f a0_0 a0_1 a0_2 t251 t252 t253 t254 t255).bind fun bt256 => ((sponge_mixer_round.f a0_0 a0_1 a0_2 bt256.1 bt256.2.1 bt256.2.2.1 bt256.2.2.2.1 bt256.2.2.2.2).bind fun bt261 => ((sponge_mixer_round.f a0_0 a0_1 a0_2 bt261.1 bt261.2.1 bt261.2.2.1 bt261.2.2.2.1 bt261.2.2.2.2).bind fun bt266 => ((sponge_mixer_round.f a0_0 a0_1 a0_2 bt266.1 bt266.2.1 bt266.2.2.1 bt266.2.2.2.1 bt266.2.2.2.2).bind fun bt271 => (some (bt271.2.1, bt271.2.2.1, bt271.2.2.2.1, bt271.2.2.2.2)))))) = some (r1, r2, r3, r4) := H
 have A34 := Aside0.mk A340
 clear A340
 have HC35 := Aside0.mk H
 clear H
 have hnb36 := NB233_234.out
 have hnc36 := NB234_233.out
 have hnb37 := NB233_235.out
 have hnc37 := NB235_233.out
 have hcz38_0 : w32.cell? ⟨g233, 0, none⟩ = some (.int .u64 a0_0) := bq_ B233 0
 have hcz38_1 : w32.cell? ⟨g233, 1, none⟩ = some (.int .u64 a0_1) := bq_ B233 1
 have hcz38_2 : w32.cell? ⟨g233, 2, none⟩ = some (.bool a0_2) := bq_ B233 2
 have hfz38_0 := blk_frozen B233.out 0
 have hfz38_1 := blk_frozen B233.out 1
 have hfz38_2 := blk_frozen B233.out 2
 have hnb39 := NB234_235.out
 have hnc39 := NB235_234.out
 have hcz40_0 : w32.cell? ⟨g234, 0, none⟩ = some (.int .u64 t242) := bq_ B234 0
 have hcz40_1 : w32.cell? ⟨g234, 1, none⟩ = some (.int .u64 t243) := bq_ B234 1
 have hcz40_2 : w32.cell? ⟨g234, 2, none⟩ = some (.int .u64 t244) := bq_ B234 2
 have hcz40_3 : w32.cell? ⟨g234, 3, none⟩ = some (.int .u64 t245) := bq_ B234 3
 have hfz40_0 := blk_frozen B234.out 0
 have hfz40_1 := blk_frozen B234.out 1
 have hfz40_2 := blk_frozen B234.out 2
 have hfz40_3 := blk_frozen B234.out 3
 go_wp2_with (first | ((with_reducible refine gate_callee (f := 36) rfl ?_); refine goesL_ (some 12) rfl rfl Tryd.func36 (by kernel_rfl) rfl #[.agg #[.int .u64 a0_0, .int .u64 a0_1, .bool a0_2], .int .u64 t246, .agg #[.int .u64 t247, .int .u64 t248, .int .u64 t249, .int .u64 t250]] rfl (by (try simp only [List.map_toArray, List.map_cons, List.map_nil]); first | done | rfl) ?_; (with_reducible refine (sponge_mixer_round.calls a0_0 a0_1 a0_2 t246 t247 t248 t249 t250 t251 t252 t253 t254 t255 _ A34.out).mono ?_); rintro e w41 ⟨rfl, hb⟩; refine ⟨_, rfl, ?_⟩; have n0_ := Aside0.mk (blk_below (g := g233) (o := .cells #[.int .u64 a0_0, .int .u64 a0_1, .bool a0_2] 45 (0, 0)) (by (with_reducible repeat first | refine blk_drewN ?_ _ | refine blk_drew ?_ | refine blk_alloc ?_ _); refine blk_far ?_ NB233_234.out _; (with_reducible repeat first | refine blk_drewN ?_ _ | refine blk_drew ?_ | refine blk_alloc ?_ _); refine blk_far ?_ NB233_234.out _; (with_reducible repeat first | refine blk_drewN ?_ _ | refine blk_drew ?_ | refine blk_alloc ?_ _); refine blk_far ?_ NB233_234.out _; (with_reducible repeat first | refine blk_drewN ?_ _ | refine blk_drew ?_ | refine blk_alloc ?_ _); refine blk_far ?_ NB233_234.out _; (with_reducible repeat first | refine blk_drewN ?_ _ | refine blk_drew ?_ | refine blk_alloc ?_ _); exact B233.out) hb); have n1_ := Aside0.mk (blk_below (g := g234) (o := .cells #[.int .u64 t247, .int .u64 t248, .int .u64 t249, .int .u64 t250] 23 (0, 0)) (by (with_reducible repeat first | refine blk_drewN ?_ _ | refine blk_drew ?_ | refine blk_alloc ?_ _); refine blk_put (cs := #[.int .u64 t247, .int .u64 t248, .int .u64 t249, .int .u64 t245]) ?_ 3 _ rfl; (with_reducible repeat first | refine blk_drewN ?_ _ | refine blk_drew ?_ | refine blk_alloc ?_ _); refine blk_put (cs := #[.int .u64 t247, .int .u64 t248, .int .u64 t244, .int .u64 t245]) ?_ 2 _ rfl; (with_reducible repeat first | refine blk_drewN ?_ _ | refine blk_drew ?_ | refine blk_alloc ?_ _); refine blk_put (cs := #[.int .u64 t247, .int .u64 t243, .int .u64 t244, .int .u64 t245]) ?_ 1 _ rfl; (with_reducible repeat first | refine blk_drewN ?_ _ | refine blk_drew ?_ | refine blk_alloc ?_ _); refine blk_put (cs := #[.int .u64 t242, .int .u64 t243, .int .u64 t244, .int .u64 t245]) ?_ 0 _ rfl; (with_reducible repeat first | refine blk_drewN ?_ _ | refine blk_drew ?_ | refine blk_alloc ?_ _); exact B234.out) hb); have n2_ := Aside0.mk (blk_below (g := g235) (o := .cells #[.int .u64 0, .int .u64 0, .int .u64 0, .int .u64 0] 23 (0, 0)) (by (with_reducible repeat first | refine blk_drewN ?_ _ | refine blk_drew ?_ | refine blk_alloc ?_ _); refine blk_far ?_ NB235_234.out _; (with_reducible repeat first | refine blk_drewN ?_ _ | refine blk_drew ?_ | refine blk_alloc ?_ _); refine blk_far ?_ NB235_234.out _; (with_reducible repeat first | refine blk_drewN ?_ _ | refine blk_drew ?_ | refine blk_alloc ?_ _); refine blk_far ?_ NB235_234.out _; (with_reducible repeat first | refine blk_drewN ?_ _ | refine blk_drew ?_ | refine blk_alloc ?_ _); refine blk_far ?_ NB235_234.out _; (with_reducible repeat first | refine blk_drewN ?_ _ | refine blk_drew ?_ | refine blk_alloc ?_ _); exact B235.out) hb); have n3_ := Aside0.mk (below_step (by repeat (first | (with_reducible first | exact HB.out | apply below_alloc | apply pw_below_drewN | apply below_drew1 | refine below_set ?_ GE233.out | refine below_set ?_ GE234.out | refine below_set ?_ GE235.out) | exact HB.out)) hb); clear B233; clear B234; clear B235; clear HB; have B233 := n0_; have B234 := n1_; have B235 := n2_; have HB := n3_; clear n0_ n1_ n2_ n3_; (try clear hb); (try clear hb2); (try clear hk); (try clear hi); have hcz42_0 : w41.cell? ⟨g234, 0, none⟩ = some (.int .u64 t247) := bq_ B234 0; have hcz42_1 : w41.cell? ⟨g234, 1, none⟩ = some (.int .u64 t248) := bq_ B234 1; have hcz42_2 : w41.cell? ⟨g234, 2, none⟩ = some (.int .u64 t249) := bq_ B234 2; have hcz42_3 : w41.cell? ⟨g234, 3, none⟩ = some (.int .u64 t250) := bq_ B234 3; have hfz42_0 := blk_frozen B234.out 0; have hfz42_1 := blk_frozen B234.out 1; have hfz42_2 := blk_frozen B234.out 2; have hfz42_3 := blk_frozen B234.out 3))
 rw [rounds_succ]
 have H := HC35.out
 clear HC35
 replace H := Option.bind_eq_some_iff.mp H
 obtain ⟨⟨t256, t257, t258, t259, t260⟩, A430, H⟩ := H
 replace H : ((sponge_mixer_round.f a0_0 a0_1 a0_2 t256 t257 t258 t259 t260).bind fun bt261 => ((sponge_mixer_round.f a0_0 a0_1 a0_2 bt261.1 bt261.2.1 bt261.2.2.1 bt261.2.2.2.1 bt261.2.2.2.2).bind fun bt266 => ((sponge_mixer_round.f a0_0 a0_1 a0_2 bt266.1 bt266.2.1 bt266.2.2.1 bt266.2.2.2.1 bt266.2.2.2.2).bind fun bt271 => (some (bt271.2.1, bt271.2.2.1, bt271.2.2.2.1, bt271.2.2.2.2))))) = some (r1, r2, r3, r4) := H
 have A43 := Aside0.mk A430
 clear A430
 have HC44 := Aside0.mk H
 clear H
 have hnb45 := NB233_234.out
 have hnc45 := NB234_233.out
 have hnb46 := NB233_235.out
 have hnc46 := NB235_233.out
 have hcz47_0 : w41.cell? ⟨g233, 0, none⟩ = some (.int .u64 a0_0) := bq_ B233 0
 have hcz47_1 : w41.cell? ⟨g233, 1, none⟩ = some (.int .u64 a0_1) := bq_ B233 1
 have hcz47_2 : w41.cell? ⟨g233, 2, none⟩ = some (.bool a0_2) := bq_ B233 2
 have hfz47_0 := blk_frozen B233.out 0
 have hfz47_1 := blk_frozen B233.out 1
 have hfz47_2 := blk_frozen B233.out 2
 have hnb48 := NB234_235.out
 have hnc48 := NB235_234.out
 have hcz49_0 : w41.cell? ⟨g234, 0, none⟩ = some (.int .u64 t247) := bq_ B234 0
 have hcz49_1 : w41.cell? ⟨g234, 1, none⟩ = some (.int .u64 t248) := bq_ B234 1
 have hcz49_2 : w41.cell? ⟨g234, 2, none⟩ = some (.int .u64 t249) := bq_ B234 2
 have hcz49_3 : w41.cell? ⟨g234, 3, none⟩ = some (.int .u64 t250) := bq_ B234 3
 have hfz49_0 := blk_frozen B234.out 0
 have hfz49_1 := blk_frozen B234.out 1
 have hfz49_2 := blk_frozen B234.out 2
 have hfz49_3 := blk_frozen B234.out 3
 go_wp2_with (first | ((with_reducible refine gate_callee (f := 36) rfl ?_); refine goesL_ (some 12) rfl rfl Tryd.func36 (by kernel_rfl) rfl #[.agg #[.int .u64 a0_0, .int .u64 a0_1, .bool a0_2], .int .u64 t251, .agg #[.int .u64 t252, .int .u64 t253, .int .u64 t254, .int .u64 t255]] rfl (by (try simp only [List.map_toArray, List.map_cons, List.map_nil]); first | done | rfl) ?_; (with_reducible refine (sponge_mixer_round.calls a0_0 a0_1 a0_2 t251 t252 t253 t254 t255 t256 t257 t258 t259 t260 _ A43.out).mono ?_); rintro e w50 ⟨rfl, hb⟩; refine ⟨_, rfl, ?_⟩; have n0_ := Aside0.mk (blk_below (g := g233) (o := .cells #[.int .u64 a0_0, .int .u64 a0_1, .bool a0_2] 45 (0, 0)) (by (with_reducible repeat first | refine blk_drewN ?_ _ | refine blk_drew ?_ | refine blk_alloc ?_ _); refine blk_far ?_ NB233_234.out _; (with_reducible repeat first | refine blk_drewN ?_ _ | refine blk_drew ?_ | refine blk_alloc ?_ _); refine blk_far ?_ NB233_234.out _; (with_reducible repeat first | refine blk_drewN ?_ _ | refine blk_drew ?_ | refine blk_alloc ?_ _); refine blk_far ?_ NB233_234.out _; (with_reducible repeat first | refine blk_drewN ?_ _ | refine blk_drew ?_ | refine blk_alloc ?_ _); refine blk_far ?_ NB233_234.out _; (with_reducible repeat first | refine blk_drewN ?_ _ | refine blk_drew ?_ | refine blk_alloc ?_ _); exact B233.out) hb); have n1_ := Aside0.mk (blk_below (g := g234) (o := .cells #[.int .u64 t252, .int .u64 t253, .int .u64 t254, .int .u64 t255] 23 (0, 0)) (by (with_reducible repeat first | refine blk_drewN ?_ _ | refine blk_drew ?_ | refine blk_alloc ?_ _); refine blk_put (cs := #[.int .u64 t252, .int .u64 t253, .int .u64 t254, .int .u64 t250]) ?_ 3 _ rfl; (with_reducible repeat first | refine blk_drewN ?_ _ | refine blk_drew ?_ | refine blk_alloc ?_ _); refine blk_put (cs := #[.int .u64 t252, .int .u64 t253, .int .u64 t249, .int .u64 t250]) ?_ 2 _ rfl; (with_reducible repeat first | refine blk_drewN ?_ _ | refine blk_drew ?_ | refine blk_alloc ?_ _); refine blk_put (cs := #[.int .u64 t252, .int .u64 t248, .int .u64 t249, .int .u64 t250]) ?_ 1 _ rfl; (with_reducible repeat first | refine blk_drewN ?_ _ | refine blk_drew ?_ | refine blk_alloc ?_ _); refine blk_put (cs := #[.int .u64 t247, .int .u64 t248, .int .u64 t249, .int .u64 t250]) ?_ 0 _ rfl; (with_reducible repeat first | refine blk_drewN ?_ _ | refine blk_drew ?_ | refine blk_alloc ?_ _); exact B234.out) hb); have n2_ := Aside0.mk (blk_below (g := g235) (o := .cells #[.int .u64 0, .int .u64 0, .int .u64 0, .int .u64 0] 23 (0, 0)) (by (with_reducible repeat first | refine blk_drewN ?_ _ | refine blk_drew ?_ | refine blk_alloc ?_ _); refine blk_far ?_ NB235_234.out _; (with_reducible repeat first | refine blk_drewN ?_ _ | refine blk_drew ?_ | refine blk_alloc ?_ _); refine blk_far ?_ NB235_234.out _; (with_reducible repeat first | refine blk_drewN ?_ _ | refine blk_drew ?_ | refine blk_alloc ?_ _); refine blk_far ?_ NB235_234.out _; (with_reducible repeat first | refine blk_drewN ?_ _ | refine blk_drew ?_ | refine blk_alloc ?_ _); refine blk_far ?_ NB235_234.out _; (with_reducible repeat first | refine blk_drewN ?_ _ | refine blk_drew ?_ | refine blk_alloc ?_ _); exact B235.out) hb); have n3_ := Aside0.mk (below_step (by repeat (first | (with_reducible first | exact HB.out | apply below_alloc | apply pw_below_drewN | apply below_drew1 | refine below_set ?_ GE233.out | refine below_set ?_ GE234.out | refine below_set ?_ GE235.out) | exact HB.out)) hb); clear B233; clear B234; clear B235; clear HB; have B233 := n0_; have B234 := n1_; have B235 := n2_; have HB := n3_; clear n0_ n1_ n2_ n3_; (try clear hb); (try clear hb2); (try clear hk); (try clear hi); have hcz51_0 : w50.cell? ⟨g234, 0, none⟩ = some (.int .u64 t252) := bq_ B234 0; have hcz51_1 : w50.cell? ⟨g234, 1, none⟩ = some (.int .u64 t253) := bq_ B234 1; have hcz51_2 : w50.cell? ⟨g234, 2, none⟩ = some (.int .u64 t254) := bq_ B234 2; have hcz51_3 : w50.cell? ⟨g234, 3, none⟩ = some (.int .u64 t255) := bq_ B234 3; have hfz51_0 := blk_frozen B234.out 0; have hfz51_1 := blk_frozen B234.out 1; have hfz51_2 := blk_frozen B234.out 2; have hfz51_3 := blk_frozen B234.out 3))
 rw [rounds_succ]
 have H := HC44.out
 clear HC44
 replace H := Option.bind_eq_some_iff.mp H
 obtain ⟨⟨t261, t262, t263, t264, t265⟩, A520, H⟩ := H
 replace H : ((sponge_mixer_round.f a0_0 a0_1 a0_2 t261 t262 t263 t264 t265).bind fun bt266 => ((sponge_mixer_round.f a0_0 a0_1 a0_2 bt266.1 bt266.2.1 bt266.2.2.1 bt266.2.2.2.1 bt266.2.2.2.2).bind fun bt271 => (some (bt271.2.1, bt271.2.2.1, bt271.2.2.2.1, bt271.2.2.2.2)))) = some (r1, r2, r3, r4) := H
 have A52 := Aside0.mk A520
 clear A520
 have HC53 := Aside0.mk H
 clear H
 have hnb54 := NB233_234.out
 have hnc54 := NB234_233.out
 have hnb55 := NB233_235.out
 have hnc55 := NB235_233.out
 have hcz56_0 : w50.cell? ⟨g233, 0, none⟩ = some (.int .u64 a0_0) := bq_ B233 0
 have hcz56_1 : w50.cell? ⟨g233, 1, none⟩ = some (.int .u64 a0_1) := bq_ B233 1
 have hcz56_2 : w50.cell? ⟨g233, 2, none⟩ = some (.bool a0_2) := bq_ B233 2
 have hfz56_0 := blk_frozen B233.out 0
 have hfz56_1 := blk_frozen B233.out 1
 have hfz56_2 := blk_frozen B233.out 2
 have hnb57 := NB234_235.out
 have hnc57 := NB235_234.out
 have hcz58_0 : w50.cell? ⟨g234, 0, none⟩ = some (.int .u64 t252) := bq_ B234 0
 have hcz58_1 : w50.cell? ⟨g234, 1, none⟩ = some (.int .u64 t253) := bq_ B234 1
 have hcz58_2 : w50.cell? ⟨g234, 2, none⟩ = some (.int .u64 t254) := bq_ B234 2
 have hcz58_3 : w50.cell? ⟨g234, 3, none⟩ = some (.int .u64 t255) := bq_ B234 3
 have hfz58_0 := blk_frozen B234.out 0
 have hfz58_1 := blk_frozen B234.out 1
 have hfz58_2 := blk_frozen B234.out 2
 have hfz58_3 := blk_frozen B234.out 3
 go_wp2_with (first | ((with_reducible refine gate_callee (f := 36) rfl ?_); refine goesL_ (some 12) rfl rfl Tryd.func36 (by kernel_rfl) rfl #[.agg #[.int .u64 a0_0, .int .u64 a0_1, .bool a0_2], .int .u64 t256, .agg #[.int .u64 t257, .int .u64 t258, .int .u64 t259, .int .u64 t260]] rfl (by (try simp only [List.map_toArray, List.map_cons, List.map_nil]); first | done | rfl) ?_; (with_reducible refine (sponge_mixer_round.calls a0_0 a0_1 a0_2 t256 t257 t258 t259 t260 t261 t262 t263 t264 t265 _ A52.out).mono ?_); rintro e w59 ⟨rfl, hb⟩; refine ⟨_, rfl, ?_⟩; have n0_ := Aside0.mk (blk_below (g := g233) (o := .cells #[.int .u64 a0_0, .int .u64 a0_1, .bool a0_2] 45 (0, 0)) (by (with_reducible repeat first | refine blk_drewN ?_ _ | refine blk_drew ?_ | refine blk_alloc ?_ _); refine blk_far ?_ NB233_234.out _; (with_reducible repeat first | refine blk_drewN ?_ _ | refine blk_drew ?_ | refine blk_alloc ?_ _); refine blk_far ?_ NB233_234.out _; (with_reducible repeat first | refine blk_drewN ?_ _ | refine blk_drew ?_ | refine blk_alloc ?_ _); refine blk_far ?_ NB233_234.out _; (with_reducible repeat first | refine blk_drewN ?_ _ | refine blk_drew ?_ | refine blk_alloc ?_ _); refine blk_far ?_ NB233_234.out _; (with_reducible repeat first | refine blk_drewN ?_ _ | refine blk_drew ?_ | refine blk_alloc ?_ _); exact B233.out) hb); have n1_ := Aside0.mk (blk_below (g := g234) (o := .cells #[.int .u64 t257, .int .u64 t258, .int .u64 t259, .int .u64 t260] 23 (0, 0)) (by (with_reducible repeat first | refine blk_drewN ?_ _ | refine blk_drew ?_ | refine blk_alloc ?_ _); refine blk_put (cs := #[.int .u64 t257, .int .u64 t258, .int .u64 t259, .int .u64 t255]) ?_ 3 _ rfl; (with_reducible repeat first | refine blk_drewN ?_ _ | refine blk_drew ?_ | refine blk_alloc ?_ _); refine blk_put (cs := #[.int .u64 t257, .int .u64 t258, .int .u64 t254, .int .u64 t255]) ?_ 2 _ rfl; (with_reducible repeat first | refine blk_drewN ?_ _ | refine blk_drew ?_ | refine blk_alloc ?_ _); refine blk_put (cs := #[.int .u64 t257, .int .u64 t253, .int .u64 t254, .int .u64 t255]) ?_ 1 _ rfl; (with_reducible repeat first | refine blk_drewN ?_ _ | refine blk_drew ?_ | refine blk_alloc ?_ _); refine blk_put (cs := #[.int .u64 t252, .int .u64 t253, .int .u64 t254, .int .u64 t255]) ?_ 0 _ rfl; (with_reducible repeat first | refine blk_drewN ?_ _ | refine blk_drew ?_ | refine blk_alloc ?_ _); exact B234.out) hb); have n2_ := Aside0.mk (blk_below (g := g235) (o := .cells #[.int .u64 0, .int .u64 0, .int .u64 0, .int .u64 0] 23 (0, 0)) (by (with_reducible repeat first | refine blk_drewN ?_ _ | refine blk_drew ?_ | refine blk_alloc ?_ _); refine blk_far ?_ NB235_234.out _; (with_reducible repeat first | refine blk_drewN ?_ _ | refine blk_drew ?_ | refine blk_alloc ?_ _); refine blk_far ?_ NB235_234.out _; (with_reducible repeat first | refine blk_drewN ?_ _ | refine blk_drew ?_ | refine blk_alloc ?_ _); refine blk_far ?_ NB235_234.out _; (with_reducible repeat first | refine blk_drewN ?_ _ | refine blk_drew ?_ | refine blk_alloc ?_ _); refine blk_far ?_ NB235_234.out _; (with_reducible repeat first | refine blk_drewN ?_ _ | refine blk_drew ?_ | refine blk_alloc ?_ _); exact B235.out) hb); have n3_ := Aside0.mk (below_step (by repeat (first | (with_reducible first | exact HB.out | apply below_alloc | apply pw_below_drewN | apply below_drew1 | refine below_set ?_ GE233.out | refine below_set ?_ GE234.out | refine below_set ?_ GE235.out) | exact HB.out)) hb); clear B233; clear B234; clear B235; clear HB; have B233 := n0_; have B234 := n1_; have B235 := n2_; have HB := n3_; clear n0_ n1_ n2_ n3_; (try clear hb); (try clear hb2); (try clear hk); (try clear hi); have hcz60_0 : w59.cell? ⟨g234, 0, none⟩ = some (.int .u64 t257) := bq_ B234 0; have hcz60_1 : w59.cell? ⟨g234, 1, none⟩ = some (.int .u64 t258) := bq_ B234 1; have hcz60_2 : w59.cell? ⟨g234, 2, none⟩ = some (.int .u64 t259) := bq_ B234 2; have hcz60_3 : w59.cell? ⟨g234, 3, none⟩ = some (.int .u64 t260) := bq_ B234 3; have hfz60_0 := blk_frozen B234.out 0; have hfz60_1 := blk_frozen B234.out 1; have hfz60_2 := blk_frozen B234.out 2; have hfz60_3 := blk_frozen B234.out 3))
 rw [rounds_succ]
 have H := HC53.out
 clear HC53
 replace H := Option.bind_eq_some_iff.mp H
 obtain ⟨⟨t266, t267, t268, t269, t270⟩, A610, H⟩ := H
 replace H : ((sponge_mixer_round.f a0_0 a0_1 a0_2 t266 t267 t268 t269 t270).bind fun bt271 => (some (bt271.2.1, bt271.2.2.1, bt271.2.2.2.1, bt271.2.2.2.2))) = some (r1, r2, r3, r4) := H
 have A61 := Aside0.mk A610
 clear A610
 have HC62 := Aside0.mk H
 clear H
 have hnb63 := NB233_234.out
 have hnc63 := NB234_233.out
 have hnb64 := NB233_235.out
 have hnc64 := NB235_233.out
 have hcz65_0 : w59.cell? ⟨g233, 0, none⟩ = some (.int .u64 a0_0) := bq_ B233 0
 have hcz65_1 : w59.cell? ⟨g233, 1, none⟩ = some (.int .u64 a0_1) := bq_ B233 1
 have hcz65_2 : w59.cell? ⟨g233, 2, none⟩ = some (.bool a0_2) := bq_ B233 2
 have hfz65_0 := blk_frozen B233.out 0
 have hfz65_1 := blk_frozen B233.out 1
 have hfz65_2 := blk_frozen B233.out 2
 have hnb66 := NB234_235.out
 have hnc66 := NB235_234.out
 have hcz67_0 : w59.cell? ⟨g234, 0, none⟩ = some (.int .u64 t257) := bq_ B234 0
 have hcz67_1 : w59.cell? ⟨g234, 1, none⟩ = some (.int .u64 t258) := bq_ B234 1
 have hcz67_2 : w59.cell? ⟨g234, 2, none⟩ = some (.int .u64 t259) := bq_ B234 2
 have hcz67_3 : w59.cell? ⟨g234, 3, none⟩ = some (.int .u64 t260) := bq_ B234 3
 have hfz67_0 := blk_frozen B234.out 0
 have hfz67_1 := blk_frozen B234.out 1
 have hfz67_2 := blk_frozen B234.out 2
 have hfz67_3 := blk_frozen B234.out 3
 go_wp2_with (first | ((with_reducible refine gate_callee (f := 36) rfl ?_); refine goesL_ (some 12) rfl rfl Tryd.func36 (by kernel_rfl) rfl #[.agg #[.int .u64 a0_0, .int .u64 a0_1, .bool a0_2], .int .u64 t261, .agg #[.int .u64 t262, .int .u64 t263, .int .u64 t264, .int .u64 t265]] rfl (by (try simp only [List.map_toArray, List.map_cons, List.map_nil]); first | done | rfl) ?_; (with_reducible refine (sponge_mixer_round.calls a0_0 a0_1 a0_2 t261 t262 t263 t264 t265 t266 t267 t268 t269 t270 _ A61.out).mono ?_); rintro e w68 ⟨rfl, hb⟩; refine ⟨_, rfl, ?_⟩; have n0_ := Aside0.mk (blk_below (g := g233) (o := .cells #[.int .u64 a0_0, .int .u64 a0_1, .bool a0_2] 45 (0, 0)) (by (with_reducible repeat first | refine blk_drewN ?_ _ | refine blk_drew ?_ | refine blk_alloc ?_ _); refine blk_far ?_ NB233_234.out _; (with_reducible repeat first | refine blk_drewN ?_ _ | refine blk_drew ?_ | refine blk_alloc ?_ _); refine blk_far ?_ NB233_234.out _; (with_reducible repeat first | refine blk_drewN ?_ _ | refine blk_drew ?_ | refine blk_alloc ?_ _); refine blk_far ?_ NB233_234.out _; (with_reducible repeat first | refine blk_drewN ?_ _ | refine blk_drew ?_ | refine blk_alloc ?_ _); refine blk_far ?_ NB233_234.out _; (with_reducible repeat first | refine blk_drewN ?_ _ | refine blk_drew ?_ | refine blk_alloc ?_ _); exact B233.out) hb); have n1_ := Aside0.mk (blk_below (g := g234) (o := .cells #[.int .u64 t262, .int .u64 t263, .int .u64 t264, .int .u64 t265] 23 (0, 0)) (by (with_reducible repeat first | refine blk_drewN ?_ _ | refine blk_drew ?_ | refine blk_alloc ?_ _); refine blk_put (cs := #[.int .u64 t262, .int .u64 t263, .int .u64 t264, .int .u64 t260]) ?_ 3 _ rfl; (with_reducible repeat first | refine blk_drewN ?_ _ | refine blk_drew ?_ | refine blk_alloc ?_ _); refine blk_put (cs := #[.int .u64 t262, .int .u64 t263, .int .u64 t259, .int .u64 t260]) ?_ 2 _ rfl; (with_reducible repeat first | refine blk_drewN ?_ _ | refine blk_drew ?_ | refine blk_alloc ?_ _); refine blk_put (cs := #[.int .u64 t262, .int .u64 t258, .int .u64 t259, .int .u64 t260]) ?_ 1 _ rfl; (with_reducible repeat first | refine blk_drewN ?_ _ | refine blk_drew ?_ | refine blk_alloc ?_ _); refine blk_put (cs := #[.int .u64 t257, .int .u64 t258, .int .u64 t259, .int .u64 t260]) ?_ 0 _ rfl; (with_reducible repeat first | refine blk_drewN ?_ _ | refine blk_drew ?_ | refine blk_alloc ?_ _); exact B234.out) hb); have n2_ := Aside0.mk (blk_below (g := g235) (o := .cells #[.int .u64 0, .int .u64 0, .int .u64 0, .int .u64 0] 23 (0, 0)) (by (with_reducible repeat first | refine blk_drewN ?_ _ | refine blk_drew ?_ | refine blk_alloc ?_ _); refine blk_far ?_ NB235_234.out _; (with_reducible repeat first | refine blk_drewN ?_ _ | refine blk_drew ?_ | refine blk_alloc ?_ _); refine blk_far ?_ NB235_234.out _; (with_reducible repeat first | refine blk_drewN ?_ _ | refine blk_drew ?_ | refine blk_alloc ?_ _); refine blk_far ?_ NB235_234.out _; (with_reducible repeat first | refine blk_drewN ?_ _ | refine blk_drew ?_ | refine blk_alloc ?_ _); refine blk_far ?_ NB235_234.out _; (with_reducible repeat first | refine blk_drewN ?_ _ | refine blk_drew ?_ | refine blk_alloc ?_ _); exact B235.out) hb); have n3_ := Aside0.mk (below_step (by repeat (first | (with_reducible first | exact HB.out | apply below_alloc | apply pw_below_drewN | apply below_drew1 | refine below_set ?_ GE233.out | refine below_set ?_ GE234.out | refine below_set ?_ GE235.out) | exact HB.out)) hb); clear B233; clear B234; clear B235; clear HB; have B233 := n0_; have B234 := n1_; have B235 := n2_; have HB := n3_; clear n0_ n1_ n2_ n3_; (try clear hb); (try clear hb2); (try clear hk); (try clear hi); have hcz69_0 : w68.cell? ⟨g234, 0, none⟩ = some (.int .u64 t262) := bq_ B234 0; have hcz69_1 : w68.cell? ⟨g234, 1, none⟩ = some (.int .u64 t263) := bq_ B234 1; have hcz69_2 : w68.cell? ⟨g234, 2, none⟩ = some (.int .u64 t264) := bq_ B234 2; have hcz69_3 : w68.cell? ⟨g234, 3, none⟩ = some (.int .u64 t265) := bq_ B234 3; have hfz69_0 := blk_frozen B234.out 0; have hfz69_1 := blk_frozen B234.out 1; have hfz69_2 := blk_frozen B234.out 2; have hfz69_3 := blk_frozen B234.out 3))
 rw [rounds_succ]
 have H := HC62.out
 clear HC62
 replace H := Option.bind_eq_some_iff.mp H
 obtain ⟨⟨t271, t272, t273, t274, t275⟩, A700, H⟩ := H
 replace H : (some (t272, t273, t274, t275)) = some (r1, r2, r3, r4) := H
 have A70 := Aside0.mk A700
 clear A700
 have HC71 := Aside0.mk H
 clear H
 have hnb72 := NB233_234.out
 have hnc72 := NB234_233.out
 have hnb73 := NB233_235.out
 have hnc73 := NB235_233.out
 have hcz74_0 : w68.cell? ⟨g233, 0, none⟩ = some (.int .u64 a0_0) := bq_ B233 0
 have hcz74_1 : w68.cell? ⟨g233, 1, none⟩ = some (.int .u64 a0_1) := bq_ B233 1
 have hcz74_2 : w68.cell? ⟨g233, 2, none⟩ = some (.bool a0_2) := bq_ B233 2
 have hfz74_0 := blk_frozen B233.out 0
 have hfz74_1 := blk_frozen B233.out 1
 have hfz74_2 := blk_frozen B233.out 2
 have hnb75 := NB234_235.out
 have hnc75 := NB235_234.out
 have hcz76_0 : w68.cell? ⟨g234, 0, none⟩ = some (.int .u64 t262) := bq_ B234 0
 have hcz76_1 : w68.cell? ⟨g234, 1, none⟩ = some (.int .u64 t263) := bq_ B234 1
 have hcz76_2 : w68.cell? ⟨g234, 2, none⟩ = some (.int .u64 t264) := bq_ B234 2
 have hcz76_3 : w68.cell? ⟨g234, 3, none⟩ = some (.int .u64 t265) := bq_ B234 3
 have hfz76_0 := blk_frozen B234.out 0
 have hfz76_1 := blk_frozen B234.out 1
 have hfz76_2 := blk_frozen B234.out 2
 have hfz76_3 := blk_frozen B234.out 3
 go_wp2_with (first | ((with_reducible refine gate_callee (f := 36) rfl ?_); refine goesL_ (some 12) rfl rfl Tryd.func36 (by kernel_rfl) rfl #[.agg #[.int .u64 a0_0, .int .u64 a0_1, .bool a0_2], .int .u64 t266, .agg #[.int .u64 t267, .int .u64 t268, .int .u64 t269, .int .u64 t270]] rfl (by (try simp only [List.map_toArray, List.map_cons, List.map_nil]); first | done | rfl) ?_; (with_reducible refine (sponge_mixer_round.calls a0_0 a0_1 a0_2 t266 t267 t268 t269 t270 t271 t272 t273 t274 t275 _ A70.out).mono ?_); rintro e w77 ⟨rfl, hb⟩; refine ⟨_, rfl, ?_⟩; have n0_ := Aside0.mk (blk_below (g := g233) (o := .cells #[.int .u64 a0_0, .int .u64 a0_1, .bool a0_2] 45 (0, 0)) (by (with_reducible repeat first | refine blk_drewN ?_ _ | refine blk_drew ?_ | refine blk_alloc ?_ _); refine blk_far ?_ NB233_234.out _; (with_reducible repeat first | refine blk_drewN ?_ _ | refine blk_drew ?_ | refine blk_alloc ?_ _); refine blk_far ?_ NB233_234.out _; (with_reducible repeat first | refine blk_drewN ?_ _ | refine blk_drew ?_ | refine blk_alloc ?_ _); refine blk_far ?_ NB233_234.out _; (with_reducible repeat first | refine blk_drewN ?_ _ | refine blk_drew ?_ | refine blk_alloc ?_ _); refine blk_far ?_ NB233_234.out _; (with_reducible repeat first | refine blk_drewN ?_ _ | refine blk_drew ?_ | refine blk_alloc ?_ _); exact B233.out) hb); have n1_ := Aside0.mk (blk_below (g := g234) (o := .cells #[.int .u64 t267, .int .u64 t268, .int .u64 t269, .int .u64 t270] 23 (0, 0)) (by (with_reducible repeat first | refine blk_drewN ?_ _ | refine blk_drew ?_ | refine blk_alloc ?_ _); refine blk_put (cs := #[.int .u64 t267, .int .u64 t268, .int .u64 t269, .int .u64 t265]) ?_ 3 _ rfl; (with_reducible repeat first | refine blk_drewN ?_ _ | refine blk_drew ?_ | refine blk_alloc ?_ _); refine blk_put (cs := #[.int .u64 t267, .int .u64 t268, .int .u64 t264, .int .u64 t265]) ?_ 2 _ rfl; (with_reducible repeat first | refine blk_drewN ?_ _ | refine blk_drew ?_ | refine blk_alloc ?_ _); refine blk_put (cs := #[.int .u64 t267, .int .u64 t263, .int .u64 t264, .int .u64 t265]) ?_ 1 _ rfl; (with_reducible repeat first | refine blk_drewN ?_ _ | refine blk_drew ?_ | refine blk_alloc ?_ _); refine blk_put (cs := #[.int .u64 t262, .int .u64 t263, .int .u64 t264, .int .u64 t265]) ?_ 0 _ rfl; (with_reducible repeat first | refine blk_drewN ?_ _ | refine blk_drew ?_ | refine blk_alloc ?_ _); exact B234.out) hb); have n2_ := Aside0.mk (blk_below (g := g235) (o := .cells #[.int .u64 0, .int .u64 0, .int .u64 0, .int .u64 0] 23 (0, 0)) (by (with_reducible repeat first | refine blk_drewN ?_ _ | refine blk_drew ?_ | refine blk_alloc ?_ _); refine blk_far ?_ NB235_234.out _; (with_reducible repeat first | refine blk_drewN ?_ _ | refine blk_drew ?_ | refine blk_alloc ?_ _); refine blk_far ?_ NB235_234.out _; (with_reducible repeat first | refine blk_drewN ?_ _ | refine blk_drew ?_ | refine blk_alloc ?_ _); refine blk_far ?_ NB235_234.out _; (with_reducible repeat first | refine blk_drewN ?_ _ | refine blk_drew ?_ | refine blk_alloc ?_ _); refine blk_far ?_ NB235_234.out _; (with_reducible repeat first | refine blk_drewN ?_ _ | refine blk_drew ?_ | refine blk_alloc ?_ _); exact B235.out) hb); have n3_ := Aside0.mk (below_step (by repeat (first | (with_reducible first | exact HB.out | apply below_alloc | apply pw_below_drewN | apply below_drew1 | refine below_set ?_ GE233.out | refine below_set ?_ GE234.out | refine below_set ?_ GE235.out) | exact HB.out)) hb); clear B233; clear B234; clear B235; clear HB; have B233 := n0_; have B234 := n1_; have B235 := n2_; have HB := n3_; clear n0_ n1_ n2_ n3_; (try clear hb); (try clear hb2); (try clear hk); (try clear hi); have hcz78_0 : w77.cell? ⟨g234, 0, none⟩ = some (.int .u64 t267) := bq_ B234 0; have hcz78_1 : w77.cell? ⟨g234, 1, none⟩ = some (.int .u64 t268) := bq_ B234 1; have hcz78_2 : w77.cell? ⟨g234, 2, none⟩ = some (.int .u64 t269) := bq_ B234 2; have hcz78_3 : w77.cell? ⟨g234, 3, none⟩ = some (.int .u64 t270) := bq_ B234 3; have hfz78_0 := blk_frozen B234.out 0; have hfz78_1 := blk_frozen B234.out 1; have hfz78_2 := blk_frozen B234.out 2; have hfz78_3 := blk_frozen B234.out 3))
 rw [rounds_succ]
 have H := HC71.out
 clear HC71
 simp only [Option.some.injEq, Prod.mk.injEq] at H
 obtain ⟨rfl, rfl, rfl, rfl⟩ := H
 have hnb79 := NB234_233.out
 have hnc79 := NB233_234.out
 have hnb80 := NB234_235.out
 have hnc80 := NB235_234.out
 have hcz81_0 : w77.cell? ⟨g234, 0, none⟩ = some (.int .u64 t267) := bq_ B234 0
 have hcz81_1 : w77.cell? ⟨g234, 1, none⟩ = some (.int .u64 t268) := bq_ B234 1
 have hcz81_2 : w77.cell? ⟨g234, 2, none⟩ = some (.int .u64 t269) := bq_ B234 2
 have hcz81_3 : w77.cell? ⟨g234, 3, none⟩ = some (.int .u64 t270) := bq_ B234 3
 have hfz81_0 := blk_frozen B234.out 0
 have hfz81_1 := blk_frozen B234.out 1
 have hfz81_2 := blk_frozen B234.out 2
 have hfz81_3 := blk_frozen B234.out 3
 have hnb82 := NB235_233.out
 have hnc82 := NB233_235.out
 have hcz83_0 : w77.cell? ⟨g235, 0, none⟩ = some (.int .u64 0) := bq_ B235 0
 have hcz83_1 : w77.cell? ⟨g235, 1, none⟩ = some (.int .u64 0) := bq_ B235 1
 have hcz83_2 : w77.cell? ⟨g235, 2, none⟩ = some (.int .u64 0) := bq_ B235 2
 have hcz83_3 : w77.cell? ⟨g235, 3, none⟩ = some (.int .u64 0) := bq_ B235 3
 have hfz83_0 := blk_frozen B235.out 0
 have hfz83_1 := blk_frozen B235.out 1
 have hfz83_2 := blk_frozen B235.out 2
 have hfz83_3 := blk_frozen B235.out 3
 go_wp2
 refine bodyPost_ret (results_cell_row rfl _ _ g235 23 #[.int .u64 t272, .int .u64 t273, .int .u64 t274, .int .u64 t275] (0, 0) _ rfl (by (with_reducible repeat first | refine blk_drewN ?_ _ | refine blk_drew ?_ | refine blk_alloc ?_ _); refine blk_put (cs := #[.int .u64 t272, .int .u64 t273, .int .u64 t274, .int .u64 0]) ?_ 3 _ rfl; (with_reducible repeat first | refine blk_drewN ?_ _ | refine blk_drew ?_ | refine blk_alloc ?_ _); refine blk_put (cs := #[.int .u64 t272, .int .u64 t273, .int .u64 0, .int .u64 0]) ?_ 2 _ rfl; (with_reducible repeat first | refine blk_drewN ?_ _ | refine blk_drew ?_ | refine blk_alloc ?_ _); refine blk_put (cs := #[.int .u64 t272, .int .u64 0, .int .u64 0, .int .u64 0]) ?_ 1 _ rfl; (with_reducible repeat first | refine blk_drewN ?_ _ | refine blk_drew ?_ | refine blk_alloc ?_ _); refine blk_put (cs := #[.int .u64 0, .int .u64 0, .int .u64 0, .int .u64 0]) ?_ 0 _ rfl; (with_reducible repeat first | refine blk_drewN ?_ _ | refine blk_drew ?_ | refine blk_alloc ?_ _); refine blk_far ?_ NB235_234.out _; (with_reducible repeat first | refine blk_drewN ?_ _ | refine blk_drew ?_ | refine blk_alloc ?_ _); refine blk_far ?_ NB235_234.out _; (with_reducible repeat first | refine blk_drewN ?_ _ | refine blk_drew ?_ | refine blk_alloc ?_ _); refine blk_far ?_ NB235_234.out _; (with_reducible repeat first | refine blk_drewN ?_ _ | refine blk_drew ?_ | refine blk_alloc ?_ _); refine blk_far ?_ NB235_234.out _; (with_reducible repeat first | refine blk_drewN ?_ _ | refine blk_drew ?_ | refine blk_alloc ?_ _); exact B235.out) Tryd.underlying23 rfl (by kernel_rfl)) rfl ?_
 exact ⟨by first | rfl | (simp [errW_none, errW_some] <;> rfl) | (simp [*, errW_none, errW_some] <;> rfl), by repeat (first | (with_reducible first | exact HB.out | apply below_alloc | apply pw_below_drewN | apply below_drew1 | refine below_set ?_ GE233.out | refine below_set ?_ GE234.out | refine below_set ?_ GE235.out) | exact HB.out)⟩

end Go.Proofs.YtjfekjblnoagkaaDoor.Q
end
section
namespace Go.Proofs.YtjfekjblnoagkaaDoor.Q
open Go.RowKit Go.Proofs.YtjfekjblnoagkaaDoorW.PrintWords Go.Proofs.YtjfekjblnoagkaaDoorW.PrintLast Go.Proofs.YtjfekjblnoagkaaDoorW.PrintMore
attribute [local go_sem] max2_int min2_int max_two min_two max_three min_three max_four min_four   -- for this text's walks alone
set_option linter.unusedVariables false
set_option linter.unusedSimpArgs false

/-! ### sponge_Perm: function 19 -/
def sponge_Perm.f (a0 : Int) (a1_0 : Int) (a1_1 : Int) (a1_2 : Int) (a1_3 : Int) : Option (Int × Int × Int × Int) := (field_Valid.f a0).bind fun t304 => (if t304 = true then ((sponge_in.f a0).bind fun bt305 => ((sponge_mixer_reduced.f bt305.1 bt305.2.1 bt305.2.2 a1_0 a1_1 a1_2 a1_3).bind fun bt309 => ((sponge_mixer_perm.f bt305.1 bt305.2.1 bt305.2.2 bt309.1 bt309.2.1 bt309.2.2.1 bt309.2.2.2).bind fun bt313 => (some (bt313.1, bt313.2.1, bt313.2.2.1, bt313.2.2.2))))) else (some (0, 0, 0, 0)))
set_option maxHeartbeats 8000000 in
set_option maxRecDepth 100000 in
theorem sponge_Perm.calls (a0 : Int) (a1_0 : Int) (a1_1 : Int) (a1_2 : Int) (a1_3 : Int) (r1 : Int) (r2 : Int) (r3 : Int) (r4 : Int) (w : World) (hrG : GL w) (h : sponge_Perm.f a0 a1_0 a1_1 a1_2 a1_3 = some (r1, r2, r3, r4)) :
    Calls Tryd.prog 19 #[.int .i64 a0, .agg #[.int .u64 a1_0, .int .u64 a1_1, .int .u64 a1_2, .int .u64 a1_3]] w fun e w' => e = .returned (.agg #[.int .u64 r1, .int .u64 r2, .int .u64 r3, .int .u64 r4]) ∧ Below w.heap.size w w' := by
  have hu23 := Tryd.underlying23
  have hu45 := Tryd.underlying45
  have HRG := Aside0.mk hrG
  clear hrG
  have HB := Aside0.mk (Below.refl w.heap.size w)
  have H : ((field_Valid.f a0).bind fun t304 => (if t304 = true then ((sponge_in.f a0).bind fun bt305 => ((sponge_mixer_reduced.f bt305.1 bt305.2.1 bt305.2.2 a1_0 a1_1 a1_2 a1_3).bind fun bt309 => ((sponge_mixer_perm.f bt305.1 bt305.2.1 bt305.2.2 bt309.1 bt309.2.1 bt309.2.2.1 bt309.2.2.2).bind fun bt313 => (some (bt313.1, bt313.2.1, bt313.2.2.1, bt313.2.2.2))))) else (some (0, 0, 0, 0)))) = some (r1, r2, r3, r4) := h
  clear h
  replace H := Option.bind_eq_some_iff.mp H
  obtain ⟨t304, A30, H⟩ := H
  replace H : (if t304 = true then ((sponge_in.f a0).bind fun bt305 => ((sponge_mixer_reduced.f bt305.1 bt305.2.1 bt305.2.2 a1_0 a1_1 a1_2 a1_3).bind fun bt309 => ((sponge_mixer_perm.f bt305.1 bt305.2.1 bt305.2.2 bt309.1 bt309.2.1 bt309.2.2.1 bt309.2.2.2).bind fun bt313 => (some (bt313.1, bt313.2.1, bt313.2.2.1, bt313.2.2.2))))) else (some (0, 0, 0, 0))) = some (r1, r2, r3, r4) := H
  have A3 := Aside0.mk A30
  clear A30
  by_cases c4 : t304 = true
  · subst c4
    have H1 : ((sponge_in.f a0).bind fun bt305 => ((sponge_mixer_reduced.f bt305.1 bt305.2.1 bt305.2.2 a1_0 a1_1 a1_2 a1_3).bind fun bt309 => ((sponge_mixer_perm.f bt305.1 bt305.2.1 bt305.2.2 bt309.1 bt309.2.1 bt309.2.2.1 bt309.2.2.2).bind fun bt313 => (some (bt313.1, bt313.2.1, bt313.2.2.1, bt313.2.2.2))))) = some (r1, r2, r3, r4) := by rw [if_pos rfl] at H; exact H
    clear H
    have H := H1
    clear H1
    replace H := Option.bind_eq_some_iff.mp H
    obtain ⟨⟨t305, t306, t307⟩, A50, H⟩ := H
    replace H : ((sponge_mixer_reduced.f t305 t306 t307 a1_0 a1_1 a1_2 a1_3).bind fun bt309 => ((sponge_mixer_perm.f t305 t306 t307 bt309.1 bt309.2.1 bt309.2.2.1 bt309.2.2.2).bind fun bt313 => (some (bt313.1, bt313.2.1, bt313.2.2.1, bt313.2.2.2)))) = some (r1, r2, r3, r4) := H
    have A5 := Aside0.mk A50
    clear A50
    replace H := Option.bind_eq_some_iff.mp H
    obtain ⟨⟨t309, t310, t311, t312⟩, A60, H⟩ := H
    replace H : ((sponge_mixer_perm.f t305 t306 t307 t309 t310 t311 t312).bind fun bt313 => (some (bt313.1, bt313.2.1, bt313.2.2.1, bt313.2.2.2))) = some (r1, r2, r3, r4) := H
    have A6 := Aside0.mk A60
    clear A60
    replace H := Option.bind_eq_some_iff.mp H
    obtain ⟨⟨t313, t314, t315, t316⟩, A70, H⟩ := H
    replace H : (some (t313, t314, t315, t316)) = some (r1, r2, r3, r4) := H
    have A7 := Aside0.mk A70
    clear A70
    simp only [Option.some.injEq, Prod.mk.injEq] at H
    obtain ⟨rfl, rfl, rfl, rfl⟩ := H
    go_enter Tryd.func19, Tryd.ntmps19
    try go_wp2_with (first | ((with_reducible refine gate_dst (N := 3) rfl ?_); refine box_event ?hg (N := 3) ?hd (cs := #[.int .u64 a1_0, .int .u64 a1_1, .int .u64 a1_2, .int .u64 a1_3]) (t := 23) ?hr ?_; (case hd => rfl); (case hg => rfl); (case hr => first | (go_simp; done) | (go_simp; rfl)); intro gb302 hg w8 hbox hb; have n0_ := Aside0.mk (below_step (by repeat (first | (with_reducible first | exact HB.out | apply below_alloc | apply pw_below_drewN | apply below_drew1) | exact HB.out)) hb); have n1_ := Aside0.mk (hbox); have n2_ := Aside0.mk ((by rw [hg]; exact (below_size (by repeat (first | (with_reducible first | exact HB.out | apply below_alloc | apply pw_below_drewN | apply below_drew1) | exact HB.out))) : w.heap.size ≤ gb302)); have n3_ := Aside0.mk ((by rw [hg]; exact (below_size (by repeat (first | (with_reducible first | exact HB.out | apply below_alloc | apply pw_below_drewN | apply below_drew1) | exact HB.out))) : w.heap.size ≤ gb302)); clear HB; have HB := n0_; have BK302 := n1_; have GW302 := n2_; have GE302 := n3_; clear n0_ n1_ n2_ n3_; clear hb hbox hg) | ((with_reducible refine gate_dst (N := 4) rfl ?_); refine box_event ?hg (N := 4) ?hd (cs := #[.int .u64 0, .int .u64 0, .int .u64 0, .int .u64 0]) (t := 23) ?hr ?_; (case hd => rfl); (case hg => rfl); (case hr => first | (go_simp; done) | (go_simp; rfl)); intro gb303 hg w9 hbox hb; have n0_ := Aside0.mk (blk_below (g := gb302) (o := .cells #[.int .u64 a1_0, .int .u64 a1_1, .int .u64 a1_2, .int .u64 a1_3] 23 (0, 0)) (by (with_reducible repeat (first | refine blk_drewN ?_ _ | refine blk_drew ?_ | refine blk_alloc ?_ _)); exact BK302.out) hb); have n1_ := Aside0.mk (below_step (by repeat (first | (with_reducible first | exact HB.out | apply below_alloc | apply pw_below_drewN | apply below_drew1 | refine below_set ?_ GE302.out) | exact HB.out)) hb); have n2_ := Aside0.mk (hbox); have n3_ := Aside0.mk ((by rw [hg]; exact (below_size (by repeat (first | (with_reducible first | exact HB.out | apply below_alloc | apply pw_below_drewN | apply below_drew1 | refine below_set ?_ GE302.out) | exact HB.out))) : w.heap.size ≤ gb303)); have n4_ := Aside0.mk ((by rw [hg]; exact (below_size (by repeat (first | (with_reducible first | exact HB.out | apply below_alloc | apply pw_below_drewN | apply below_drew1 | refine below_set ?_ GE302.out) | exact HB.out))) : w.heap.size ≤ gb303)); have n5_ := Aside0.mk ((by rw [hg]; exact Nat.ne_of_lt (blk_lt (g := gb302) (o := .cells #[.int .u64 a1_0, .int .u64 a1_1, .int .u64 a1_2, .int .u64 a1_3] 23 (0, 0)) (by (with_reducible repeat (first | refine blk_drewN ?_ _ | refine blk_drew ?_ | refine blk_alloc ?_ _)); exact BK302.out)) : gb302 ≠ gb303)); have n6_ := Aside0.mk ((by rw [hg]; exact Nat.ne_of_gt (blk_lt (g := gb302) (o := .cells #[.int .u64 a1_0, .int .u64 a1_1, .int .u64 a1_2, .int .u64 a1_3] 23 (0, 0)) (by (with_reducible repeat (first | refine blk_drewN ?_ _ | refine blk_drew ?_ | refine blk_alloc ?_ _)); exact BK302.out)) : gb303 ≠ gb302)); clear BK302; clear HB; have BK302 := n0_; have HB := n1_; have BK303 := n2_; have GW303 := n3_; have GE303 := n4_; have NB302_303 := n5_; have NB303_302 := n6_; clear n0_ n1_ n2_ n3_ n4_ n5_ n6_; clear hb hbox hg) | ((with_reducible refine gate_callee (f := 41) rfl ?_); refine goesL_ (some 7) rfl rfl Tryd.func41 (by kernel_rfl) rfl #[.int .i64 a0] rfl (by (try simp only [List.map_toArray, List.map_cons, List.map_nil]); first | done | rfl | (simp only [List.length_drop, List.length_take]; rfl) | (go_simp; done) | (go_simp; rw [Int.tmod_eq_emod_of_nonneg (by omega)]; omega)) ?_; (with_reducible refine (field_Valid.calls a0 true _ A3.out).mono ?_); rintro e w' ⟨rfl, ⟨nd, rfl⟩⟩; refine ⟨_, rfl, ?_⟩; (try (rw [drewN_self w9]; generalize hq_ : World.drewN w9 _ = w9; have n0_ : Aside0 (w9.heap[gb302]? = some (.cells #[.int .u64 a1_0, .int .u64 a1_1, .int .u64 a1_2, .int .u64 a1_3] 23 (0, 0))) := ⟨by rw [← hq_]; exact (by (with_reducible repeat (first | refine blk_drewN ?_ _ | refine blk_drew ?_ | refine blk_alloc ?_ _)); exact BK302.out)⟩; have n1_ : Aside0 (w9.heap[gb303]? = some (.cells #[.int .u64 0, .int .u64 0, .int .u64 0, .int .u64 0] 23 (0, 0))) := ⟨by rw [← hq_]; exact (by (with_reducible repeat (first | refine blk_drewN ?_ _ | refine blk_drew ?_ | refine blk_alloc ?_ _)); exact BK303.out)⟩; have n2_ : Aside0 (Below w.heap.size w w9) := ⟨by rw [← hq_]; exact (by repeat (first | (with_reducible first | exact HB.out | apply below_alloc | apply pw_below_drewN | apply below_drew1 | refine below_set ?_ GE302.out | refine below_set ?_ GE303.out) | exact HB.out))⟩; clear BK302 BK303 HB hq_; have BK302 := n0_; have BK303 := n1_; have HB := n2_; clear n0_ n1_ n2_))) | ((with_reducible refine gate_callee (f := 35) rfl ?_); refine goesL_ (some 11) rfl rfl Tryd.func35 (by kernel_rfl) rfl #[.int .i64 a0] rfl (by (try simp only [List.map_toArray, List.map_cons, List.map_nil]); first | done | rfl | (simp only [List.length_drop, List.length_take]; rfl) | (go_simp; done) | (go_simp; rw [Int.tmod_eq_emod_of_nonneg (by omega)]; omega)) ?_; (with_reducible refine (sponge_in.calls a0 t305 t306 t307 _ ?side1 A5.out).mono ?_); (case side1 => repeat (first | exact (GL.below HRG.out HB.out) | (with_reducible refine GL.alloc ?_ _) | (with_reducible refine GL.drewN ?_ _) | (with_reducible refine GL.drew ?_))); rintro e w10 ⟨rfl, hb⟩; refine ⟨_, rfl, ?_⟩; have n0_ := Aside0.mk (blk_below (g := gb302) (o := .cells #[.int .u64 a1_0, .int .u64 a1_1, .int .u64 a1_2, .int .u64 a1_3] 23 (0, 0)) (by (with_reducible repeat (first | refine blk_drewN ?_ _ | refine blk_drew ?_ | refine blk_alloc ?_ _)); exact BK302.out) hb); have n1_ := Aside0.mk (blk_below (g := gb303) (o := .cells #[.int .u64 0, .int .u64 0, .int .u64 0, .int .u64 0] 23 (0, 0)) (by (with_reducible repeat (first | refine blk_drewN ?_ _ | refine blk_drew ?_ | refine blk_alloc ?_ _)); exact BK303.out) hb); have n2_ := Aside0.mk (below_step (by repeat (first | (with_reducible first | exact HB.out | apply below_alloc | apply pw_below_drewN | apply below_drew1 | refine below_set ?_ GE302.out | refine below_set ?_ GE303.out) | exact HB.out)) hb); clear BK302; clear BK303; clear HB; have BK302 := n0_; have BK303 := n1_; have HB := n2_; clear n0_ n1_ n2_; (try clear hb); (try clear hb2); (try clear hk); (try clear hi)) | ((with_reducible refine gate_dst (N := 5) rfl ?_); refine box_event ?hg (N := 5) ?hd (cs := #[.int .u64 0, .int .u64 0, .bool false]) (t := 45) ?hr ?_; (case hd => rfl); (case hg => rfl); (case hr => first | (go_simp; done) | (go_simp; rfl)); intro gb308 hg w11 hbox hb; have n0_ := Aside0.mk (blk_below (g := gb302) (o := .cells #[.int .u64 a1_0, .int .u64 a1_1, .int .u64 a1_2, .int .u64 a1_3] 23 (0, 0)) (by (with_reducible repeat (first | refine blk_drewN ?_ _ | refine blk_drew ?_ | refine blk_alloc ?_ _)); exact BK302.out) hb); have n1_ := Aside0.mk (blk_below (g := gb303) (o := .cells #[.int .u64 0, .int .u64 0, .int .u64 0, .int .u64 0] 23 (0, 0)) (by (with_reducible repeat (first | refine blk_drewN ?_ _ | refine blk_drew ?_ | refine blk_alloc ?_ _)); exact BK303.out) hb); have n2_ := Aside0.mk (below_step (by repeat (first | (with_reducible first | exact HB.out | apply below_alloc | apply pw_below_drewN | apply below_drew1 | refine below_set ?_ GE302.out | refine below_set ?_ GE303.out) | exact HB.out)) hb); have n3_ := Aside0.mk (hbox); have n4_ := Aside0.mk ((by rw [hg]; exact (below_size (by repeat (first | (with_reducible first | exact HB.out | apply below_alloc | apply pw_below_drewN | apply below_drew1 | refine below_set ?_ GE302.out | refine below_set ?_ GE303.out) | exact HB.out))) : w.heap.size ≤ gb308)); have n5_ := Aside0.mk ((by rw [hg]; exact (below_size (by repeat (first | (with_reducible first | exact HB.out | apply below_alloc | apply pw_below_drewN | apply below_drew1 | refine below_set ?_ GE302.out | refine below_set ?_ GE303.out) | exact HB.out))) : w.heap.size ≤ gb308)); have n6_ := Aside0.mk ((by rw [hg]; exact Nat.ne_of_lt (blk_lt (g := gb302) (o := .cells #[.int .u64 a1_0, .int .u64 a1_1, .int .u64 a1_2, .int .u64 a1_3] 23 (0, 0)) (by (with_reducible repeat (first | refine blk_drewN ?_ _ | refine blk_drew ?_ | refine blk_alloc ?_ _)); exact BK302.out)) : gb302 ≠ gb308)); have n7_ := Aside0.mk ((by rw [hg]; exact Nat.ne_of_gt (blk_lt (g := gb302) (o := .cells #[.int .u64 a1_0, .int .u64 a1_1, .int .u64 a1_2, .int .u64 a1_3] 23 (0, 0)) (by (with_reducible repeat (first | refine blk_drewN ?_ _ | refine blk_drew ?_ | refine blk_alloc ?_ _)); exact BK302.out)) : gb308 ≠ gb302)); have n8_ := Aside0.mk ((by rw [hg]; exact Nat.ne_of_lt (blk_lt (g := gb303) (o := .cells #[.int .u64 0, .int .u64 0, .int .u64 0, .int .u64 0] 23 (0, 0)) (by (with_reducible repeat (first | refine blk_drewN ?_ _ | refine blk_drew ?_ | refine blk_alloc ?_ _)); exact BK303.out)) : gb303 ≠ gb308)); have n9_ := Aside0.mk ((by rw [hg]; exact Nat.ne_of_gt (blk_lt (g := gb303) (o := .cells #[.int .u64 0, .int .u64 0, .int .u64 0, .int .u64 0] 23 (0, 0)) (by (with_reducible repeat (first | refine blk_drewN ?_ _ | refine blk_drew ?_ | refine blk_alloc ?_ _)); exact BK303.out)) : gb308 ≠ gb303)); clear BK302; clear BK303; clear HB; have BK302 := n0_; have BK303 := n1_; have HB := n2_; have BK308 := n3_; have GW308 := n4_; have GE308 := n5_; have NB302_308 := n6_; have NB308_302 := n7_; have NB303_308 := n8_; have NB308_303 := n9_; clear n0_ n1_ n2_ n3_ n4_ n5_ n6_ n7_ n8_ n9_; clear hb hbox hg; have hnb12 := NB308_302.out; have hnc12 := NB302_308.out; have hnb13 := NB308_303.out; have hnc13 := NB303_308.out; have hcz14_0 : w11.cell? ⟨gb308, 0, none⟩ = some (.int .u64 0) := (blk_cell BK308.out 0).trans rfl; have hcz14_1 : w11.cell? ⟨gb308, 1, none⟩ = some (.int .u64 0) := (blk_cell BK308.out 1).trans rfl; have hcz14_2 : w11.cell? ⟨gb308, 2, none⟩ = some (.bool false) := (blk_cell BK308.out 2).trans rfl; have hfz14_0 := blk_frozen BK308.out 0; have hfz14_1 := blk_frozen BK308.out 1; have hfz14_2 := blk_frozen BK308.out 2))
    have n0_ : Aside0 ((((w11.setCell ⟨gb308, 0, none⟩ (.int .u64 t305)).setCell ⟨gb308, 1, none⟩ (.int .u64 t306)).setCell ⟨gb308, 2, none⟩ (.bool t307)).heap[gb302]? = some (.cells #[.int .u64 a1_0, .int .u64 a1_1, .int .u64 a1_2, .int .u64 a1_3] 23 (0, 0))) := ⟨by (with_reducible repeat (first | refine blk_drewN ?_ _ | refine blk_drew ?_ | refine blk_alloc ?_ _)); refine blk_far ?_ NB302_308.out _; (with_reducible repeat (first | refine blk_drewN ?_ _ | refine blk_drew ?_ | refine blk_alloc ?_ _)); refine blk_far ?_ NB302_308.out _; (with_reducible repeat (first | refine blk_drewN ?_ _ | refine blk_drew ?_ | refine blk_alloc ?_ _)); refine blk_far ?_ NB302_308.out _; (with_reducible repeat (first | refine blk_drewN ?_ _ | refine blk_drew ?_ | refine blk_alloc ?_ _)); exact BK302.out⟩
    have n1_ : Aside0 ((((w11.setCell ⟨gb308, 0, none⟩ (.int .u64 t305)).setCell ⟨gb308, 1, none⟩ (.int .u64 t306)).setCell ⟨gb308, 2, none⟩ (.bool t307)).heap[gb303]? = some (.cells #[.int .u64 0, .int .u64 0, .int .u64 0, .int .u64 0] 23 (0, 0))) := ⟨by (with_reducible repeat (first | refine blk_drewN ?_ _ | refine blk_drew ?_ | refine blk_alloc ?_ _)); refine blk_far ?_ NB303_308.out _; (with_reducible repeat (first | refine blk_drewN ?_ _ | refine blk_drew ?_ | refine blk_alloc ?_ _)); refine blk_far ?_ NB303_308.out _; (with_reducible repeat (first | refine blk_drewN ?_ _ | refine blk_drew ?_ | refine blk_alloc ?_ _)); refine blk_far ?_ NB303_308.out _; (with_reducible repeat (first | refine blk_drewN ?_ _ | refine blk_drew ?_ | refine blk_alloc ?_ _)); exact BK303.out⟩
    have n2_ : Aside0 ((((w11.setCell ⟨gb308, 0, none⟩ (.int .u64 t305)).setCell ⟨gb308, 1, none⟩ (.int .u64 t306)).setCell ⟨gb308, 2, none⟩ (.bool t307)).heap[gb308]? = some (.cells #[.int .u64 t305, .int .u64 t306, .bool t307] 45 (0, 0))) := ⟨by (with_reducible repeat (first | refine blk_drewN ?_ _ | refine blk_drew ?_ | refine blk_alloc ?_ _)); refine blk_put (cs := #[.int .u64 t305, .int .u64 t306, .bool false]) ?_ 2 _ rfl; (with_reducible repeat (first | refine blk_drewN ?_ _ | refine blk_drew ?_ | refine blk_alloc ?_ _)); refine blk_put (cs := #[.int .u64 t305, .int .u64 0, .bool false]) ?_ 1 _ rfl; (with_reducible repeat (first | refine blk_drewN ?_ _ | refine blk_drew ?_ | refine blk_alloc ?_ _)); refine blk_put (cs := #[.int .u64 0, .int .u64 0, .bool false]) ?_ 0 _ rfl; (with_reducible repeat (first | refine blk_drewN ?_ _ | refine blk_drew ?_ | refine blk_alloc ?_ _)); exact BK308.out⟩
    have n3_ : Aside0 (Below w.heap.size w (((w11.setCell ⟨gb308, 0, none⟩ (.int .u64 t305)).setCell ⟨gb308, 1, none⟩ (.int .u64 t306)).setCell ⟨gb308, 2, none⟩ (.bool t307))) := ⟨by repeat (first | (with_reducible first | exact HB.out | apply below_alloc | apply pw_below_drewN | apply below_drew1 | refine below_set ?_ GE302.out | refine below_set ?_ GE303.out | refine below_set ?_ GE308.out) | exact HB.out)⟩
    (try clear BK302)
    (try clear BK303)
    (try clear BK308)
    (try clear HB)
    generalize (((w11.setCell ⟨gb308, 0, none⟩ (.int .u64 t305)).setCell ⟨gb308, 1, none⟩ (.int .u64 t306)).setCell ⟨gb308, 2, none⟩ (.bool t307)) = w15 at n0_ n1_ n2_ n3_ ⊢
    have BK302 := n0_
    have BK303 := n1_
    have BK308 := n2_
    have HB := n3_
    clear n0_ n1_ n2_ n3_
    have n0_ := Aside0.mk (blk_drew BK302.out)
    have n1_ := Aside0.mk (blk_drew BK303.out)
    have n2_ := Aside0.mk (blk_drew BK308.out)
    have n3_ := Aside0.mk (below_drew1 HB.out)
    clear BK302
    clear BK303
    clear BK308
    clear HB
    have BK302 := n0_
    have BK303 := n1_
    have BK308 := n2_
    have HB := n3_
    clear n0_ n1_ n2_ n3_
    refine start_ (n := 6) (S := fun w' => w'.cell? ⟨gb308, 0, none⟩ = some (.int .u64 t305) ∧ w'.cell? ⟨gb308, 1, none⟩ = some (.int .u64 t306) ∧ w'.cell? ⟨gb308, 2, none⟩ = some (.bool t307) ∧ w'.cell? ⟨gb302, 0, none⟩ = some (.int .u64 a1_0) ∧ w'.cell? ⟨gb302, 1, none⟩ = some (.int .u64 a1_1) ∧ w'.cell? ⟨gb302, 2, none⟩ = some (.int .u64 a1_2) ∧ w'.cell? ⟨gb302, 3, none⟩ = some (.int .u64 a1_3)) (ds := []) #[false, false, false, false, false, false] (by kernel_rfl) rfl rfl ⟨(blk_cell BK308.out 0).trans rfl, (blk_cell BK308.out 1).trans rfl, (blk_cell BK308.out 2).trans rfl, (blk_cell BK302.out 0).trans rfl, (blk_cell BK302.out 1).trans rfl, (blk_cell BK302.out 2).trans rfl, (blk_cell BK302.out 3).trans rfl⟩ (fun hHeld => ?_)
    generalize w15.drew = w16 at BK302 BK303 BK308 HB hHeld ⊢
    refine take_ (i := 0) (N := some 12) (v := ?_) (a' := ?_) #[true, false, false, false, false, false] rfl rfl (by kernel_rfl) (fun _ _ _ h => h) (Or.inl ⟨by rfl, ?_⟩) hHeld ?_ ?_
    rotate_left
    · rintro w' ⟨s0, s1, s2, s3, s4, s5, s6⟩
      go_simp
      with_reducible rfl
    rotate_left
    · simp only [Act.put, List.setIfInBounds_toArray, List.set_cons_zero, List.set_cons_succ, i64_w, i32_w]
      rfl
    refine take_ (i := 1) (N := some 13) (v := ?_) (a' := ?_) #[true, true, false, false, false, false] rfl rfl (by kernel_rfl) (fun _ _ _ h => h) (Or.inl ⟨by rfl, ?_⟩) hHeld ?_ ?_
    rotate_left
    · rintro w' ⟨s0, s1, s2, s3, s4, s5, s6⟩
      go_simp
      with_reducible rfl
    rotate_left
    · simp only [Act.put, List.setIfInBounds_toArray, List.set_cons_zero, List.set_cons_succ, i64_w, i32_w]
      rfl
    refine take_ (i := 2) (N := some 14) (v := ?_) (a' := ?_) #[true, true, true, false, false, false] rfl rfl (by kernel_rfl) (fun _ _ _ h => h) (Or.inl ⟨by rfl, ?_⟩) hHeld ?_ ?_
    rotate_left
    · rintro w' ⟨s0, s1, s2, s3, s4, s5, s6⟩
      go_simp
      with_reducible rfl
    rotate_left
    · simp only [Act.put, List.setIfInBounds_toArray, List.set_cons_zero, List.set_cons_succ, i64_w, i32_w]
      rfl
    refine one_ (i := 3) (N := some 15) #[true, true, true, true, false, false] rfl rfl (by kernel_rfl) (by decide) (fun K hK => ?_)
    refine goes_ Tryd.func37 (by kernel_rfl) rfl #[.agg #[.int .u64 t305, .int .u64 t306, .bool t307], .agg #[.int .u64 a1_0, .int .u64 a1_1, .int .u64 a1_2, .int .u64 a1_3]] (by rfl) rfl rfl (by (try simp only [List.map_toArray, List.map_cons, List.map_nil]); first | done | rfl | (simp only [List.length_drop, List.length_take]; rfl) | (go_simp; done) | (go_simp; rw [Int.tmod_eq_emod_of_nonneg (by omega)]; omega)) ?_
    with_reducible refine (sponge_mixer_reduced.calls t305 t306 t307 a1_0 a1_1 a1_2 a1_3 t309 t310 t311 t312 _ A6.out).mono ?_
    rintro e w17 ⟨rfl, hb⟩
    refine ⟨_, rfl, ?_⟩
    have n0_ := Aside0.mk (blk_below (g := gb302) (o := .cells #[.int .u64 a1_0, .int .u64 a1_1, .int .u64 a1_2, .int .u64 a1_3] 23 (0, 0)) (by (with_reducible repeat (first | refine blk_drewN ?_ _ | refine blk_drew ?_ | refine blk_alloc ?_ _)); exact BK302.out) hb)
    have n1_ := Aside0.mk (blk_below (g := gb303) (o := .cells #[.int .u64 0, .int .u64 0, .int .u64 0, .int .u64 0] 23 (0, 0)) (by (with_reducible repeat (first | refine blk_drewN ?_ _ | refine blk_drew ?_ | refine blk_alloc ?_ _)); exact BK303.out) hb)
    have n2_ := Aside0.mk (blk_below (g := gb308) (o := .cells #[.int .u64 t305, .int .u64 t306, .bool t307] 45 (0, 0)) (by (with_reducible repeat (first | refine blk_drewN ?_ _ | refine blk_drew ?_ | refine blk_alloc ?_ _)); exact BK308.out) hb)
    have n3_ := Aside0.mk (below_step (by repeat (first | (with_reducible first | exact HB.out | apply below_alloc | apply pw_below_drewN | apply below_drew1 | refine below_set ?_ GE302.out | refine below_set ?_ GE303.out | refine below_set ?_ GE308.out) | exact HB.out)) hb)
    clear BK302
    clear BK303
    clear BK308
    clear HB
    have BK302 := n0_
    have BK303 := n1_
    have BK308 := n2_
    have HB := n3_
    clear n0_ n1_ n2_ n3_
    (try clear hb)
    (try clear hb2)
    (try clear hk)
    (try clear hi)
    refine hK.out _ _ ⟨(blk_cell BK308.out 0).trans rfl, (blk_cell BK308.out 1).trans rfl, (blk_cell BK308.out 2).trans rfl, (blk_cell BK302.out 0).trans rfl, (blk_cell BK302.out 1).trans rfl, (blk_cell BK302.out 2).trans rfl, (blk_cell BK302.out 3).trans rfl⟩ (fun hHeld => ?_)
    clear hK K
    refine norm_ (a' := ?_) ?_ ?_
    rotate_left
    · show Act.put _ (some 15) _ = _
      simp only [Act.put, List.setIfInBounds_toArray, List.set_cons_zero, List.set_cons_succ, i64_w, i32_w]
      rfl
    refine one_ (i := 4) (N := some 16) #[true, true, true, true, true, false] rfl rfl (by kernel_rfl) (by decide) (fun K hK => ?_)
    refine goes_ Tryd.func42 (by kernel_rfl) rfl #[.agg #[.int .u64 t305, .int .u64 t306, .bool t307], .agg #[.int .u64 t309, .int .u64 t310, .int .u64 t311, .int .u64 t312]] (by rfl) rfl rfl (by (try simp only [List.map_toArray, List.map_cons, List.map_nil]); first | done | rfl | (simp only [List.length_drop, List.length_take]; rfl) | (go_simp; done) | (go_simp; rw [Int.tmod_eq_emod_of_nonneg (by omega)]; omega)) ?_
    with_reducible refine (sponge_mixer_perm.calls t305 t306 t307 t309 t310 t311 t312 t313 t314 t315 t316 _ A7.out).mono ?_
    rintro e w18 ⟨rfl, hb⟩
    refine ⟨_, rfl, ?_⟩
    have n0_ := Aside0.mk (blk_below (g := gb302) (o := .cells #[.int .u64 a1_0, .int .u64 a1_1, .int .u64 a1_2, .int .u64 a1_3] 23 (0, 0)) (by (with_reducible repeat (first | refine blk_drewN ?_ _ | refine blk_drew ?_ | refine blk_alloc ?_ _)); exact BK302.out) hb)
    have n1_ := Aside0.mk (blk_below (g := gb303) (o := .cells #[.int .u64 0, .int .u64 0, .int .u64 0, .int .u64 0] 23 (0, 0)) (by (with_reducible repeat (first | refine blk_drewN ?_ _ | refine blk_drew ?_ | refine blk_alloc ?_ _)); exact BK303.out) hb)
    have n2_ := Aside0.mk (blk_below (g := gb308) (o := .cells #[.int .u64 t305, .int .u64 t306, .bool t307] 45 (0, 0)) (by (with_reducible repeat (first | refine blk_drewN ?_ _ | refine blk_drew ?_ | refine blk_alloc ?_ _)); exact BK308.out) hb)
    have n3_ := Aside0.mk (below_step (by repeat (first | (with_reducible first | exact HB.out | apply below_alloc | apply pw_below_drewN | apply below_drew1 | refine below_set ?_ GE302.out | refine below_set ?_ GE303.out | refine below_set ?_ GE308.out) | exact HB.out)) hb)
    clear BK302
    clear BK303
    clear BK308
    clear HB
    have BK302 := n0_
    have BK303 := n1_
    have BK308 := n2_
    have HB := n3_
    clear n0_ n1_ n2_ n3_
    (try clear hb)
    (try clear hb2)
    (try clear hk)
    (try clear hi)
    refine hK.out _ _ ⟨(blk_cell BK308.out 0).trans rfl, (blk_cell BK308.out 1).trans rfl, (blk_cell BK308.out 2).trans rfl, (blk_cell BK302.out 0).trans rfl, (blk_cell BK302.out 1).trans rfl, (blk_cell BK302.out 2).trans rfl, (blk_cell BK302.out 3).trans rfl⟩ (fun hHeld => ?_)
    clear hK K
    refine norm_ (a' := ?_) ?_ ?_
    rotate_left
    · show Act.put _ (some 16) _ = _
      simp only [Act.put, List.setIfInBounds_toArray, List.set_cons_zero, List.set_cons_succ, i64_w, i32_w]
      rfl
    refine one_ (i := 5) (N := none) #[true, true, true, true, true, true] rfl rfl (by kernel_rfl) (by decide) (fun K hK => ?_)
    have hs19 : w18.cell? ⟨gb303, 0, none⟩ = some (.int .u64 0) := (blk_cell BK303.out 0).trans rfl
    have hfs19 := blk_frozen BK303.out 0
    have hns19_0 := NB302_303.out
    have hns19_2 := NB308_303.out
    have hms19_0 := NB303_302.out
    have hms19_2 := NB303_308.out
    have hs20 : w18.cell? ⟨gb303, 1, none⟩ = some (.int .u64 0) := (blk_cell BK303.out 1).trans rfl
    have hfs20 := blk_frozen BK303.out 1
    have hns20_0 := NB302_303.out
    have hns20_2 := NB308_303.out
    have hms20_0 := NB303_302.out
    have hms20_2 := NB303_308.out
    have hs21 : w18.cell? ⟨gb303, 2, none⟩ = some (.int .u64 0) := (blk_cell BK303.out 2).trans rfl
    have hfs21 := blk_frozen BK303.out 2
    have hns21_0 := NB302_303.out
    have hns21_2 := NB308_303.out
    have hms21_0 := NB303_302.out
    have hms21_2 := NB303_308.out
    have hs22 : w18.cell? ⟨gb303, 3, none⟩ = some (.int .u64 0) := (blk_cell BK303.out 3).trans rfl
    have hfs22 := blk_frozen BK303.out 3
    have hns22_0 := NB302_303.out
    have hns22_2 := NB308_303.out
    have hms22_0 := NB303_302.out
    have hms22_2 := NB303_308.out
    refine skip_ (w1 := ?_) (by rfl) rfl ?_ ?_
    rotate_left
    · go_simp
      rfl
    refine hK.out _ _ ⟨((cell_far (p := ⟨gb303, _, none⟩) NB308_303.out _).trans (((cell_far (p := ⟨gb303, _, none⟩) NB308_303.out _).trans (((cell_far (p := ⟨gb303, _, none⟩) NB308_303.out _).trans (((cell_far (p := ⟨gb303, _, none⟩) NB308_303.out _).trans (hHeld.1)))))))), ((cell_far (p := ⟨gb303, _, none⟩) NB308_303.out _).trans (((cell_far (p := ⟨gb303, _, none⟩) NB308_303.out _).trans (((cell_far (p := ⟨gb303, _, none⟩) NB308_303.out _).trans (((cell_far (p := ⟨gb303, _, none⟩) NB308_303.out _).trans (hHeld.2.1)))))))), ((cell_far (p := ⟨gb303, _, none⟩) NB308_303.out _).trans (((cell_far (p := ⟨gb303, _, none⟩) NB308_303.out _).trans (((cell_far (p := ⟨gb303, _, none⟩) NB308_303.out _).trans (((cell_far (p := ⟨gb303, _, none⟩) NB308_303.out _).trans (hHeld.2.2.1)))))))), ((cell_far (p := ⟨gb303, _, none⟩) NB302_303.out _).trans (((cell_far (p := ⟨gb303, _, none⟩) NB302_303.out _).trans (((cell_far (p := ⟨gb303, _, none⟩) NB302_303.out _).trans (((cell_far (p := ⟨gb303, _, none⟩) NB302_303.out _).trans (hHeld.2.2.2.1)))))))), ((cell_far (p := ⟨gb303, _, none⟩) NB302_303.out _).trans (((cell_far (p := ⟨gb303, _, none⟩) NB302_303.out _).trans (((cell_far (p := ⟨gb303, _, none⟩) NB302_303.out _).trans (((cell_far (p := ⟨gb303, _, none⟩) NB302_303.out _).trans (hHeld.2.2.2.2.1)))))))), ((cell_far (p := ⟨gb303, _, none⟩) NB302_303.out _).trans (((cell_far (p := ⟨gb303, _, none⟩) NB302_303.out _).trans (((cell_far (p := ⟨gb303, _, none⟩) NB302_303.out _).trans (((cell_far (p := ⟨gb303, _, none⟩) NB302_303.out _).trans (hHeld.2.2.2.2.2.1)))))))), ((cell_far (p := ⟨gb303, _, none⟩) NB302_303.out _).trans (((cell_far (p := ⟨gb303, _, none⟩) NB302_303.out _).trans (((cell_far (p := ⟨gb303, _, none⟩) NB302_303.out _).trans (((cell_far (p := ⟨gb303, _, none⟩) NB302_303.out _).trans (hHeld.2.2.2.2.2.2))))))))⟩ (fun hHeld => ?_)
    clear hK K
    refine done_ (by kernel_rfl) ?_
    try go_wp2
    refine bodyPost_ret (results_cell_row rfl _ _ gb303 23 #[.int .u64 t313, .int .u64 t314, .int .u64 t315, .int .u64 t316] (0, 0) _ rfl (by (with_reducible repeat (first | refine blk_drewN ?_ _ | refine blk_drew ?_ | refine blk_alloc ?_ _)); refine blk_put (cs := #[.int .u64 t313, .int .u64 t314, .int .u64 t315, .int .u64 0]) ?_ 3 _ rfl; (with_reducible repeat (first | refine blk_drewN ?_ _ | refine blk_drew ?_ | refine blk_alloc ?_ _)); refine blk_put (cs := #[.int .u64 t313, .int .u64 t314, .int .u64 0, .int .u64 0]) ?_ 2 _ rfl; (with_reducible repeat (first | refine blk_drewN ?_ _ | refine blk_drew ?_ | refine blk_alloc ?_ _)); refine blk_put (cs := #[.int .u64 t313, .int .u64 0, .int .u64 0, .int .u64 0]) ?_ 1 _ rfl; (with_reducible repeat (first | refine blk_drewN ?_ _ | refine blk_drew ?_ | refine blk_alloc ?_ _)); refine blk_put (cs := #[.int .u64 0, .int .u64 0, .int .u64 0, .int .u64 0]) ?_ 0 _ rfl; (with_reducible repeat (first | refine blk_drewN ?_ _ | refine blk_drew ?_ | refine blk_alloc ?_ _)); exact BK303.out) Tryd.underlying23 rfl (by kernel_rfl)) rfl ?_
    exact ⟨by first | rfl | (simp [errW_none, errW_some] <;> rfl) | (simp [*, errW_none, errW_some] <;> rfl), by repeat (first | (with_reducible first | exact HB.out | apply below_alloc | apply pw_below_drewN | apply below_drew1 | refine below_set ?_ GE302.out | refine below_set ?_ GE303.out | refine below_set ?_ GE308.out) | exact HB.out)⟩
  · replace c4 := Bool.eq_false_iff.mpr c4
    subst c4
    have H1 : (some (0, 0, 0, 0)) = some (r1, r2, r3, r4) := by rw [if_neg (show ¬ (false = true) by decide)] at H; exact H
    clear H
    have H := H1
    clear H1
    simp only [Option.some.injEq, Prod.mk.injEq] at H
    obtain ⟨rfl, rfl, rfl, rfl⟩ := H
    go_enter Tryd.func19, Tryd.ntmps19
    go_wp2_with (first | ((with_reducible refine gate_dst (N := 3) rfl ?_); refine box_event ?hg (N := 3) ?hd (cs := #[.int .u64 a1_0, .int .u64 a1_1, .int .u64 a1_2, .int .u64 a1_3]) (t := 23) ?hr ?_; (case hd => rfl); (case hg => rfl); (case hr => first | (go_simp; done) | (go_simp; rfl)); intro gb302 hg w23 hbox hb; have n0_ := Aside0.mk (below_step (by repeat (first | (with_reducible first | exact HB.out | apply below_alloc | apply pw_below_drewN | apply below_drew1) | exact HB.out)) hb); have n1_ := Aside0.mk (hbox); have n2_ := Aside0.mk ((by rw [hg]; exact (below_size (by repeat (first | (with_reducible first | exact HB.out | apply below_alloc | apply pw_below_drewN | apply below_drew1) | exact HB.out))) : w.heap.size ≤ gb302)); have n3_ := Aside0.mk ((by rw [hg]; exact (below_size (by repeat (first | (with_reducible first | exact HB.out | apply below_alloc | apply pw_below_drewN | apply below_drew1) | exact HB.out))) : w.heap.size ≤ gb302)); clear HB; have HB := n0_; have BK302 := n1_; have GW302 := n2_; have GE302 := n3_; clear n0_ n1_ n2_ n3_; clear hb hbox hg) | ((with_reducible refine gate_dst (N := 4) rfl ?_); refine box_event ?hg (N := 4) ?hd (cs := #[.int .u64 0, .int .u64 0, .int .u64 0, .int .u64 0]) (t := 23) ?hr ?_; (case hd => rfl); (case hg => rfl); (case hr => first | (go_simp; done) | (go_simp; rfl)); intro gb303 hg w24 hbox hb; have n0_ := Aside0.mk (blk_below (g := gb302) (o := .cells #[.int .u64 a1_0, .int .u64 a1_1, .int .u64 a1_2, .int .u64 a1_3] 23 (0, 0)) (by (with_reducible repeat (first | refine blk_drewN ?_ _ | refine blk_drew ?_ | refine blk_alloc ?_ _)); exact BK302.out) hb); have n1_ := Aside0.mk (below_step (by repeat (first | (with_reducible first | exact HB.out | apply below_alloc | apply pw_below_drewN | apply below_drew1 | refine below_set ?_ GE302.out) | exact HB.out)) hb); have n2_ := Aside0.mk (hbox); have n3_ := Aside0.mk ((by rw [hg]; exact (below_size (by repeat (first | (with_reducible first | exact HB.out | apply below_alloc | apply pw_below_drewN | apply below_drew1 | refine below_set ?_ GE302.out) | exact HB.out))) : w.heap.size ≤ gb303)); have n4_ := Aside0.mk ((by rw [hg]; exact (below_size (by repeat (first | (with_reducible first | exact HB.out | apply below_alloc | apply pw_below_drewN | apply below_drew1 | refine below_set ?_ GE302.out) | exact HB.out))) : w.heap.size ≤ gb303)); have n5_ := Aside0.mk ((by rw [hg]; exact Nat.ne_of_lt (blk_lt (g := gb302) (o := .cells #[.int .u64 a1_0, .int .u64 a1_1, .int .u64 a1_2, .int .u64 a1_3] 23 (0, 0)) (by (with_reducible repeat (first | refine blk_drewN ?_ _ | refine blk_drew ?_ | refine blk_alloc ?_ _)); exact BK302.out)) : gb302 ≠ gb303)); have n6_ := Aside0.mk ((by rw [hg]; exact Nat.ne_of_gt (blk_lt (g := gb302) (o := .cells #[.int .u64 a1_0, .int .u64 a1_1, .int .u64 a1_2, .int .u64 a1_3] 23 (0, 0)) (by (with_reducible repeat (first | refine blk_drewN ?_ _ | refine blk_drew ?_ | refine blk_alloc ?_ _)); exact BK302.out)) : gb303 ≠ gb302)); clear BK302; clear HB; have BK302 := n0_; have HB := n1_; have BK303 := n2_; have GW303 := n3_; have GE303 := n4_; have NB302_303 := n5_; have NB303_302 := n6_; clear n0_ n1_ n2_ n3_ n4_ n5_ n6_; clear hb hbox hg) | ((with_reducible refine gate_callee (f := 41) rfl ?_); refine goesL_ (some 7) rfl rfl Tryd.func41 (by kernel_rfl) rfl #[.int .i64 a0] rfl (by (try simp only [List.map_toArray, List.map_cons, List.map_nil]); first | done | rfl | (simp only [List.length_drop, List.length_take]; rfl) | (go_simp; done) | (go_simp; rw [Int.tmod_eq_emod_of_nonneg (by omega)]; omega)) ?_; (with_reducible refine (field_Valid.calls a0 false _ A3.out).mono ?_); rintro e w' ⟨rfl, ⟨nd, rfl⟩⟩; refine ⟨_, rfl, ?_⟩; (try (rw [drewN_self w24]; generalize hq_ : World.drewN w24 _ = w24; have n0_ : Aside0 (w24.heap[gb302]? = some (.cells #[.int .u64 a1_0, .int .u64 a1_1, .int .u64 a1_2, .int .u64 a1_3] 23 (0, 0))) := ⟨by rw [← hq_]; exact (by (with_reducible repeat (first | refine blk_drewN ?_ _ | refine blk_drew ?_ | refine blk_alloc ?_ _)); exact BK302.out)⟩; have n1_ : Aside0 (w24.heap[gb303]? = some (.cells #[.int .u64 0, .int .u64 0, .int .u64 0, .int .u64 0] 23 (0, 0))) := ⟨by rw [← hq_]; exact (by (with_reducible repeat (first | refine blk_drewN ?_ _ | refine blk_drew ?_ | refine blk_alloc ?_ _)); exact BK303.out)⟩; have n2_ : Aside0 (Below w.heap.size w w24) := ⟨by rw [← hq_]; exact (by repeat (first | (with_reducible first | exact HB.out | apply below_alloc | apply pw_below_drewN | apply below_drew1 | refine below_set ?_ GE302.out | refine below_set ?_ GE303.out) | exact HB.out))⟩; clear BK302 BK303 HB hq_; have BK302 := n0_; have BK303 := n1_; have HB := n2_; clear n0_ n1_ n2_)); have hnb25 := NB303_302.out; have hnc25 := NB302_303.out; have hcz26_0 : w24.cell? ⟨gb303, 0, none⟩ = some (.int .u64 0) := (blk_cell BK303.out 0).trans rfl; have hcz26_1 : w24.cell? ⟨gb303, 1, none⟩ = some (.int .u64 0) := (blk_cell BK303.out 1).trans rfl; have hcz26_2 : w24.cell? ⟨gb303, 2, none⟩ = some (.int .u64 0) := (blk_cell BK303.out 2).trans rfl; have hcz26_3 : w24.cell? ⟨gb303, 3, none⟩ = some (.int .u64 0) := (blk_cell BK303.out 3).trans rfl; have hfz26_0 := blk_frozen BK303.out 0; have hfz26_1 := blk_frozen BK303.out 1; have hfz26_2 := blk_frozen BK303.out 2; have hfz26_3 := blk_frozen BK303.out 3))
    refine bodyPost_ret (results_cell_row rfl _ _ gb303 23 #[.int .u64 0, .int .u64 0, .int .u64 0, .int .u64 0] (0, 0) _ rfl (by (with_reducible repeat (first | refine blk_drewN ?_ _ | refine blk_drew ?_ | refine blk_alloc ?_ _)); refine blk_put (cs := #[.int .u64 0, .int .u64 0, .int .u64 0, .int .u64 0]) ?_ 3 _ rfl; (with_reducible repeat (first | refine blk_drewN ?_ _ | refine blk_drew ?_ | refine blk_alloc ?_ _)); refine blk_put (cs := #[.int .u64 0, .int .u64 0, .int .u64 0, .int .u64 0]) ?_ 2 _ rfl; (with_reducible repeat (first | refine blk_drewN ?_ _ | refine blk_drew ?_ | refine blk_alloc ?_ _)); refine blk_put (cs := #[.int .u64 0, .int .u64 0, .int .u64 0, .int .u64 0]) ?_ 1 _ rfl; (with_reducible repeat (first | refine blk_drewN ?_ _ | refine blk_drew ?_ | refine blk_alloc ?_ _)); refine blk_put (cs := #[.int .u64 0, .int .u64 0, .int .u64 0, .int .u64 0]) ?_ 0 _ rfl; (with_reducible repeat (first | refine blk_drewN ?_ _ | refine blk_drew ?_ | refine blk_alloc ?_ _)); exact BK303.out) Tryd.underlying23 rfl (by kernel_rfl)) rfl ?_
    exact ⟨by first | rfl | (simp [errW_none, errW_some] <;> rfl) | (simp [*, errW_none, errW_some] <;> rfl), by repeat (first | (with_reducible first | exact HB.out | apply below_alloc | apply pw_below_drewN | apply below_drew1 | refine below_set ?_ GE302.out | refine below_set ?_ GE303.out) | exact HB.out)⟩

end Go.Proofs.YtjfekjblnoagkaaDoor.Q
end
section
namespace Go.Proofs.YtjfekjblnoagkaaDoor.Q
open Go.RowKit Go.Proofs.YtjfekjblnoagkaaDoorW.PrintWords Go.Proofs.YtjfekjblnoagkaaDoorW.PrintLast Go.Proofs.YtjfekjblnoagkaaDoorW.PrintMore
open Go.Proofs.YtjfekjblnoagkaaDoor.Num
set_option linter.unusedVariables false
set_option linter.unusedSimpArgs false

/-- A state of four numbers. -/
structure S4 where
  a : Nat
  b : Nat
  c : Nat
  d : Nat
def S4.o (s : S4) : Int × Int × Int × Int := ((s.a : Int), (s.b : Int), (s.c : Int), (s.d : Int))
def S4.lt (s : S4) (p : Nat) : Prop := s.a < p ∧ s.b < p ∧ s.c < p ∧ s.d < p
def cst (p g n : Nat) : Nat := (g ^ n % p + 7) % p
def mixd (p a b c d : Nat) : S4 := ⟨(2 * a + 3 * b + c + d) % p, (a + 2 * b + 3 * c + d) % p, (a + b + 2 * c + 3 * d) % p, (3 * a + b + c + 2 * d) % p⟩
/-- A round whose first constant has the exponent n + 1. -/
def rn (p g e n : Nat) (s : S4) : S4 := mixd p ((s.a + cst p g (n + 1)) ^ e % p) ((s.b + cst p g (n + 2)) ^ e % p) ((s.c + cst p g (n + 3)) ^ e % p) ((s.d + cst p g (n + 4)) ^ e % p)
def red (p : Nat) (s : S4) : S4 := ⟨s.a % p, s.b % p, s.c % p, s.d % p⟩
def prm (p g e : Nat) : Nat → S4 → S4
  | 0, s => s
  | n + 1, s => rn p g e (4 * n) (prm p g e n s)
theorem prm_succ (p g e n : Nat) (s : S4) : prm p g e (n + 1) s = rn p g e (4 * n) (prm p g e n s) := rfl
theorem bnd {α β : Type} {o : Option α} {v : α} {F : α → Option β} {r : Option β} (h : o = some v) (g : F v = r) : o.bind F = r := by subst h; exact g
/-- The field f has p elements, the generator g, the exponent e. -/
structure Fd (f : Int) (p g e : Nat) : Prop where
  F : Fld f p
  gen : fg f = (g : Int)
  exp : fe f = (e : Int)
  e53 : e = 5 ∨ e = 3
  glt : g < p
  p96 : 96 < p
theorem fd_of {f : Int} (h0 : 0 ≤ f) (h1 : f < 4) : ∃ p g e, Fd f p g e := by
  rcases (show f = 0 ∨ f = 1 ∨ f = 2 ∨ f = 3 by omega) with rfl | rfl | rfl | rfl
  · exact ⟨97, 5, 5, ⟨by decide, by decide, rfl, pr97, by decide⟩, rfl, rfl, Or.inl rfl, by decide, by decide⟩
  · exact ⟨257, 3, 3, ⟨by decide, by decide, rfl, pr257, by decide⟩, rfl, rfl, Or.inr rfl, by decide, by decide⟩
  · exact ⟨12289, 11, 5, ⟨by decide, by decide, rfl, pr12289, by decide⟩, rfl, rfl, Or.inl rfl, by decide, by decide⟩
  · exact ⟨998244353, 3, 3, ⟨by decide, by decide, rfl, pr998244353, by decide⟩, rfl, rfl, Or.inr rfl, by decide, by decide⟩
theorem rn_lt {p : Nat} (hp : 0 < p) (g e n : Nat) (s : S4) : (rn p g e n s).lt p := ⟨Nat.mod_lt _ hp, Nat.mod_lt _ hp, Nat.mod_lt _ hp, Nat.mod_lt _ hp⟩
theorem red_lt {p : Nat} (hp : 0 < p) (s : S4) : (red p s).lt p := ⟨Nat.mod_lt _ hp, Nat.mod_lt _ hp, Nat.mod_lt _ hp, Nat.mod_lt _ hp⟩
theorem prm_lt {p : Nat} (hp : 0 < p) (g e : Nat) (s : S4) (hs : s.lt p) : ∀ n, (prm p g e n s).lt p
  | 0 => hs
  | n + 1 => rn_lt hp _ _ _ _
theorem red_id {p : Nat} {s : S4} (h : s.lt p) : red p s = s := by
  obtain ⟨a, b, c, d⟩ := s
  obtain ⟨h1, h2, h3, h4⟩ := h
  simp only [red, Nat.mod_eq_of_lt h1, Nat.mod_eq_of_lt h2, Nat.mod_eq_of_lt h3, Nat.mod_eq_of_lt h4]
theorem Fd.pos {f : Int} {p g e : Nat} (D : Fd f p g e) : 0 < p := by have := D.p96; omega

theorem pw5 (p x : Nat) : x * x % p * (x * x % p) % p * x % p = x ^ 5 % p := by
  rw [← Nat.mul_mod, Nat.mul_mod (x * x * (x * x) % p), Nat.mod_mod, ← Nat.mul_mod]
  congr 1
  simp only [Nat.pow_succ, Nat.pow_zero, Nat.one_mul, Nat.mul_assoc]
theorem pw3 (p x : Nat) : x * x % p * x % p = x ^ 3 % p := by
  rw [Nat.mul_mod (x * x % p), Nat.mod_mod, ← Nat.mul_mod]
  congr 1
  simp only [Nat.pow_succ, Nat.pow_zero, Nat.one_mul, Nat.mul_assoc]
theorem castM (a b : Nat) : (a : Int) * (b : Int) = ((a * b : Nat) : Int) := (Int.natCast_mul a b).symm
theorem castA (a b : Nat) : (a : Int) + (b : Int) = ((a + b : Nat) : Int) := (Int.natCast_add a b).symm
theorem power_f {f : Int} {p g e : Nat} (D : Fd f p g e) (x : Nat) (hx : x < p) : sponge_mixer_power.f p g ((e : Int) == 5) x = some ((x ^ e % p : Nat) : Int) := by
  unfold sponge_mixer_power.f
  have hb := D.F.big
  have h1 := mul_lt hb x x hx hx
  have m1 := D.F.md (x * x)
  have h3 := mul_lt hb _ x m1 hx
  rw [if_neg D.F.ne]
  rcases D.e53 with rfl | rfl
  · have h2 := mul_lt hb _ _ m1 m1
    have h4 := mul_lt hb _ x (D.F.md (x * x % p * (x * x % p))) hx
    rw [if_pos (by decide), castM, wrapU h1, tmodN, castM, wrapU h2, tmodN, castM, wrapU h4, tmodN, pw5]
  · rw [if_neg (by decide), castM, wrapU h1, tmodN, castM, wrapU h3, tmodN, pw3]
theorem kstep {f : Int} {p g e : Nat} (D : Fd f p g e) (n : Nat) : Int.tmod (IntKind.u64.wrap (((g ^ n % p : Nat) : Int) * (g : Int))) (p : Int) = ((g ^ (n + 1) % p : Nat) : Int) := by
  rw [castM, wrapU (mul_lt D.F.big _ _ (D.F.md _) D.glt), tmodN, Nat.pow_succ, Nat.mul_mod (g ^ n % p), Nat.mod_mod, ← Nat.mul_mod]
theorem astep {f : Int} {p g e : Nat} (D : Fd f p g e) (n s : Nat) (hs : s < p) : Int.tmod (IntKind.u64.wrap (IntKind.u64.wrap ((s : Int) + ((g ^ n % p : Nat) : Int)) + 7)) (p : Int) = (((s + cst p g n) % p : Nat) : Int) := by
  have h1 := D.F.md (g ^ n)
  have hb := D.F.big
  rw [castA, wrapU (by omega), show (7 : Int) = ((7 : Nat) : Int) from rfl, castA, wrapU (by omega), tmodN, cst, Nat.add_mod_mod, Nat.add_assoc]
theorem mstep {f : Int} {p g e : Nat} (D : Fd f p g e) (a b c d x y : Nat) (ha : a < p) (hb : b < p) (hc : c < p) (hd : d < p) (hx : x < p) (hy : y < p) :
    Int.tmod (IntKind.u64.wrap (IntKind.u64.wrap (IntKind.u64.wrap (IntKind.u64.wrap (IntKind.u64.wrap ((a : Int) + (b : Int)) + (c : Int)) + (d : Int)) + (x : Int)) + IntKind.u64.wrap (2 * (y : Int)))) (p : Int) = (((a + b + c + d + x + 2 * y) % p : Nat) : Int) := by
  have := D.F.big
  rw [castA, wrapU (by omega), castA, wrapU (by omega), castA, wrapU (by omega), castA, wrapU (by omega), show (2 : Int) = ((2 : Nat) : Int) from rfl, castM, wrapU (by omega), castA, wrapU (by omega), tmodN]
theorem round_f {f : Int} {p g e : Nat} (D : Fd f p g e) (n : Nat) (s : S4) (hs : s.lt p) :
    sponge_mixer_round.f p g ((e : Int) == 5) ((g ^ n % p : Nat) : Int) s.a s.b s.c s.d = some (((g ^ (n + 1 + 1 + 1 + 1) % p : Nat) : Int), (rn p g e n s).o) := by
  obtain ⟨h1, h2, h3, h4⟩ := hs
  unfold sponge_mixer_round.f
  rw [if_neg D.F.ne, kstep D n, kstep D (n + 1), kstep D (n + 1 + 1), kstep D (n + 1 + 1 + 1), astep D _ _ h1, astep D _ _ h2, astep D _ _ h3, astep D _ _ h4,
    power_f D _ (D.F.md _), power_f D _ (D.F.md _), power_f D _ (D.F.md _), power_f D _ (D.F.md _)]
  simp only [Option.bind_some]
  rw [mstep D _ _ _ _ _ _ (D.F.md _) (D.F.md _) (D.F.md _) (D.F.md _) (D.F.md _) (D.F.md _), mstep D _ _ _ _ _ _ (D.F.md _) (D.F.md _) (D.F.md _) (D.F.md _) (D.F.md _) (D.F.md _), mstep D _ _ _ _ _ _ (D.F.md _) (D.F.md _) (D.F.md _) (D.F.md _) (D.F.md _) (D.F.md _), mstep D _ _ _ _ _ _ (D.F.md _) (D.F.md _) (D.F.md _) (D.F.md _) (D.F.md _) (D.F.md _)]
  simp only [← Nat.pow_mod, S4.o, rn, mixd]
  generalize (s.a + cst p g (n + 1)) ^ e % p = w
  generalize (s.b + cst p g (n + 2)) ^ e % p = x
  generalize (s.c + cst p g (n + 3)) ^ e % p = y
  generalize (s.d + cst p g (n + 4)) ^ e % p = z
  rw [show w + x + y + z + w + 2 * x = 2 * w + 3 * x + y + z by omega, show w + x + y + z + x + 2 * y = w + 2 * x + 3 * y + z by omega, show w + x + y + z + y + 2 * z = w + x + 2 * y + 3 * z by omega, show w + x + y + z + z + 2 * w = 3 * w + x + y + 2 * z by omega]
theorem perm_f {f : Int} {p g e : Nat} (D : Fd f p g e) (s : S4) (hs : s.lt p) : sponge_mixer_perm.f p g ((e : Int) == 5) s.a s.b s.c s.d = some (prm p g e 8 s).o := by
  have l := prm_lt D.pos g e s hs
  have r : ∀ n, sponge_mixer_round.f p g ((e : Int) == 5) ((g ^ (4 * n) % p : Nat) : Int) (prm p g e n s).a (prm p g e n s).b (prm p g e n s).c (prm p g e n s).d = some (((g ^ (4 * (n + 1)) % p : Nat) : Int), (prm p g e (n + 1) s).o) := fun n => round_f D (4 * n) (prm p g e n s) (l n)
  have one : (1 : Int) = ((g ^ (4 * 0) % p : Nat) : Int) := by rw [Nat.mul_zero, Nat.pow_zero, Nat.mod_eq_of_lt (by have := D.p96; omega)]; rfl
  unfold sponge_mixer_perm.f
  rw [one]
  have r0 := r 0
  have r1 := r 1
  have r2 := r 2
  have r3 := r 3
  have r4 := r 4
  have r5 := r 5
  have r6 := r 6
  have r7 := r 7
  simp only [Nat.zero_add, Nat.reduceAdd] at r0 r1 r2 r3 r4 r5 r6 r7
  generalize prm p g e 8 s = s8 at *
  generalize prm p g e 7 s = s7 at *
  generalize prm p g e 6 s = s6 at *
  generalize prm p g e 5 s = s5 at *
  generalize prm p g e 4 s = s4 at *
  generalize prm p g e 3 s = s3 at *
  generalize prm p g e 2 s = s2 at *
  generalize prm p g e 1 s = s1 at *
  rw [show prm p g e 0 s = s from rfl] at r0
  rw [r0]
  simp only [Option.bind_some, S4.o]
  rw [r1]
  simp only [Option.bind_some, S4.o]
  rw [r2]
  simp only [Option.bind_some, S4.o]
  rw [r3]
  simp only [Option.bind_some, S4.o]
  rw [r4]
  simp only [Option.bind_some, S4.o]
  rw [r5]
  simp only [Option.bind_some, S4.o]
  rw [r6]
  simp only [Option.bind_some, S4.o]
  rw [r7]
  simp only [Option.bind_some, S4.o]
theorem in_f {f : Int} {p g e : Nat} (D : Fd f p g e) : sponge_in.f f = some ((p : Int), (g : Int), ((e : Int) == 5)) := by
  unfold sponge_in.f field_P.f field_Generator.f field_Exponent.f
  simp only [Option.bind_some, D.F.eq, D.gen, D.exp]
theorem red_f {f : Int} {p g e : Nat} (D : Fd f p g e) (g' : Int) (b : Bool) (s : S4) : sponge_mixer_reduced.f p g' b s.a s.b s.c s.d = some (red p s).o := by
  unfold sponge_mixer_reduced.f
  rw [if_neg D.F.ne, tmodN, tmodN, tmodN, tmodN]
  rfl
theorem Perm_f {f : Int} {p g e : Nat} (D : Fd f p g e) (s : S4) : sponge_Perm.f f s.a s.b s.c s.d = some (prm p g e 8 (red p s)).o := by
  unfold sponge_Perm.f
  rw [valid_yes D.F, in_f D]
  simp only [Option.bind_some, if_true]
  rw [red_f D]
  simp only [Option.bind_some, S4.o]
  rw [perm_f D _ (red_lt D.pos s)]
  simp only [Option.bind_some, S4.o]
theorem Perm_no {f : Int} (h : ¬ (0 ≤ f ∧ f < 4)) (a b c d : Int) : sponge_Perm.f f a b c d = some (0, 0, 0, 0) := by
  unfold sponge_Perm.f
  rw [valid_no h]
  rfl
theorem known_f (f r : Int) : sponge_known.f f r = some (decide ((0 ≤ f ∧ f < 4) ∧ 0 ≤ r ∧ r < 8)) := by
  unfold sponge_known.f
  by_cases h : 0 ≤ f ∧ f < 4
  · obtain ⟨p, F⟩ := fld_of h.1 h.2
    rw [valid_yes F]
    simp only [Option.bind_some, if_true]
    by_cases h1 : r ≥ 0
    · rw [if_pos h1]
      simp [h, h1]
    · rw [if_neg h1]
      simp [h1]
  · rw [valid_no h]
    simp [h]
theorem expo (r pl : Nat) (hr : r < 8) (hp : pl < 4) : IntKind.u64.wrap (wrap64 ((wrap64 ((wrap64 (4 * (r : Int))) + (pl : Int))) + 1)) = ((4 * r + (pl + 1) : Nat) : Int) := by
  rw [wrapS (x := 4 * (r : Int)) (by omega) (by omega), wrapS (x := 4 * (r : Int) + (pl : Int)) (by omega) (by omega), wrapS (x := 4 * (r : Int) + (pl : Int) + 1) (by omega) (by omega), show (4 * (r : Int) + (pl : Int) + 1) = ((4 * r + (pl + 1) : Nat) : Int) by omega, wrapU (by omega)]
theorem const_yes {f : Int} {p g e : Nat} (D : Fd f p g e) (k r pl : Nat) (hk : 65 < k) (hr : r < 8) (hp : pl < 4) : sponge_Constant.f k f r pl = some ((cst p g (4 * r + (pl + 1)) : Nat) : Int) := by
  obtain ⟨k, rfl⟩ : ∃ j, k = j + 1 := ⟨k - 1, by omega⟩
  unfold sponge_Constant.f
  rw [known_f, decide_eq_true ⟨⟨D.F.lo, D.F.hi⟩, by omega, by omega⟩]
  simp only [Option.bind_some, if_true]
  rw [if_neg (by omega), decide_eq_false (by omega)]
  simp only [sponge_Constant.j0, Bool.false_eq_true, if_false]
  rw [show field_Generator.f f = some (g : Int) by unfold field_Generator.f; rw [D.gen]]
  simp only [Option.bind_some]
  rw [expo r pl hr hp, pow_f D.F k g _ (by omega) (by omega)]
  simp only [Option.bind_some]
  rw [show (7 : Int) = ((7 : Nat) : Int) from rfl, add_f D.F]
  rfl
theorem const_no (f r pl : Int) (k : Nat) (h : ¬ ((0 ≤ f ∧ f < 4) ∧ (0 ≤ r ∧ r < 8) ∧ 0 ≤ pl ∧ pl < 4)) : sponge_Constant.f (k + 1) f r pl = some 0 := by
  unfold sponge_Constant.f
  rw [known_f]
  simp only [Option.bind_some]
  by_cases h1 : (0 ≤ f ∧ f < 4) ∧ 0 ≤ r ∧ r < 8
  · rw [if_pos (decide_eq_true h1)]
    by_cases h2 : pl < 0
    · rw [if_pos h2]
      simp only [sponge_Constant.j0, if_true]
    · rw [if_neg h2, decide_eq_true (by omega)]
      simp only [sponge_Constant.j0, if_true]
  · rw [if_neg (by simpa using h1)]
    simp only [sponge_Constant.j0, if_true]
theorem Round_yes {f : Int} {p g e : Nat} (D : Fd f p g e) (k r : Nat) (hk : 64 < k) (hr : r < 8) (s : S4) : sponge_Round.f k f r s.a s.b s.c s.d = some (rn p g e (4 * r) (red p s)).o := by
  unfold sponge_Round.f
  rw [known_f, decide_eq_true ⟨⟨D.F.lo, D.F.hi⟩, by omega, by omega⟩, in_f D]
  simp only [Option.bind_some, if_true]
  rw [wrapS (x := 4 * (r : Int)) (by omega) (by omega), show (4 * (r : Int)) = ((4 * r : Nat) : Int) by omega, wrapU (by omega), pow_f D.F k g _ hk (by omega)]
  simp only [Option.bind_some]
  rw [red_f D]
  simp only [Option.bind_some, S4.o]
  rw [round_f D _ _ (red_lt D.pos s)]
  simp only [Option.bind_some, S4.o]
theorem Round_no (f r a b c d : Int) (k : Nat) (h : ¬ ((0 ≤ f ∧ f < 4) ∧ 0 ≤ r ∧ r < 8)) : sponge_Round.f k f r a b c d = some (0, 0, 0, 0) := by
  unfold sponge_Round.f
  rw [known_f, decide_eq_false h]
  rfl
end Go.Proofs.YtjfekjblnoagkaaDoor.Q
end
section
namespace Go.Proofs.YtjfekjblnoagkaaDoor.Q
open Go.RowKit Go.Proofs.YtjfekjblnoagkaaDoorW.PrintWords Go.Proofs.YtjfekjblnoagkaaDoorW.PrintLast Go.Proofs.YtjfekjblnoagkaaDoorW.PrintMore
attribute [local go_sem] max2_int min2_int max_two min_two max_three min_three max_four min_four   -- for this text's walks alone
set_option linter.unusedVariables false
set_option linter.unusedSimpArgs false

/-! ### attestorref06_Constant: function 13 -/
def attestorref06_Constant.j0 : Nat → Int → Int → Int → Bool → Option (Int)
  | 0, _, _, _, _ => none
  | k + 1, x0, x1, x2, x25 => if x25 = true then (some 0) else ((attestorref01_Generator.f k x0).bind fun t123 => ((attestorref01_Pow.f k x0 t123 (IntKind.u64.wrap (wrap64 ((wrap64 ((wrap64 (4 * x1)) + x2)) + 1)))).bind fun t124 => ((attestorref01_Add.f x0 t124 7).bind fun t125 => (some t125))))
def attestorref06_Constant.f (k : Nat) (a0 : Int) (a1 : Int) (a2 : Int) : Option (Int) := (attestorref01_Valid.f a0).bind fun t122 => (if t122 = true then (if a1 < 0 then (attestorref06_Constant.j0 k a0 a1 a2 true) else (if a1 > 7 then (attestorref06_Constant.j0 k a0 a1 a2 true) else (if a2 < 0 then (attestorref06_Constant.j0 k a0 a1 a2 true) else (attestorref06_Constant.j0 k a0 a1 a2 (decide (a2 > 3)))))) else (attestorref06_Constant.j0 k a0 a1 a2 true))
theorem attestorref06_Constant.mono_l : ∀ k, (∀ y0 y1 y2 y3, LeO (attestorref06_Constant.j0 k y0 y1 y2 y3) (attestorref06_Constant.j0 (k + 1) y0 y1 y2 y3))
  | 0 => fun _ _ _ _ r h => by simp [attestorref06_Constant.j0] at h
  | k + 1 => by
    have ih0 := attestorref06_Constant.mono_l k
    · intro y0 y1 y2 y3
      unfold attestorref06_Constant.j0
      repeat' first
      | (with_reducible exact ih0 _ _ _ _)
      | (with_reducible exact attestorref01_Generator.mono _ _)
      | (with_reducible exact attestorref01_Pow.mono _ _ _ _)
      | (with_reducible exact LeO.refl _)
      | (with_reducible exact LeO.none _)
      | (with_reducible refine LeO.ite ?_ ?_)
      | (with_reducible refine LeO.bind ?_ (fun _ => ?_))
      | exact ih0 _ _ _ _
      | exact attestorref01_Generator.mono _ _
      | exact attestorref01_Pow.mono _ _ _ _
      | exact LeO.none _
      | refine LeO.ite ?_ ?_
      | refine LeO.bind ?_ (fun _ => ?_)
theorem attestorref06_Constant.mono : ∀ a0 a1 a2 k, LeO (attestorref06_Constant.f k a0 a1 a2) (attestorref06_Constant.f (k + 1) a0 a1 a2) := by
  intro a0 a1 a2 k
  have ih0 := attestorref06_Constant.mono_l k
  unfold attestorref06_Constant.f
  repeat' first
      | (with_reducible exact ih0 _ _ _ _)
      | (with_reducible exact attestorref01_Generator.mono _ _)
      | (with_reducible exact attestorref01_Pow.mono _ _ _ _)
      | (with_reducible exact LeO.refl _)
      | (with_reducible exact LeO.none _)
      | (with_reducible refine LeO.ite ?_ ?_)
      | (with_reducible refine LeO.bind ?_ (fun _ => ?_))
      | exact ih0 _ _ _ _
      | exact attestorref01_Generator.mono _ _
      | exact attestorref01_Pow.mono _ _ _ _
      | exact LeO.none _
      | refine LeO.ite ?_ ?_
      | refine LeO.bind ?_ (fun _ => ?_)
set_option maxHeartbeats 8000000 in
set_option maxRecDepth 100000 in
theorem attestorref06_Constant.calls (k : Nat) (a0 : Int) (a1 : Int) (a2 : Int) (r : Int) (w : World) (h : attestorref06_Constant.f k a0 a1 a2 = some r) :
    Calls Tryd.prog 13 #[.int .i64 a0, .int .i64 a1, .int .i64 a2] w fun e w' => e = .returned (.int .u64 r) ∧ Drawn0 w w' := by
  have H : ((attestorref01_Valid.f a0).bind fun t122 => (if t122 = true then (if a1 < 0 then (attestorref06_Constant.j0 k a0 a1 a2 true) else (if a1 > 7 then (attestorref06_Constant.j0 k a0 a1 a2 true) else (if a2 < 0 then (attestorref06_Constant.j0 k a0 a1 a2 true) else (attestorref06_Constant.j0 k a0 a1 a2 (decide (a2 > 3)))))) else (attestorref06_Constant.j0 k a0 a1 a2 true))) = some r := h
  clear h
  have HC4 := Aside0.mk H
  clear H
  go_enter Tryd.func13, Tryd.ntmps13
  go_upto_region 1 with (fail)
  go_cut [25] (fun v25 wc => ∃ (kq : Nat) (x25_3 : Bool), v25 = .bool x25_3 ∧ Aside0 (attestorref06_Constant.j0 kq a0 a1 a2 x25_3 = some r) ∧ Aside0 (kq ≤ k) ∧ Drawn0 w wc)
  case first =>
    have H := HC4.out
    clear HC4
    replace H := Option.bind_eq_some_iff.mp H
    obtain ⟨t122, A50, H⟩ := H
    replace H : (if t122 = true then (if a1 < 0 then (attestorref06_Constant.j0 k a0 a1 a2 true) else (if a1 > 7 then (attestorref06_Constant.j0 k a0 a1 a2 true) else (if a2 < 0 then (attestorref06_Constant.j0 k a0 a1 a2 true) else (attestorref06_Constant.j0 k a0 a1 a2 (decide (a2 > 3)))))) else (attestorref06_Constant.j0 k a0 a1 a2 true)) = some r := H
    have A5 := Aside0.mk A50
    clear A50
    by_cases c6 : t122 = true
    · subst c6
      have H1 : (if a1 < 0 then (attestorref06_Constant.j0 k a0 a1 a2 true) else (if a1 > 7 then (attestorref06_Constant.j0 k a0 a1 a2 true) else (if a2 < 0 then (attestorref06_Constant.j0 k a0 a1 a2 true) else (attestorref06_Constant.j0 k a0 a1 a2 (decide (a2 > 3)))))) = some r := by rw [if_pos rfl] at H; exact H
      clear H
      have H := H1
      clear H1
      by_cases c7 : a1 < 0
      · rw [if_pos c7] at H
        have c7b0 : decide (a1 < 0) = true := decide_eq_true c7
        clear c7
        (first | rw [c7b0] | (simp only [i64_w, i32_w]; rw [c7b0]) | skip)
        have H' := Aside0.mk H
        clear H
        go_wp2_with (first | ((with_reducible refine gate_callee (f := 31) rfl ?_); refine goesL_ (some 8) rfl rfl Tryd.func31 (by kernel_rfl) rfl #[.int .i64 a0] rfl (by (try simp only [List.map_toArray, List.map_cons, List.map_nil]); first | done | rfl | (simp only [List.length_drop, List.length_take]; rfl) | (go_simp; done) | (go_simp; rw [Int.tmod_eq_emod_of_nonneg (by omega)]; omega)) ?_; (with_reducible refine (attestorref01_Valid.calls a0 true _ A5.out).mono ?_); rintro e w' ⟨rfl, ⟨nd, rfl⟩⟩; refine ⟨_, rfl, ?_⟩))
        go_meet
        case rel => exact ⟨_, (true), (by first | rfl | (simp; done) | (simp [*]; done) | (simp; rfl) | (simp; decide +kernel)), H', ⟨by first | omega | exact Nat.le_refl _⟩, by repeat (first | exact Drawn0.refl _ | apply Drawn0.step)⟩
      · rw [if_neg c7] at H
        have c7b0 : decide (a1 < 0) = false := decide_eq_false c7
        clear c7
        (first | rw [c7b0] | (simp only [i64_w, i32_w]; rw [c7b0]) | skip)
        by_cases c8 : a1 > 7
        · rw [if_pos c8] at H
          have c8b0 : decide (7 < a1) = true := decide_eq_true c8
          clear c8
          have H' := Aside0.mk H
          clear H
          go_wp2_with (first | ((with_reducible refine gate_callee (f := 31) rfl ?_); refine goesL_ (some 8) rfl rfl Tryd.func31 (by kernel_rfl) rfl #[.int .i64 a0] rfl (by (try simp only [List.map_toArray, List.map_cons, List.map_nil]); first | done | rfl | (simp only [List.length_drop, List.length_take]; rfl) | (go_simp; done) | (go_simp; rw [Int.tmod_eq_emod_of_nonneg (by omega)]; omega)) ?_; (with_reducible refine (attestorref01_Valid.calls a0 true _ A5.out).mono ?_); rintro e w' ⟨rfl, ⟨nd, rfl⟩⟩; refine ⟨_, rfl, ?_⟩))
          go_meet
          case rel => exact ⟨_, (true), (by first | rfl | (simp; done) | (simp [*]; done) | (simp; rfl) | (simp; decide +kernel)), H', ⟨by first | omega | exact Nat.le_refl _⟩, by repeat (first | exact Drawn0.refl _ | apply Drawn0.step)⟩
        · rw [if_neg c8] at H
          have c8b0 : decide (7 < a1) = false := decide_eq_false c8
          clear c8
          by_cases c9 : a2 < 0
          · rw [if_pos c9] at H
            have c9b0 : decide (a2 < 0) = true := decide_eq_true c9
            clear c9
            have H' := Aside0.mk H
            clear H
            go_wp2_with (first | ((with_reducible refine gate_callee (f := 31) rfl ?_); refine goesL_ (some 8) rfl rfl Tryd.func31 (by kernel_rfl) rfl #[.int .i64 a0] rfl (by (try simp only [List.map_toArray, List.map_cons, List.map_nil]); first | done | rfl | (simp only [List.length_drop, List.length_take]; rfl) | (go_simp; done) | (go_simp; rw [Int.tmod_eq_emod_of_nonneg (by omega)]; omega)) ?_; (with_reducible refine (attestorref01_Valid.calls a0 true _ A5.out).mono ?_); rintro e w' ⟨rfl, ⟨nd, rfl⟩⟩; refine ⟨_, rfl, ?_⟩))
            go_meet
            case rel => exact ⟨_, (true), (by first | rfl | (simp; done) | (simp [*]; done) | (simp; rfl) | (simp; decide +kernel)), H', ⟨by first | omega | exact Nat.le_refl _⟩, by repeat (first | exact Drawn0.refl _ | apply Drawn0.step)⟩
          · rw [if_neg c9] at H
            have c9b0 : decide (a2 < 0) = false := decide_eq_false c9
            clear c9
            have H' := Aside0.mk H
            clear H
            go_wp2_with (first | ((with_reducible refine gate_callee (f := 31) rfl ?_); refine goesL_ (some 8) rfl rfl Tryd.func31 (by kernel_rfl) rfl #[.int .i64 a0] rfl (by (try simp only [List.map_toArray, List.map_cons, List.map_nil]); first | done | rfl | (simp only [List.length_drop, List.length_take]; rfl) | (go_simp; done) | (go_simp; rw [Int.tmod_eq_emod_of_nonneg (by omega)]; omega)) ?_; (with_reducible refine (attestorref01_Valid.calls a0 true _ A5.out).mono ?_); rintro e w' ⟨rfl, ⟨nd, rfl⟩⟩; refine ⟨_, rfl, ?_⟩))
            go_meet
            case rel => exact ⟨_, (decide (a2 > 3)), (by first | rfl | (simp; done) | (simp [*]; done) | (simp; rfl) | (simp; decide +kernel)), H', ⟨by first | omega | exact Nat.le_refl _⟩, by repeat (first | exact Drawn0.refl _ | apply Drawn0.step)⟩
    · replace c6 := Bool.eq_false_iff.mpr c6
      subst c6
      have H1 : (attestorref06_Constant.j0 k a0 a1 a2 true) = some r := by rw [if_neg (show ¬ (false = true) by decide)] at H; exact H
      clear H
      have H := H1
      clear H1
      have H' := Aside0.mk H
      clear H
      go_wp2_with (first | ((with_reducible refine gate_callee (f := 31) rfl ?_); refine goesL_ (some 8) rfl rfl Tryd.func31 (by kernel_rfl) rfl #[.int .i64 a0] rfl (by (try simp only [List.map_toArray, List.map_cons, List.map_nil]); first | done | rfl | (simp only [List.length_drop, List.length_take]; rfl) | (go_simp; done) | (go_simp; rw [Int.tmod_eq_emod_of_nonneg (by omega)]; omega)) ?_; (with_reducible refine (attestorref01_Valid.calls a0 false _ A5.out).mono ?_); rintro e w' ⟨rfl, ⟨nd, rfl⟩⟩; refine ⟨_, rfl, ?_⟩))
      go_meet
      case rel => exact ⟨_, (true), (by first | rfl | (simp; done) | (simp [*]; done) | (simp; rfl) | (simp; decide +kernel)), H', ⟨by first | omega | exact Nat.le_refl _⟩, by repeat (first | exact Drawn0.refl _ | apply Drawn0.step)⟩
  case rest =>
    clear HC4
    try clear c1
    try clear p2
    try clear c3
    try clear c6
    try clear c7
    try clear c7b0
    try clear c8
    try clear c8b0
    try clear c9
    try clear c9b0
    obtain ⟨kq, x25_3, rfl, HA, HJ3, ⟨mc3, rfl⟩⟩ := hcut
    cases kq with
    | zero => exact absurd HA.out (by simp [attestorref06_Constant.j0])
    | succ kj3 =>
      have H := HA.out
      clear HA
      simp only [attestorref06_Constant.j0] at H
      by_cases c10 : x25_3 = true
      · subst c10
        have H1 : (some 0) = some r := by rw [if_pos rfl] at H; exact H
        clear H
        have H := H1
        clear H1
        obtain rfl := Option.some.inj H
        go_wp2
        go_ret
        exact ⟨by first | rfl | (simp; done) | (simp [*]; done), by repeat (first | exact Drawn0.refl _ | apply Drawn0.step)⟩
      · replace c10 := Bool.eq_false_iff.mpr c10
        subst c10
        have H1 : ((attestorref01_Generator.f kj3 a0).bind fun t123 => ((attestorref01_Pow.f kj3 a0 t123 (IntKind.u64.wrap (wrap64 ((wrap64 ((wrap64 (4 * a1)) + a2)) + 1)))).bind fun t124 => ((attestorref01_Add.f a0 t124 7).bind fun t125 => (some t125)))) = some r := by rw [if_neg (show ¬ (false = true) by decide)] at H; exact H
        clear H
        have H := H1
        clear H1
        replace H := Option.bind_eq_some_iff.mp H
        obtain ⟨t123, A110, H⟩ := H
        replace H : ((attestorref01_Pow.f kj3 a0 t123 (IntKind.u64.wrap (wrap64 ((wrap64 ((wrap64 (4 * a1)) + a2)) + 1)))).bind fun t124 => ((attestorref01_Add.f a0 t124 7).bind fun t125 => (some t125))) = some r := H
        have A11 := Aside0.mk A110
        clear A110
        replace H := Option.bind_eq_some_iff.mp H
        obtain ⟨t124, A120, H⟩ := H
        replace H : ((attestorref01_Add.f a0 t124 7).bind fun t125 => (some t125)) = some r := H
        have A12 := Aside0.mk A120
        clear A120
        replace H := Option.bind_eq_some_iff.mp H
        obtain ⟨t125, A130, H⟩ := H
        replace H : (some t125) = some r := H
        have A13 := Aside0.mk A130
        clear A130
        obtain rfl := Option.some.inj H
        go_wp2_with (first | ((with_reducible refine gate_callee (f := 34) rfl ?_); refine goesL_ (some 29) rfl rfl Tryd.func34 (by kernel_rfl) rfl #[.int .i64 a0] rfl (by (try simp only [List.map_toArray, List.map_cons, List.map_nil]); first | done | rfl | (simp only [List.length_drop, List.length_take]; rfl) | (go_simp; done) | (go_simp; rw [Int.tmod_eq_emod_of_nonneg (by omega)]; omega)) ?_; (with_reducible refine (attestorref01_Generator.calls kj3 a0 t123 _ A11.out).mono ?_); rintro e w' ⟨rfl, ⟨nd, rfl⟩⟩; refine ⟨_, rfl, ?_⟩) | ((with_reducible refine gate_callee (f := 33) rfl ?_); refine goesL_ (some 36) rfl rfl Tryd.func33 (by kernel_rfl) rfl #[.int .i64 a0, .int .u64 t123, .int .u64 (IntKind.u64.wrap (wrap64 ((wrap64 ((wrap64 (4 * a1)) + a2)) + 1)))] rfl (by (try simp only [List.map_toArray, List.map_cons, List.map_nil]); first | done | rfl | (simp only [List.length_drop, List.length_take]; rfl) | (go_simp; done) | (go_simp; rw [Int.tmod_eq_emod_of_nonneg (by omega)]; omega)) ?_; (with_reducible refine (attestorref01_Pow.calls kj3 a0 t123 (IntKind.u64.wrap (wrap64 ((wrap64 ((wrap64 (4 * a1)) + a2)) + 1))) t124 _ A12.out).mono ?_); rintro e w' ⟨rfl, ⟨nd, rfl⟩⟩; refine ⟨_, rfl, ?_⟩) | ((with_reducible refine gate_callee (f := 32) rfl ?_); refine goesL_ (some 37) rfl rfl Tryd.func32 (by kernel_rfl) rfl #[.int .i64 a0, .int .u64 t124, .int .u64 7] rfl (by (try simp only [List.map_toArray, List.map_cons, List.map_nil]); first | done | rfl | (simp only [List.length_drop, List.length_take]; rfl) | (go_simp; done) | (go_simp; rw [Int.tmod_eq_emod_of_nonneg (by omega)]; omega)) ?_; (with_reducible refine (attestorref01_Add.calls a0 t124 7 t125 _ A13.out).mono ?_); rintro e w' ⟨rfl, ⟨nd, rfl⟩⟩; refine ⟨_, rfl, ?_⟩))
        go_ret
        exact ⟨by first | rfl | (simp; done) | (simp [*]; done), by repeat (first | exact Drawn0.refl _ | apply Drawn0.step)⟩

end Go.Proofs.YtjfekjblnoagkaaDoor.Q
end
