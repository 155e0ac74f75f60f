/- Several texts in one, in build order. What they prove, each by its own first remark:
Written by our own copy of a printing program (a twelfth state) out of the translation. Not trusted: Lean checks it.
Inverse of the layer, told in natural numbers: it undoes the permutation, and the permutation undoes it. -/
import Derived.Test.YtjfekjblnoagkaaDoorM2
import Derived.Test.YtjfekjblnoagkaaDoorM5
section
namespace Go.Proofs.YtjfekjblnoagkaaDoor.Q
open Go.RowKit Go.Proofs.YtjfekjblnoagkaaDoorW.PrintWords Go.Proofs.YtjfekjblnoagkaaDoorW.PrintLast Go.Proofs.YtjfekjblnoagkaaDoorW.PrintMore
attribute [local go_sem] max2_int min2_int max_two min_two max_three min_three max_four min_four   -- for this text's walks alone
set_option linter.unusedVariables false
set_option linter.unusedSimpArgs false

/-! ### sponge_Inverse: function 25 -/
mutual
def sponge_Inverse.l0 : Nat → Int → Int → Int → Int → Int → Int → Option (Int × Int × Int × Int)
  | 0, _, _, _, _, _, _ => none
  | k + 1, x0, x12, x264000, x264001, x264002, x264003 => if x12 < 8 then ((sponge_gather.f k x0 x264000 x264001 x264002 x264003).bind fun bt266 => (sponge_Inverse.l1 k x0 (wrap64 (7 - x12)) x12 0 bt266.1 bt266.2.1 bt266.2.2.1 bt266.2.2.2)) else (some (x264000, x264001, x264002, x264003))
def sponge_Inverse.l1 : Nat → Int → Int → Int → Int → Int → Int → Int → Int → Option (Int × Int × Int × Int)
  | 0, _, _, _, _, _, _, _, _ => none
  | k + 1, x0, x6, x12, x20, x264000, x264001, x264002, x264003 => if x20 < 4 then (if 0 ≤ x20 then (if 0 ≤ x0 then (if x0 = 0 then ((field_Pow.f k x0 (rd ([x264000, x264001, x264002, x264003] : List Int) x20) 77).bind fun t270 => ((sponge_Constant.f k x0 x6 x20).bind fun t271 => ((field_Sub.f x0 t270 t271).bind fun t272 => (sponge_Inverse.l1 k x0 x6 x12 (wrap64 (x20 + 1)) (updv x264000 0 x20 t272) (updv x264001 1 x20 t272) (updv x264002 2 x20 t272) (updv x264003 3 x20 t272))))) else (if x0 = 1 then ((field_Pow.f k x0 (rd ([x264000, x264001, x264002, x264003] : List Int) x20) 171).bind fun t273 => ((sponge_Constant.f k x0 x6 x20).bind fun t274 => ((field_Sub.f x0 t273 t274).bind fun t275 => (sponge_Inverse.l1 k x0 x6 x12 (wrap64 (x20 + 1)) (updv x264000 0 x20 t275) (updv x264001 1 x20 t275) (updv x264002 2 x20 t275) (updv x264003 3 x20 t275))))) else (if x0 = 2 then ((field_Pow.f k x0 (rd ([x264000, x264001, x264002, x264003] : List Int) x20) 7373).bind fun t276 => ((sponge_Constant.f k x0 x6 x20).bind fun t277 => ((field_Sub.f x0 t276 t277).bind fun t278 => (sponge_Inverse.l1 k x0 x6 x12 (wrap64 (x20 + 1)) (updv x264000 0 x20 t278) (updv x264001 1 x20 t278) (updv x264002 2 x20 t278) (updv x264003 3 x20 t278))))) else (if x0 = 3 then ((field_Pow.f k x0 (rd ([x264000, x264001, x264002, x264003] : List Int) x20) 665496235).bind fun t279 => ((sponge_Constant.f k x0 x6 x20).bind fun t280 => ((field_Sub.f x0 t279 t280).bind fun t281 => (sponge_Inverse.l1 k x0 x6 x12 (wrap64 (x20 + 1)) (updv x264000 0 x20 t281) (updv x264001 1 x20 t281) (updv x264002 2 x20 t281) (updv x264003 3 x20 t281))))) else (none))))) else (none)) else (none)) else (sponge_Inverse.l0 k x0 (wrap64 (x12 + 1)) x264000 x264001 x264002 x264003)
end
def sponge_Inverse.f (k : Nat) (a0 : Int) (a1_0 : Int) (a1_1 : Int) (a1_2 : Int) (a1_3 : Int) : Option (Int × Int × Int × Int) := (field_Valid.f a0).bind fun t265 => (if t265 = true then (sponge_Inverse.l0 k a0 0 a1_0 a1_1 a1_2 a1_3) else (some (0, 0, 0, 0)))
theorem sponge_Inverse.mono_l : ∀ k, (∀ y0 y1 y2 y3 y4 y5, LeO (sponge_Inverse.l0 k y0 y1 y2 y3 y4 y5) (sponge_Inverse.l0 (k + 1) y0 y1 y2 y3 y4 y5)) ∧ (∀ y0 y1 y2 y3 y4 y5 y6 y7, LeO (sponge_Inverse.l1 k y0 y1 y2 y3 y4 y5 y6 y7) (sponge_Inverse.l1 (k + 1) y0 y1 y2 y3 y4 y5 y6 y7))
  | 0 => ⟨fun _ _ _ _ _ _ r h => by simp [sponge_Inverse.l0] at h, fun _ _ _ _ _ _ _ _ r h => by simp [sponge_Inverse.l1] at h⟩
  | k + 1 => by
    obtain ⟨ih0, ih1⟩ := sponge_Inverse.mono_l k
    refine ⟨?_, ?_⟩
    · intro y0 y1 y2 y3 y4 y5
      unfold sponge_Inverse.l0
      repeat' first
      | (with_reducible exact ih0 _ _ _ _ _ _)
      | (with_reducible exact ih1 _ _ _ _ _ _ _ _)
      | (with_reducible exact field_Pow.mono _ _ _ _)
      | (with_reducible exact sponge_Constant.mono _ _ _ _)
      | (with_reducible exact sponge_gather.mono _ _ _ _ _ _)
      | (with_reducible exact LeO.refl _)
      | (with_reducible exact LeO.none _)
      | (with_reducible refine LeO.ite ?_ ?_)
      | (with_reducible refine LeO.bind ?_ (fun _ => ?_))
      | exact ih0 _ _ _ _ _ _
      | exact ih1 _ _ _ _ _ _ _ _
      | exact field_Pow.mono _ _ _ _
      | exact sponge_Constant.mono _ _ _ _
      | exact sponge_gather.mono _ _ _ _ _ _
      | exact LeO.none _
      | refine LeO.ite ?_ ?_
      | refine LeO.bind ?_ (fun _ => ?_)
    · intro y0 y1 y2 y3 y4 y5 y6 y7
      unfold sponge_Inverse.l1
      repeat' first
      | (with_reducible exact ih0 _ _ _ _ _ _)
      | (with_reducible exact ih1 _ _ _ _ _ _ _ _)
      | (with_reducible exact field_Pow.mono _ _ _ _)
      | (with_reducible exact sponge_Constant.mono _ _ _ _)
      | (with_reducible exact sponge_gather.mono _ _ _ _ _ _)
      | (with_reducible exact LeO.refl _)
      | (with_reducible exact LeO.none _)
      | (with_reducible refine LeO.ite ?_ ?_)
      | (with_reducible refine LeO.bind ?_ (fun _ => ?_))
      | exact ih0 _ _ _ _ _ _
      | exact ih1 _ _ _ _ _ _ _ _
      | exact field_Pow.mono _ _ _ _
      | exact sponge_Constant.mono _ _ _ _
      | exact sponge_gather.mono _ _ _ _ _ _
      | exact LeO.none _
      | refine LeO.ite ?_ ?_
      | refine LeO.bind ?_ (fun _ => ?_)
theorem sponge_Inverse.mono : ∀ a0 a1 a2 a3 a4 k, LeO (sponge_Inverse.f k a0 a1 a2 a3 a4) (sponge_Inverse.f (k + 1) a0 a1 a2 a3 a4) := by
  intro a0 a1 a2 a3 a4 k
  obtain ⟨ih0, ih1⟩ := sponge_Inverse.mono_l k
  unfold sponge_Inverse.f
  repeat' first
      | (with_reducible exact ih0 _ _ _ _ _ _)
      | (with_reducible exact ih1 _ _ _ _ _ _ _ _)
      | (with_reducible exact field_Pow.mono _ _ _ _)
      | (with_reducible exact sponge_Constant.mono _ _ _ _)
      | (with_reducible exact sponge_gather.mono _ _ _ _ _ _)
      | (with_reducible exact LeO.refl _)
      | (with_reducible exact LeO.none _)
      | (with_reducible refine LeO.ite ?_ ?_)
      | (with_reducible refine LeO.bind ?_ (fun _ => ?_))
      | exact ih0 _ _ _ _ _ _
      | exact ih1 _ _ _ _ _ _ _ _
      | exact field_Pow.mono _ _ _ _
      | exact sponge_Constant.mono _ _ _ _
      | exact sponge_gather.mono _ _ _ _ _ _
      | exact LeO.none _
      | refine LeO.ite ?_ ?_
      | refine LeO.bind ?_ (fun _ => ?_)
def sponge_Inverse.T11 : Bool × List (List Nat × List Nat) := (true, [([], []), ([], []), ([], []), ([], []), ([3], [3]), ([4], [4]), ([], []), ([6], [6]), ([7], [7]), ([2, 5, 8], [2, 5, 8]), ([], []), ([], []), ([], []), ([10, 11, 12, 9], [10, 11, 12]), ([1, 9, 13, 13], [1, 9, 13]), ([0, 0, 1, 2, 3, 4, 5, 6, 7, 8, 9, 10, 11, 12, 13, 14], [0]), ([15, 14, 14, 0, 1, 2, 3, 4, 5, 6, 7, 8, 9, 10, 11, 12, 13, 14], [14, 15])])
def sponge_Inverse.B11 : List Nat := [0, 0, 0, 0, 8, 24, 0, 64, 192, 508, 0, 0, 0, 8188, 16382, 32767, 65535]
theorem sponge_Inverse.tab11 : rtab .any (opsOf Tryd.f25 11) = sponge_Inverse.T11 := by kernel_rfl
theorem sponge_Inverse.bits11 : waitsOk sponge_Inverse.T11.2 sponge_Inverse.B11 = true := by kernel_rfl
set_option maxHeartbeats 8000000 in
set_option maxRecDepth 100000 in
theorem sponge_Inverse.calls (k : Nat) (a0 : Int) (a1_0 : Int) (a1_1 : Int) (a1_2 : Int) (a1_3 : Int) (r1 : Int) (r2 : Int) (r3 : Int) (r4 : Int) (w : World) (hrG : GL w) (h : sponge_Inverse.f k a0 a1_0 a1_1 a1_2 a1_3 = some (r1, r2, r3, r4)) :
    Calls Tryd.prog 25 #[.int .i64 a0, .agg #[.int .u64 a1_0, .int .u64 a1_1, .int .u64 a1_2, .int .u64 a1_3]] w fun e w' => e = .returned (.agg #[.int .u64 r1, .int .u64 r2, .int .u64 r3, .int .u64 r4]) ∧ Below w.heap.size w w' := by
  have hu23 := Tryd.underlying23
  have HRG := Aside0.mk hrG
  clear hrG
  have HB := Aside0.mk (Below.refl w.heap.size w)
  have H : ((field_Valid.f a0).bind fun t265 => (if t265 = true then (sponge_Inverse.l0 k a0 0 a1_0 a1_1 a1_2 a1_3) else (some (0, 0, 0, 0)))) = some (r1, r2, r3, r4) := h
  clear h
  replace H := Option.bind_eq_some_iff.mp H
  obtain ⟨t265, A30, H⟩ := H
  replace H : (if t265 = true then (sponge_Inverse.l0 k a0 0 a1_0 a1_1 a1_2 a1_3) else (some (0, 0, 0, 0))) = some (r1, r2, r3, r4) := H
  have A3 := Aside0.mk A30
  clear A30
  by_cases c4 : t265 = true
  · subst c4
    have H1 : (sponge_Inverse.l0 k a0 0 a1_0 a1_1 a1_2 a1_3) = some (r1, r2, r3, r4) := by rw [if_pos rfl] at H; exact H
    clear H
    have H := H1
    clear H1
    have H' := Aside0.mk H
    clear H
    go_enter Tryd.func25, Tryd.ntmps25
    go_wp2_with (first | ((with_reducible refine gate_dst (N := 3) rfl ?_); refine box_event ?hg (N := 3) ?hd (cs := #[.int .u64 a1_0, .int .u64 a1_1, .int .u64 a1_2, .int .u64 a1_3]) (t := 23) ?hr ?_; (case hd => rfl); (case hg => rfl); (case hr => first | (go_simp; done) | (go_simp; rfl)); intro gb263 hg w5 hbox hb; have n0_ := Aside0.mk (below_step (by repeat (first | (with_reducible first | exact HB.out | apply below_alloc | apply pw_below_drewN | apply below_drew1) | exact HB.out)) hb); have n1_ := Aside0.mk (hbox); have n2_ := Aside0.mk ((by rw [hg]; exact (below_size (by repeat (first | (with_reducible first | exact HB.out | apply below_alloc | apply pw_below_drewN | apply below_drew1) | exact HB.out))) : w.heap.size ≤ gb263)); have n3_ := Aside0.mk ((by rw [hg]; exact (below_size (by repeat (first | (with_reducible first | exact HB.out | apply below_alloc | apply pw_below_drewN | apply below_drew1) | exact HB.out))) : w.heap.size ≤ gb263)); clear HB; have HB := n0_; have BK263 := n1_; have GW263 := n2_; have GE263 := n3_; clear n0_ n1_ n2_ n3_; clear hb hbox hg) | ((with_reducible refine gate_dst (N := 4) rfl ?_); refine box_event ?hg (N := 4) ?hd (cs := #[.int .u64 0, .int .u64 0, .int .u64 0, .int .u64 0]) (t := 23) ?hr ?_; (case hd => rfl); (case hg => rfl); (case hr => first | (go_simp; done) | (go_simp; rfl)); intro gb264 hg w6 hbox hb; have n0_ := Aside0.mk (blk_below (g := gb263) (o := .cells #[.int .u64 a1_0, .int .u64 a1_1, .int .u64 a1_2, .int .u64 a1_3] 23 (0, 0)) (by (with_reducible repeat (first | refine blk_drewN ?_ _ | refine blk_drew ?_ | refine blk_alloc ?_ _)); exact BK263.out) hb); have n1_ := Aside0.mk (below_step (by repeat (first | (with_reducible first | exact HB.out | apply below_alloc | apply pw_below_drewN | apply below_drew1 | refine below_set ?_ GE263.out) | exact HB.out)) hb); have n2_ := Aside0.mk (hbox); have n3_ := Aside0.mk ((by rw [hg]; exact (below_size (by repeat (first | (with_reducible first | exact HB.out | apply below_alloc | apply pw_below_drewN | apply below_drew1 | refine below_set ?_ GE263.out) | exact HB.out))) : w.heap.size ≤ gb264)); have n4_ := Aside0.mk ((by rw [hg]; exact (below_size (by repeat (first | (with_reducible first | exact HB.out | apply below_alloc | apply pw_below_drewN | apply below_drew1 | refine below_set ?_ GE263.out) | exact HB.out))) : w.heap.size ≤ gb264)); have n5_ := Aside0.mk ((by rw [hg]; exact Nat.ne_of_lt (blk_lt (g := gb263) (o := .cells #[.int .u64 a1_0, .int .u64 a1_1, .int .u64 a1_2, .int .u64 a1_3] 23 (0, 0)) (by (with_reducible repeat (first | refine blk_drewN ?_ _ | refine blk_drew ?_ | refine blk_alloc ?_ _)); exact BK263.out)) : gb263 ≠ gb264)); have n6_ := Aside0.mk ((by rw [hg]; exact Nat.ne_of_gt (blk_lt (g := gb263) (o := .cells #[.int .u64 a1_0, .int .u64 a1_1, .int .u64 a1_2, .int .u64 a1_3] 23 (0, 0)) (by (with_reducible repeat (first | refine blk_drewN ?_ _ | refine blk_drew ?_ | refine blk_alloc ?_ _)); exact BK263.out)) : gb264 ≠ gb263)); clear BK263; clear HB; have BK263 := n0_; have HB := n1_; have BK264 := n2_; have GW264 := n3_; have GE264 := n4_; have NB263_264 := n5_; have NB264_263 := n6_; clear n0_ n1_ n2_ n3_ n4_ n5_ n6_; clear hb hbox hg) | ((with_reducible refine gate_callee (f := 41) rfl ?_); refine goesL_ (some 9) rfl rfl Tryd.func41 (by kernel_rfl) rfl #[.int .i64 a0] rfl (by (try simp only [List.map_toArray, List.map_cons, List.map_nil]); first | done | rfl | (simp only [List.length_drop, List.length_take]; rfl) | (go_simp; done) | (go_simp; rw [Int.tmod_eq_emod_of_nonneg (by omega)]; omega)) ?_; (with_reducible refine (field_Valid.calls a0 true _ A3.out).mono ?_); rintro e w' ⟨rfl, ⟨nd, rfl⟩⟩; refine ⟨_, rfl, ?_⟩))
    go_loopg [12] k (fun kq v12 w' => ∃ (x12_1 : Int) (x264000_1 : Int) (x264001_1 : Int) (x264002_1 : Int) (x264003_1 : Int), v12 = .int .i64 x12_1 ∧ Aside0 (sponge_Inverse.l0 kq a0 x12_1 x264000_1 x264001_1 x264002_1 x264003_1 = some (r1, r2, r3, r4)) ∧ Aside0 (kq ≤ k) ∧ Aside0 (w'.heap[gb263]? = some (.cells #[.int .u64 x264000_1, .int .u64 x264001_1, .int .u64 x264002_1, .int .u64 x264003_1] 23 (0, 0))) ∧ Aside0 (w'.heap[gb264]? = some (.cells #[.int .u64 0, .int .u64 0, .int .u64 0, .int .u64 0] 23 (0, 0))) ∧ Aside0 (Below w.heap.size w w'))
    case atStart => exact ⟨(0), (a1_0), (a1_1), (a1_2), (a1_3), (by first | rfl | (simp; done) | (simp [*]; done) | (simp; rfl) | (simp; decide +kernel)), H', ⟨Nat.le_refl _⟩, ⟨by (with_reducible repeat (first | refine blk_drewN ?_ _ | refine blk_drew ?_ | refine blk_alloc ?_ _)); exact BK263.out⟩, ⟨by (with_reducible repeat (first | refine blk_drewN ?_ _ | refine blk_drew ?_ | refine blk_alloc ?_ _)); exact BK264.out⟩, ⟨by repeat (first | (with_reducible first | exact HB.out | apply below_alloc | apply pw_below_drewN | apply below_drew1 | refine below_set ?_ GE263.out | refine below_set ?_ GE264.out) | exact HB.out)⟩⟩
    case round =>
      clear H'
      try clear c2
      try clear p2
      try clear c4
      obtain ⟨x12_1, x264000_1, x264001_1, x264002_1, x264003_1, rfl, HA, HK1, BK263, BK264, HB⟩ := hrel
      cases gk with
      | zero => exact absurd HA.out (by simp [sponge_Inverse.l0])
      | succ k1 =>
        have H := HA.out
        clear HA
        simp only [sponge_Inverse.l0] at H
        by_cases c7 : x12_1 < 8
        · rw [if_pos c7] at H
          have c7b0 : decide (x12_1 < 8) = true := decide_eq_true c7
          clear c7
          replace H := Option.bind_eq_some_iff.mp H
          obtain ⟨⟨t266, t267, t268, t269⟩, A80, H⟩ := H
          replace H : (sponge_Inverse.l1 k1 a0 (wrap64 (7 - x12_1)) x12_1 0 t266 t267 t268 t269) = some (r1, r2, r3, r4) := H
          have A8 := Aside0.mk A80
          clear A80
          have H' := Aside0.mk H
          clear H
          have hnb9 := NB263_264.out
          have hnc9 := NB264_263.out
          have hcz10_0 : wr.cell? ⟨gb263, 0, none⟩ = some (.int .u64 x264000_1) := (blk_cell BK263.out 0).trans rfl
          have hcz10_1 : wr.cell? ⟨gb263, 1, none⟩ = some (.int .u64 x264001_1) := (blk_cell BK263.out 1).trans rfl
          have hcz10_2 : wr.cell? ⟨gb263, 2, none⟩ = some (.int .u64 x264002_1) := (blk_cell BK263.out 2).trans rfl
          have hcz10_3 : wr.cell? ⟨gb263, 3, none⟩ = some (.int .u64 x264003_1) := (blk_cell BK263.out 3).trans rfl
          have hfz10_0 := blk_frozen BK263.out 0
          have hfz10_1 := blk_frozen BK263.out 1
          have hfz10_2 := blk_frozen BK263.out 2
          have hfz10_3 := blk_frozen BK263.out 3
          go_wp2_with (first | ((with_reducible refine gate_callee (f := 44) rfl ?_); refine goesL_ (some 19) rfl rfl Tryd.func44 (by kernel_rfl) rfl #[.int .i64 a0, .agg #[.int .u64 x264000_1, .int .u64 x264001_1, .int .u64 x264002_1, .int .u64 x264003_1]] rfl (by (try simp only [List.map_toArray, List.map_cons, List.map_nil]); first | done | rfl | (simp only [List.length_drop, List.length_take]; rfl) | (go_simp; done) | (go_simp; rw [Int.tmod_eq_emod_of_nonneg (by omega)]; omega)) ?_; (with_reducible refine (sponge_gather.calls k1 a0 x264000_1 x264001_1 x264002_1 x264003_1 t266 t267 t268 t269 _ ?side1 A8.out).mono ?_); (case side1 => repeat (first | exact (GL.below HRG.out HB.out) | (with_reducible refine GL.alloc ?_ _) | (with_reducible refine GL.drewN ?_ _) | (with_reducible refine GL.drew ?_))); rintro e w11 ⟨rfl, hb⟩; refine ⟨_, rfl, ?_⟩; have n0_ := Aside0.mk (blk_below (g := gb263) (o := .cells #[.int .u64 x264000_1, .int .u64 x264001_1, .int .u64 x264002_1, .int .u64 x264003_1] 23 (0, 0)) (by (with_reducible repeat (first | refine blk_drewN ?_ _ | refine blk_drew ?_ | refine blk_alloc ?_ _)); exact BK263.out) hb); have n1_ := Aside0.mk (blk_below (g := gb264) (o := .cells #[.int .u64 0, .int .u64 0, .int .u64 0, .int .u64 0] 23 (0, 0)) (by (with_reducible repeat (first | refine blk_drewN ?_ _ | refine blk_drew ?_ | refine blk_alloc ?_ _)); exact BK264.out) hb); have n2_ := Aside0.mk (below_step (by repeat (first | (with_reducible first | exact HB.out | apply below_alloc | apply pw_below_drewN | apply below_drew1 | refine below_set ?_ GE263.out | refine below_set ?_ GE264.out) | exact HB.out)) hb); clear BK263; clear BK264; clear HB; have BK263 := n0_; have BK264 := n1_; have HB := n2_; clear n0_ n1_ n2_; (try clear hb); (try clear hb2); (try clear hk); (try clear hi); have hcz12_0 : w11.cell? ⟨gb263, 0, none⟩ = some (.int .u64 x264000_1) := (blk_cell BK263.out 0).trans rfl; have hcz12_1 : w11.cell? ⟨gb263, 1, none⟩ = some (.int .u64 x264001_1) := (blk_cell BK263.out 1).trans rfl; have hcz12_2 : w11.cell? ⟨gb263, 2, none⟩ = some (.int .u64 x264002_1) := (blk_cell BK263.out 2).trans rfl; have hcz12_3 : w11.cell? ⟨gb263, 3, none⟩ = some (.int .u64 x264003_1) := (blk_cell BK263.out 3).trans rfl; have hfz12_0 := blk_frozen BK263.out 0; have hfz12_1 := blk_frozen BK263.out 1; have hfz12_2 := blk_frozen BK263.out 2; have hfz12_3 := blk_frozen BK263.out 3))
          go_loopg [20] k1 (fun kq v20 w' => ∃ (x20_2 : Int) (x264000_2 : Int) (x264001_2 : Int) (x264002_2 : Int) (x264003_2 : Int), v20 = .int .i64 x20_2 ∧ Aside0 (sponge_Inverse.l1 kq a0 (wrap64 (7 - x12_1)) x12_1 x20_2 x264000_2 x264001_2 x264002_2 x264003_2 = some (r1, r2, r3, r4)) ∧ Aside0 (kq ≤ k1) ∧ Aside0 (w'.heap[gb263]? = some (.cells #[.int .u64 x264000_2, .int .u64 x264001_2, .int .u64 x264002_2, .int .u64 x264003_2] 23 (0, 0))) ∧ Aside0 (w'.heap[gb264]? = some (.cells #[.int .u64 0, .int .u64 0, .int .u64 0, .int .u64 0] 23 (0, 0))) ∧ Aside0 (Below w.heap.size w w'))
          case atStart => exact ⟨(0), (t266), (t267), (t268), (t269), (by first | rfl | (simp; done) | (simp [*]; done) | (simp; rfl) | (simp; decide +kernel)), H', ⟨Nat.le_refl _⟩, ⟨by (with_reducible repeat (first | refine blk_drewN ?_ _ | refine blk_drew ?_ | refine blk_alloc ?_ _)); refine blk_put (cs := #[.int .u64 t266, .int .u64 t267, .int .u64 t268, .int .u64 x264003_1]) ?_ 3 _ rfl; (with_reducible repeat (first | refine blk_drewN ?_ _ | refine blk_drew ?_ | refine blk_alloc ?_ _)); refine blk_put (cs := #[.int .u64 t266, .int .u64 t267, .int .u64 x264002_1, .int .u64 x264003_1]) ?_ 2 _ rfl; (with_reducible repeat (first | refine blk_drewN ?_ _ | refine blk_drew ?_ | refine blk_alloc ?_ _)); refine blk_put (cs := #[.int .u64 t266, .int .u64 x264001_1, .int .u64 x264002_1, .int .u64 x264003_1]) ?_ 1 _ rfl; (with_reducible repeat (first | refine blk_drewN ?_ _ | refine blk_drew ?_ | refine blk_alloc ?_ _)); refine blk_put (cs := #[.int .u64 x264000_1, .int .u64 x264001_1, .int .u64 x264002_1, .int .u64 x264003_1]) ?_ 0 _ rfl; (with_reducible repeat (first | refine blk_drewN ?_ _ | refine blk_drew ?_ | refine blk_alloc ?_ _)); exact BK263.out⟩, ⟨by (with_reducible repeat (first | refine blk_drewN ?_ _ | refine blk_drew ?_ | refine blk_alloc ?_ _)); refine blk_far ?_ NB264_263.out _; (with_reducible repeat (first | refine blk_drewN ?_ _ | refine blk_drew ?_ | refine blk_alloc ?_ _)); refine blk_far ?_ NB264_263.out _; (with_reducible repeat (first | refine blk_drewN ?_ _ | refine blk_drew ?_ | refine blk_alloc ?_ _)); refine blk_far ?_ NB264_263.out _; (with_reducible repeat (first | refine blk_drewN ?_ _ | refine blk_drew ?_ | refine blk_alloc ?_ _)); refine blk_far ?_ NB264_263.out _; (with_reducible repeat (first | refine blk_drewN ?_ _ | refine blk_drew ?_ | refine blk_alloc ?_ _)); exact BK264.out⟩, ⟨by repeat (first | (with_reducible first | exact HB.out | apply below_alloc | apply pw_below_drewN | apply below_drew1 | refine below_set ?_ GE263.out | refine below_set ?_ GE264.out) | exact HB.out)⟩⟩
          case round =>
            clear H'
            try clear c2
            try clear p2
            try clear c4
            try clear p6
            try clear c7
            try clear c7b0
            try clear c9
            try clear hcz10_0
            try clear hcz10_1
            try clear hcz10_2
            try clear hcz10_3
            try clear hcz12_0
            try clear hcz12_1
            try clear hcz12_2
            try clear hcz12_3
            try clear hfz10_0
            try clear hfz10_1
            try clear hfz10_2
            try clear hfz10_3
            try clear hfz12_0
            try clear hfz12_1
            try clear hfz12_2
            try clear hfz12_3
            try clear p2
            obtain ⟨x20_2, x264000_2, x264001_2, x264002_2, x264003_2, rfl, HA, HK2, BK263, BK264, HB⟩ := hrel
            cases gk with
            | zero => exact absurd HA.out (by simp [sponge_Inverse.l1])
            | succ k2 =>
              have H := HA.out
              clear HA
              simp only [sponge_Inverse.l1] at H
              by_cases c13 : x20_2 < 4
              · rw [if_pos c13] at H
                have c13b0 : decide (x20_2 < 4) = true := decide_eq_true c13
                clear c13
                by_cases c14 : 0 ≤ x20_2
                · rw [if_pos c14] at H
                  have c14b0 := eq_true c14
                  have c14b1 : decide (0 ≤ x20_2) = true := decide_eq_true c14
                  clear c14
                  by_cases c15 : 0 ≤ a0
                  · rw [if_pos c15] at H
                    have c15b0 : decide (0 ≤ a0) = true := decide_eq_true c15
                    clear c15
                    by_cases c16 : a0 = 0
                    · rw [if_pos c16] at H
                      subst c16
                      replace H := Option.bind_eq_some_iff.mp H
                      obtain ⟨t270, A170, H⟩ := H
                      replace H : ((sponge_Constant.f k2 0 (wrap64 (7 - x12_1)) x20_2).bind fun t271 => ((field_Sub.f 0 t270 t271).bind fun t272 => (sponge_Inverse.l1 k2 0 (wrap64 (7 - x12_1)) x12_1 (wrap64 (x20_2 + 1)) (updv x264000_2 0 x20_2 t272) (updv x264001_2 1 x20_2 t272) (updv x264002_2 2 x20_2 t272) (updv x264003_2 3 x20_2 t272)))) = some (r1, r2, r3, r4) := H
                      have A17 := Aside0.mk A170
                      clear A170
                      replace H := Option.bind_eq_some_iff.mp H
                      obtain ⟨t271, A180, H⟩ := H
                      replace H : ((field_Sub.f 0 t270 t271).bind fun t272 => (sponge_Inverse.l1 k2 0 (wrap64 (7 - x12_1)) x12_1 (wrap64 (x20_2 + 1)) (updv x264000_2 0 x20_2 t272) (updv x264001_2 1 x20_2 t272) (updv x264002_2 2 x20_2 t272) (updv x264003_2 3 x20_2 t272))) = some (r1, r2, r3, r4) := H
                      have A18 := Aside0.mk A180
                      clear A180
                      replace H := Option.bind_eq_some_iff.mp H
                      obtain ⟨t272, A190, H⟩ := H
                      replace H : (sponge_Inverse.l1 k2 0 (wrap64 (7 - x12_1)) x12_1 (wrap64 (x20_2 + 1)) (updv x264000_2 0 x20_2 t272) (updv x264001_2 1 x20_2 t272) (updv x264002_2 2 x20_2 t272) (updv x264003_2 3 x20_2 t272)) = some (r1, r2, r3, r4) := H
                      have A19 := Aside0.mk A190
                      clear A190
                      have H' := Aside0.mk H
                      clear H
                      try go_wp2
                      have n0_ := Aside0.mk (blk_drew BK263.out)
                      have n1_ := Aside0.mk (blk_drew BK264.out)
                      have n2_ := Aside0.mk (below_drew1 HB.out)
                      clear BK263
                      clear BK264
                      clear HB
                      have BK263 := n0_
                      have BK264 := n1_
                      have HB := n2_
                      clear n0_ n1_ n2_
                      have hlt21 : (x20_2 < 4) = True := eq_true (of_decide_eq_true (by first | (with_reducible assumption) | assumption))
                      have hge22 : (0 ≤ x20_2) = True := eq_true (of_decide_eq_true (by first | (with_reducible assumption) | assumption))
                      have hlt28 : (x20_2 < 4) = True := eq_true (of_decide_eq_true (by first | (with_reducible assumption) | assumption))
                      have hge29 : (0 ≤ x20_2) = True := eq_true (of_decide_eq_true (by first | (with_reducible assumption) | assumption))
                      refine start_ (n := 17) (S := fun w' => w'.cell? ⟨gb263, (x20_2).toNat, none⟩ = some (.int .u64 (rd ([x264000_2, x264001_2, x264002_2, x264003_2] : List Int) x20_2)) ∧ w'.cell? ⟨0, 0, none⟩ = some (.int .u64 77)) (ds := [16]) #[false, false, false, false, false, false, false, false, false, false, false, false, false, false, false, false, false] (by kernel_rfl) rfl rfl ⟨(sel_at (pre := []) (l := ([x264000_2, x264001_2, x264002_2, x264003_2] : List Int)) (post := []) BK263.out rfl (by simp) (of_decide_eq_true (by first | (with_reducible assumption) | assumption)) (of_decide_eq_true (by first | (with_reducible assumption) | assumption))), ((HRG.out.below HB.out).u0 0 (by decide))⟩ (fun hHeld => ?_); refine with_tabW sponge_Inverse.tab11 sponge_Inverse.bits11 (fun HT_ HW_ => ?_)
                      generalize wr.drew = w20 at BK263 BK264 HB hHeld ⊢
                      refine pure_ (i := 0) (N := some 23) (v := ?_) (a' := ?_) #[true, false, false, false, false, false, false, false, false, false, false, false, false, false, false, false, false] rfl rfl (any_of HT_.out (by kernel_rfl)) (fun _ _ _ h => h) (Or.inl ⟨by rfl, ?_⟩) ?_ ?_
                      rotate_left
                      · intro w'
                        go_simp
                        with_reducible rfl
                      rotate_left
                      · simp only [Act.put, List.setIfInBounds_toArray, List.set_cons_zero, List.set_cons_succ, i64_w, i32_w]
                        rfl
                      refine pure_ (i := 1) (N := some 24) (v := ?_) (a' := ?_) #[true, true, false, false, false, false, false, false, false, false, false, false, false, false, false, false, false] rfl rfl (any_of HT_.out (by kernel_rfl)) (fun _ _ _ h => h) (Or.inl ⟨by rfl, ?_⟩) ?_ ?_
                      rotate_left
                      · intro w'
                        go_simp
                        with_reducible rfl
                      rotate_left
                      · simp only [Act.put, List.setIfInBounds_toArray, List.set_cons_zero, List.set_cons_succ, i64_w, i32_w]
                        rfl
                      refine pure_ (i := 2) (N := some 25) (v := ?_) (a' := ?_) #[true, true, true, false, false, false, false, false, false, false, false, false, false, false, false, false, false] rfl rfl (any_of HT_.out (by kernel_rfl)) (fun _ _ _ h => h) (Or.inl ⟨by rfl, ?_⟩) ?_ ?_
                      rotate_left
                      · intro w'
                        go_simp
                        with_reducible rfl
                      rotate_left
                      · simp only [Act.put, List.setIfInBounds_toArray, List.set_cons_zero, List.set_cons_succ, i64_w, i32_w]
                        rfl
                      refine pure_ (i := 3) (N := some 26) (v := ?_) (a' := ?_) #[true, true, true, true, false, false, false, false, false, false, false, false, false, false, false, false, false] rfl rfl (any_of HT_.out (by kernel_rfl)) (fun _ _ _ h => h) (Or.inl ⟨by rfl, ?_⟩) ?_ ?_
                      rotate_left
                      · intro w'
                        go_simp
                        with_reducible rfl
                      rotate_left
                      · simp only [Act.put, List.setIfInBounds_toArray, List.set_cons_zero, List.set_cons_succ, i64_w, i32_w]
                        rfl
                      refine pure_ (i := 4) (N := some 27) (v := ?_) (a' := ?_) #[true, true, true, true, true, false, false, false, false, false, false, false, false, false, false, false, false] rfl rfl (any_of HT_.out (by kernel_rfl)) (fun _ _ _ h => h) (Or.inl ⟨by rfl, ?_⟩) ?_ ?_
                      rotate_left
                      · intro w'
                        go_simp
                        with_reducible rfl
                      rotate_left
                      · simp only [Act.put, List.setIfInBounds_toArray, List.set_cons_zero, List.set_cons_succ, i64_w, i32_w]
                        rfl
                      refine pure_ (i := 6) (N := some 29) (v := ?_) (a' := ?_) #[true, true, true, true, true, false, true, false, false, false, false, false, false, false, false, false, false] rfl rfl (any_of HT_.out (by kernel_rfl)) (fun _ _ _ h => h) (Or.inl ⟨by rfl, ?_⟩) ?_ ?_
                      rotate_left
                      · intro w'
                        go_simp
                        with_reducible rfl
                      rotate_left
                      · simp only [Act.put, List.setIfInBounds_toArray, List.set_cons_zero, List.set_cons_succ, i64_w, i32_w]
                        rfl
                      refine pure_ (i := 7) (N := some 30) (v := ?_) (a' := ?_) #[true, true, true, true, true, false, true, true, false, false, false, false, false, false, false, false, false] rfl rfl (any_of HT_.out (by kernel_rfl)) (fun _ _ _ h => h) (Or.inl ⟨by rfl, ?_⟩) ?_ ?_
                      rotate_left
                      · intro w'
                        go_simp
                        with_reducible rfl
                      rotate_left
                      · simp only [Act.put, List.setIfInBounds_toArray, List.set_cons_zero, List.set_cons_succ, i64_w, i32_w]
                        rfl
                      refine pure_ (i := 10) (N := some 33) (v := ?_) (a' := ?_) #[true, true, true, true, true, false, true, true, false, false, true, false, false, false, false, false, false] rfl rfl (any_of HT_.out (by kernel_rfl)) (fun _ _ _ h => h) (Or.inl ⟨by rfl, ?_⟩) ?_ ?_
                      rotate_left
                      · intro w'
                        go_simp
                        with_reducible rfl
                      rotate_left
                      · simp only [Act.put, List.setIfInBounds_toArray, List.set_cons_zero, List.set_cons_succ, i64_w, i32_w]
                        rfl
                      refine pure_ (i := 11) (N := some 34) (v := ?_) (a' := ?_) #[true, true, true, true, true, false, true, true, false, false, true, true, false, false, false, false, false] rfl rfl (any_of HT_.out (by kernel_rfl)) (fun _ _ _ h => h) (Or.inl ⟨by rfl, ?_⟩) ?_ ?_
                      rotate_left
                      · intro w'
                        go_simp
                        with_reducible rfl
                      rotate_left
                      · simp only [Act.put, List.setIfInBounds_toArray, List.set_cons_zero, List.set_cons_succ, i64_w, i32_w]
                        rfl
                      refine pure_ (i := 12) (N := some 35) (v := ?_) (a' := ?_) #[true, true, true, true, true, false, true, true, false, false, true, true, true, false, false, false, false] rfl rfl (any_of HT_.out (by kernel_rfl)) (fun _ _ _ h => h) (Or.inl ⟨by rfl, ?_⟩) ?_ ?_
                      rotate_left
                      · intro w'
                        go_simp
                        with_reducible rfl
                      rotate_left
                      · simp only [Act.put, List.setIfInBounds_toArray, List.set_cons_zero, List.set_cons_succ, i64_w, i32_w]
                        rfl
                      refine take_ (i := 5) (N := some 28) (v := ?_) (a' := ?_) #[true, true, true, true, true, true, true, true, false, false, true, true, true, false, false, false, false] rfl rfl (take_ofW HT_.out HW_.out (by kernel_rfl)) (fun _ _ _ h => h) (Or.inl ⟨by rfl, ?_⟩) hHeld ?_ ?_
                      rotate_left
                      · rintro w' ⟨s0, s1⟩
                        go_simp
                        with_reducible rfl
                      rotate_left
                      · simp only [Act.put, List.setIfInBounds_toArray, List.set_cons_zero, List.set_cons_succ, i64_w, i32_w]
                        rfl
                      refine take_ (i := 8) (N := some 31) (v := ?_) (a' := ?_) #[true, true, true, true, true, true, true, true, true, false, true, true, true, false, false, false, false] rfl rfl (take_ofW HT_.out HW_.out (by kernel_rfl)) (fun _ _ _ h => h) (Or.inl ⟨by rfl, ?_⟩) hHeld ?_ ?_
                      rotate_left
                      · rintro w' ⟨s0, s1⟩
                        go_simp
                        with_reducible rfl
                      rotate_left
                      · simp only [Act.put, List.setIfInBounds_toArray, List.set_cons_zero, List.set_cons_succ, i64_w, i32_w]
                        rfl
                      refine one_ (i := 9) (N := some 32) #[true, true, true, true, true, true, true, true, true, true, true, true, true, false, false, false, false] rfl rfl (one_of HT_.out (by kernel_rfl)) (by decide) (fun K hK => ?_)
                      refine goes_ Tryd.func29 (by kernel_rfl) rfl #[.int .i64 0, .int .u64 (rd ([x264000_2, x264001_2, x264002_2, x264003_2] : List Int) x20_2), .int .u64 77] (by rfl) rfl rfl (by (try simp only [List.map_toArray, List.map_cons, List.map_nil]); first | done | rfl | (simp only [List.length_drop, List.length_take]; rfl) | (go_simp; done) | (go_simp; rw [Int.tmod_eq_emod_of_nonneg (by omega)]; omega)) ?_
                      with_reducible refine (field_Pow.calls k2 0 (rd ([x264000_2, x264001_2, x264002_2, x264003_2] : List Int) x20_2) 77 t270 _ ?side1 A17.out).mono ?_
                      (case side1 => repeat (first | exact (GL.below HRG.out HB.out) | (with_reducible refine GL.alloc ?_ _) | (with_reducible refine GL.drewN ?_ _) | (with_reducible refine GL.drew ?_)))
                      rintro e w23 ⟨rfl, hb⟩
                      refine ⟨_, rfl, ?_⟩
                      have n0_ := Aside0.mk (blk_below (g := gb263) (o := .cells #[.int .u64 x264000_2, .int .u64 x264001_2, .int .u64 x264002_2, .int .u64 x264003_2] 23 (0, 0)) (by (with_reducible repeat (first | refine blk_drewN ?_ _ | refine blk_drew ?_ | refine blk_alloc ?_ _)); exact BK263.out) hb)
                      have n1_ := Aside0.mk (blk_below (g := gb264) (o := .cells #[.int .u64 0, .int .u64 0, .int .u64 0, .int .u64 0] 23 (0, 0)) (by (with_reducible repeat (first | refine blk_drewN ?_ _ | refine blk_drew ?_ | refine blk_alloc ?_ _)); exact BK264.out) hb)
                      have n2_ := Aside0.mk (below_step (by repeat (first | (with_reducible first | exact HB.out | apply below_alloc | apply pw_below_drewN | apply below_drew1 | refine below_set ?_ GE263.out | refine below_set ?_ GE264.out) | exact HB.out)) hb)
                      clear BK263
                      clear BK264
                      clear HB
                      have BK263 := n0_
                      have BK264 := n1_
                      have HB := n2_
                      clear n0_ n1_ n2_
                      (try clear hb)
                      (try clear hb2)
                      (try clear hk)
                      (try clear hi)
                      refine hK.out _ _ ⟨(sel_at (pre := []) (l := ([x264000_2, x264001_2, x264002_2, x264003_2] : List Int)) (post := []) BK263.out rfl (by simp) (of_decide_eq_true (by first | (with_reducible assumption) | assumption)) (of_decide_eq_true (by first | (with_reducible assumption) | assumption))), ((HRG.out.below HB.out).u0 0 (by decide))⟩ (fun hHeld => ?_)
                      clear hK K
                      refine norm_ (a' := ?_) ?_ ?_
                      rotate_left
                      · show Act.put _ (some 32) _ = _
                        simp only [Act.put, List.setIfInBounds_toArray, List.set_cons_zero, List.set_cons_succ, i64_w, i32_w]
                        rfl
                      refine one_ (i := 13) (N := some 36) #[true, true, true, true, true, true, true, true, true, true, true, true, true, true, false, false, false] rfl rfl (one_of HT_.out (by kernel_rfl)) (by decide) (fun K hK => ?_)
                      refine goes_ Tryd.func12 (by kernel_rfl) rfl #[.int .i64 0, .int .i64 (wrap64 (7 - x12_1)), .int .i64 x20_2] (by rfl) rfl rfl (by (try simp only [List.map_toArray, List.map_cons, List.map_nil]); first | done | rfl | (simp only [List.length_drop, List.length_take]; rfl) | (go_simp; done) | (go_simp; rw [Int.tmod_eq_emod_of_nonneg (by omega)]; omega)) ?_
                      with_reducible refine (sponge_Constant.calls k2 0 (wrap64 (7 - x12_1)) x20_2 t271 _ ?side1 A18.out).mono ?_
                      (case side1 => repeat (first | exact (GL.below HRG.out HB.out) | (with_reducible refine GL.alloc ?_ _) | (with_reducible refine GL.drewN ?_ _) | (with_reducible refine GL.drew ?_)))
                      rintro e w24 ⟨rfl, hb⟩
                      refine ⟨_, rfl, ?_⟩
                      have n0_ := Aside0.mk (blk_below (g := gb263) (o := .cells #[.int .u64 x264000_2, .int .u64 x264001_2, .int .u64 x264002_2, .int .u64 x264003_2] 23 (0, 0)) (by (with_reducible repeat (first | refine blk_drewN ?_ _ | refine blk_drew ?_ | refine blk_alloc ?_ _)); exact BK263.out) hb)
                      have n1_ := Aside0.mk (blk_below (g := gb264) (o := .cells #[.int .u64 0, .int .u64 0, .int .u64 0, .int .u64 0] 23 (0, 0)) (by (with_reducible repeat (first | refine blk_drewN ?_ _ | refine blk_drew ?_ | refine blk_alloc ?_ _)); exact BK264.out) hb)
                      have n2_ := Aside0.mk (below_step (by repeat (first | (with_reducible first | exact HB.out | apply below_alloc | apply pw_below_drewN | apply below_drew1 | refine below_set ?_ GE263.out | refine below_set ?_ GE264.out) | exact HB.out)) hb)
                      clear BK263
                      clear BK264
                      clear HB
                      have BK263 := n0_
                      have BK264 := n1_
                      have HB := n2_
                      clear n0_ n1_ n2_
                      (try clear hb)
                      (try clear hb2)
                      (try clear hk)
                      (try clear hi)
                      refine hK.out _ _ ⟨(sel_at (pre := []) (l := ([x264000_2, x264001_2, x264002_2, x264003_2] : List Int)) (post := []) BK263.out rfl (by simp) (of_decide_eq_true (by first | (with_reducible assumption) | assumption)) (of_decide_eq_true (by first | (with_reducible assumption) | assumption))), ((HRG.out.below HB.out).u0 0 (by decide))⟩ (fun hHeld => ?_)
                      clear hK K
                      refine norm_ (a' := ?_) ?_ ?_
                      rotate_left
                      · show Act.put _ (some 36) _ = _
                        simp only [Act.put, List.setIfInBounds_toArray, List.set_cons_zero, List.set_cons_succ, i64_w, i32_w]
                        rfl
                      refine one_ (i := 14) (N := some 37) #[true, true, true, true, true, true, true, true, true, true, true, true, true, true, true, false, false] rfl rfl (one_of HT_.out (by kernel_rfl)) (by decide) (fun K hK => ?_)
                      refine goes_ Tryd.func45 (by kernel_rfl) rfl #[.int .i64 0, .int .u64 t270, .int .u64 t271] (by rfl) rfl rfl (by (try simp only [List.map_toArray, List.map_cons, List.map_nil]); first | done | rfl | (simp only [List.length_drop, List.length_take]; rfl) | (go_simp; done) | (go_simp; rw [Int.tmod_eq_emod_of_nonneg (by omega)]; omega)) ?_
                      with_reducible refine (field_Sub.calls 0 t270 t271 t272 _ ?side1 A19.out).mono ?_
                      (case side1 => repeat (first | exact (GL.below HRG.out HB.out) | (with_reducible refine GL.alloc ?_ _) | (with_reducible refine GL.drewN ?_ _) | (with_reducible refine GL.drew ?_)))
                      rintro e w25 ⟨rfl, hb⟩
                      refine ⟨_, rfl, ?_⟩
                      have n0_ := Aside0.mk (blk_below (g := gb263) (o := .cells #[.int .u64 x264000_2, .int .u64 x264001_2, .int .u64 x264002_2, .int .u64 x264003_2] 23 (0, 0)) (by (with_reducible repeat (first | refine blk_drewN ?_ _ | refine blk_drew ?_ | refine blk_alloc ?_ _)); exact BK263.out) hb)
                      have n1_ := Aside0.mk (blk_below (g := gb264) (o := .cells #[.int .u64 0, .int .u64 0, .int .u64 0, .int .u64 0] 23 (0, 0)) (by (with_reducible repeat (first | refine blk_drewN ?_ _ | refine blk_drew ?_ | refine blk_alloc ?_ _)); exact BK264.out) hb)
                      have n2_ := Aside0.mk (below_step (by repeat (first | (with_reducible first | exact HB.out | apply below_alloc | apply pw_below_drewN | apply below_drew1 | refine below_set ?_ GE263.out | refine below_set ?_ GE264.out) | exact HB.out)) hb)
                      clear BK263
                      clear BK264
                      clear HB
                      have BK263 := n0_
                      have BK264 := n1_
                      have HB := n2_
                      clear n0_ n1_ n2_
                      (try clear hb)
                      (try clear hb2)
                      (try clear hk)
                      (try clear hi)
                      refine hK.out _ _ ⟨(sel_at (pre := []) (l := ([x264000_2, x264001_2, x264002_2, x264003_2] : List Int)) (post := []) BK263.out rfl (by simp) (of_decide_eq_true (by first | (with_reducible assumption) | assumption)) (of_decide_eq_true (by first | (with_reducible assumption) | assumption))), ((HRG.out.below HB.out).u0 0 (by decide))⟩ (fun hHeld => ?_)
                      clear hK K
                      refine norm_ (a' := ?_) ?_ ?_
                      rotate_left
                      · show Act.put _ (some 37) _ = _
                        simp only [Act.put, List.setIfInBounds_toArray, List.set_cons_zero, List.set_cons_succ, i64_w, i32_w]
                        rfl
                      refine pure_ (i := 15) (N := some 38) (v := ?_) (a' := ?_) #[true, true, true, true, true, true, true, true, true, true, true, true, true, true, true, true, false] rfl rfl (any_of HT_.out (by kernel_rfl)) (fun _ _ _ h => h) (Or.inl ⟨by rfl, ?_⟩) ?_ ?_
                      rotate_left
                      · intro w'
                        go_simp
                        with_reducible rfl
                      rotate_left
                      · simp only [Act.put, List.setIfInBounds_toArray, List.set_cons_zero, List.set_cons_succ, i64_w, i32_w]
                        rfl
                      refine last_ (i := 16) (N := none) #[true, true, true, true, true, true, true, true, true, true, true, true, true, true, true, true, true] rfl rfl (one_of HT_.out (by kernel_rfl)) (by decide) (fun K hK => ?_)
                      have hsv26 : w25.cell? ⟨gb263, (x20_2).toNat, none⟩ = some (.int .u64 (rd ([x264000_2, x264001_2, x264002_2, x264003_2] : List Int) x20_2)) := (sel_at (pre := []) (l := ([x264000_2, x264001_2, x264002_2, x264003_2] : List Int)) (post := []) BK263.out rfl (by simp) (of_decide_eq_true (by first | (with_reducible assumption) | assumption)) (of_decide_eq_true (by first | (with_reducible assumption) | assumption)))
                      have hfv27 := blk_frozen BK263.out ((x20_2).toNat)
                      have hns30_1 := NB264_263.out
                      have hms30_1 := NB263_264.out
                      refine skip_ (w1 := ?_) (by rfl) rfl ?_ ?_
                      rotate_left
                      · go_simp
                        rfl
                      refine hK.out _ _ ?_
                      clear hK K
                      refine done_ (done_of HT_.out (by kernel_rfl)) ?_
                      try go_wp2
                      go_roundg k2
                      case measure => have := HK1.out; have := HK2.out; omega
                      case rel => exact ⟨(wrap64 (x20_2 + 1)), ((updv x264000_2 0 x20_2 t272)), ((updv x264001_2 1 x20_2 t272)), ((updv x264002_2 2 x20_2 t272)), ((updv x264003_2 3 x20_2 t272)), (by first | rfl | (simp; done) | (simp [*]; done) | (simp; rfl) | (simp; decide +kernel)), H', ⟨by have := HK1.out; have := HK2.out; omega⟩, ⟨by (with_reducible repeat (first | refine blk_drewN ?_ _ | refine blk_drew ?_ | refine blk_alloc ?_ _)); refine sel_put (pre := []) (l := ([x264000_2, x264001_2, x264002_2, x264003_2] : List Int)) (post := []) ?_ rfl rfl (by simp) (of_decide_eq_true (by first | (with_reducible assumption) | assumption)) (of_decide_eq_true (by first | (with_reducible assumption) | assumption)); (with_reducible repeat (first | refine blk_drewN ?_ _ | refine blk_drew ?_ | refine blk_alloc ?_ _)); exact BK263.out⟩, ⟨by (with_reducible repeat (first | refine blk_drewN ?_ _ | refine blk_drew ?_ | refine blk_alloc ?_ _)); refine blk_far ?_ NB264_263.out _; (with_reducible repeat (first | refine blk_drewN ?_ _ | refine blk_drew ?_ | refine blk_alloc ?_ _)); exact BK264.out⟩, ⟨by repeat (first | (with_reducible first | exact HB.out | apply below_alloc | apply pw_below_drewN | apply below_drew1 | refine below_set ?_ GE263.out | refine below_set ?_ GE264.out) | exact HB.out)⟩⟩
                    · rw [if_neg c16] at H
                      by_cases c31 : a0 = 1
                      · rw [if_pos c31] at H
                        subst c31
                        replace H := Option.bind_eq_some_iff.mp H
                        obtain ⟨t273, A320, H⟩ := H
                        replace H : ((sponge_Constant.f k2 1 (wrap64 (7 - x12_1)) x20_2).bind fun t274 => ((field_Sub.f 1 t273 t274).bind fun t275 => (sponge_Inverse.l1 k2 1 (wrap64 (7 - x12_1)) x12_1 (wrap64 (x20_2 + 1)) (updv x264000_2 0 x20_2 t275) (updv x264001_2 1 x20_2 t275) (updv x264002_2 2 x20_2 t275) (updv x264003_2 3 x20_2 t275)))) = some (r1, r2, r3, r4) := H
                        have A32 := Aside0.mk A320
                        clear A320
                        replace H := Option.bind_eq_some_iff.mp H
                        obtain ⟨t274, A330, H⟩ := H
                        replace H : ((field_Sub.f 1 t273 t274).bind fun t275 => (sponge_Inverse.l1 k2 1 (wrap64 (7 - x12_1)) x12_1 (wrap64 (x20_2 + 1)) (updv x264000_2 0 x20_2 t275) (updv x264001_2 1 x20_2 t275) (updv x264002_2 2 x20_2 t275) (updv x264003_2 3 x20_2 t275))) = some (r1, r2, r3, r4) := H
                        have A33 := Aside0.mk A330
                        clear A330
                        replace H := Option.bind_eq_some_iff.mp H
                        obtain ⟨t275, A340, H⟩ := H
                        replace H : (sponge_Inverse.l1 k2 1 (wrap64 (7 - x12_1)) x12_1 (wrap64 (x20_2 + 1)) (updv x264000_2 0 x20_2 t275) (updv x264001_2 1 x20_2 t275) (updv x264002_2 2 x20_2 t275) (updv x264003_2 3 x20_2 t275)) = some (r1, r2, r3, r4) := H
                        have A34 := Aside0.mk A340
                        clear A340
                        have H' := Aside0.mk H
                        clear H
                        try go_wp2
                        have n0_ := Aside0.mk (blk_drew BK263.out)
                        have n1_ := Aside0.mk (blk_drew BK264.out)
                        have n2_ := Aside0.mk (below_drew1 HB.out)
                        clear BK263
                        clear BK264
                        clear HB
                        have BK263 := n0_
                        have BK264 := n1_
                        have HB := n2_
                        clear n0_ n1_ n2_
                        have hlt36 : (x20_2 < 4) = True := eq_true (of_decide_eq_true (by first | (with_reducible assumption) | assumption))
                        have hge37 : (0 ≤ x20_2) = True := eq_true (of_decide_eq_true (by first | (with_reducible assumption) | assumption))
                        have hlt43 : (x20_2 < 4) = True := eq_true (of_decide_eq_true (by first | (with_reducible assumption) | assumption))
                        have hge44 : (0 ≤ x20_2) = True := eq_true (of_decide_eq_true (by first | (with_reducible assumption) | assumption))
                        refine start_ (n := 17) (S := fun w' => w'.cell? ⟨gb263, (x20_2).toNat, none⟩ = some (.int .u64 (rd ([x264000_2, x264001_2, x264002_2, x264003_2] : List Int) x20_2)) ∧ w'.cell? ⟨0, 1, none⟩ = some (.int .u64 171)) (ds := [16]) #[false, false, false, false, false, false, false, false, false, false, false, false, false, false, false, false, false] (by kernel_rfl) rfl rfl ⟨(sel_at (pre := []) (l := ([x264000_2, x264001_2, x264002_2, x264003_2] : List Int)) (post := []) BK263.out rfl (by simp) (of_decide_eq_true (by first | (with_reducible assumption) | assumption)) (of_decide_eq_true (by first | (with_reducible assumption) | assumption))), ((HRG.out.below HB.out).u0 1 (by decide))⟩ (fun hHeld => ?_); refine with_tabW sponge_Inverse.tab11 sponge_Inverse.bits11 (fun HT_ HW_ => ?_)
                        generalize wr.drew = w35 at BK263 BK264 HB hHeld ⊢
                        refine pure_ (i := 0) (N := some 23) (v := ?_) (a' := ?_) #[true, false, false, false, false, false, false, false, false, false, false, false, false, false, false, false, false] rfl rfl (any_of HT_.out (by kernel_rfl)) (fun _ _ _ h => h) (Or.inl ⟨by rfl, ?_⟩) ?_ ?_
                        rotate_left
                        · intro w'
                          go_simp
                          with_reducible rfl
                        rotate_left
                        · simp only [Act.put, List.setIfInBounds_toArray, List.set_cons_zero, List.set_cons_succ, i64_w, i32_w]
                          rfl
                        refine pure_ (i := 1) (N := some 24) (v := ?_) (a' := ?_) #[true, true, false, false, false, false, false, false, false, false, false, false, false, false, false, false, false] rfl rfl (any_of HT_.out (by kernel_rfl)) (fun _ _ _ h => h) (Or.inl ⟨by rfl, ?_⟩) ?_ ?_
                        rotate_left
                        · intro w'
                          go_simp
                          with_reducible rfl
                        rotate_left
                        · simp only [Act.put, List.setIfInBounds_toArray, List.set_cons_zero, List.set_cons_succ, i64_w, i32_w]
                          rfl
                        refine pure_ (i := 2) (N := some 25) (v := ?_) (a' := ?_) #[true, true, true, false, false, false, false, false, false, false, false, false, false, false, false, false, false] rfl rfl (any_of HT_.out (by kernel_rfl)) (fun _ _ _ h => h) (Or.inl ⟨by rfl, ?_⟩) ?_ ?_
                        rotate_left
                        · intro w'
                          go_simp
                          with_reducible rfl
                        rotate_left
                        · simp only [Act.put, List.setIfInBounds_toArray, List.set_cons_zero, List.set_cons_succ, i64_w, i32_w]
                          rfl
                        refine pure_ (i := 3) (N := some 26) (v := ?_) (a' := ?_) #[true, true, true, true, false, false, false, false, false, false, false, false, false, false, false, false, false] rfl rfl (any_of HT_.out (by kernel_rfl)) (fun _ _ _ h => h) (Or.inl ⟨by rfl, ?_⟩) ?_ ?_
                        rotate_left
                        · intro w'
                          go_simp
                          with_reducible rfl
                        rotate_left
                        · simp only [Act.put, List.setIfInBounds_toArray, List.set_cons_zero, List.set_cons_succ, i64_w, i32_w]
                          rfl
                        refine pure_ (i := 4) (N := some 27) (v := ?_) (a' := ?_) #[true, true, true, true, true, false, false, false, false, false, false, false, false, false, false, false, false] rfl rfl (any_of HT_.out (by kernel_rfl)) (fun _ _ _ h => h) (Or.inl ⟨by rfl, ?_⟩) ?_ ?_
                        rotate_left
                        · intro w'
                          go_simp
                          with_reducible rfl
                        rotate_left
                        · simp only [Act.put, List.setIfInBounds_toArray, List.set_cons_zero, List.set_cons_succ, i64_w, i32_w]
                          rfl
                        refine pure_ (i := 6) (N := some 29) (v := ?_) (a' := ?_) #[true, true, true, true, true, false, true, false, false, false, false, false, false, false, false, false, false] rfl rfl (any_of HT_.out (by kernel_rfl)) (fun _ _ _ h => h) (Or.inl ⟨by rfl, ?_⟩) ?_ ?_
                        rotate_left
                        · intro w'
                          go_simp
                          with_reducible rfl
                        rotate_left
                        · simp only [Act.put, List.setIfInBounds_toArray, List.set_cons_zero, List.set_cons_succ, i64_w, i32_w]
                          rfl
                        refine pure_ (i := 7) (N := some 30) (v := ?_) (a' := ?_) #[true, true, true, true, true, false, true, true, false, false, false, false, false, false, false, false, false] rfl rfl (any_of HT_.out (by kernel_rfl)) (fun _ _ _ h => h) (Or.inl ⟨by rfl, ?_⟩) ?_ ?_
                        rotate_left
                        · intro w'
                          go_simp
                          with_reducible rfl
                        rotate_left
                        · simp only [Act.put, List.setIfInBounds_toArray, List.set_cons_zero, List.set_cons_succ, i64_w, i32_w]
                          rfl
                        refine pure_ (i := 10) (N := some 33) (v := ?_) (a' := ?_) #[true, true, true, true, true, false, true, true, false, false, true, false, false, false, false, false, false] rfl rfl (any_of HT_.out (by kernel_rfl)) (fun _ _ _ h => h) (Or.inl ⟨by rfl, ?_⟩) ?_ ?_
                        rotate_left
                        · intro w'
                          go_simp
                          with_reducible rfl
                        rotate_left
                        · simp only [Act.put, List.setIfInBounds_toArray, List.set_cons_zero, List.set_cons_succ, i64_w, i32_w]
                          rfl
                        refine pure_ (i := 11) (N := some 34) (v := ?_) (a' := ?_) #[true, true, true, true, true, false, true, true, false, false, true, true, false, false, false, false, false] rfl rfl (any_of HT_.out (by kernel_rfl)) (fun _ _ _ h => h) (Or.inl ⟨by rfl, ?_⟩) ?_ ?_
                        rotate_left
                        · intro w'
                          go_simp
                          with_reducible rfl
                        rotate_left
                        · simp only [Act.put, List.setIfInBounds_toArray, List.set_cons_zero, List.set_cons_succ, i64_w, i32_w]
                          rfl
                        refine pure_ (i := 12) (N := some 35) (v := ?_) (a' := ?_) #[true, true, true, true, true, false, true, true, false, false, true, true, true, false, false, false, false] rfl rfl (any_of HT_.out (by kernel_rfl)) (fun _ _ _ h => h) (Or.inl ⟨by rfl, ?_⟩) ?_ ?_
                        rotate_left
                        · intro w'
                          go_simp
                          with_reducible rfl
                        rotate_left
                        · simp only [Act.put, List.setIfInBounds_toArray, List.set_cons_zero, List.set_cons_succ, i64_w, i32_w]
                          rfl
                        refine take_ (i := 5) (N := some 28) (v := ?_) (a' := ?_) #[true, true, true, true, true, true, true, true, false, false, true, true, true, false, false, false, false] rfl rfl (take_ofW HT_.out HW_.out (by kernel_rfl)) (fun _ _ _ h => h) (Or.inl ⟨by rfl, ?_⟩) hHeld ?_ ?_
                        rotate_left
                        · rintro w' ⟨s0, s1⟩
                          go_simp
                          with_reducible rfl
                        rotate_left
                        · simp only [Act.put, List.setIfInBounds_toArray, List.set_cons_zero, List.set_cons_succ, i64_w, i32_w]
                          rfl
                        refine take_ (i := 8) (N := some 31) (v := ?_) (a' := ?_) #[true, true, true, true, true, true, true, true, true, false, true, true, true, false, false, false, false] rfl rfl (take_ofW HT_.out HW_.out (by kernel_rfl)) (fun _ _ _ h => h) (Or.inl ⟨by rfl, ?_⟩) hHeld ?_ ?_
                        rotate_left
                        · rintro w' ⟨s0, s1⟩
                          go_simp
                          with_reducible rfl
                        rotate_left
                        · simp only [Act.put, List.setIfInBounds_toArray, List.set_cons_zero, List.set_cons_succ, i64_w, i32_w]
                          rfl
                        refine one_ (i := 9) (N := some 32) #[true, true, true, true, true, true, true, true, true, true, true, true, true, false, false, false, false] rfl rfl (one_of HT_.out (by kernel_rfl)) (by decide) (fun K hK => ?_)
                        refine goes_ Tryd.func29 (by kernel_rfl) rfl #[.int .i64 1, .int .u64 (rd ([x264000_2, x264001_2, x264002_2, x264003_2] : List Int) x20_2), .int .u64 171] (by rfl) rfl rfl (by (try simp only [List.map_toArray, List.map_cons, List.map_nil]); first | done | rfl | (simp only [List.length_drop, List.length_take]; rfl) | (go_simp; done) | (go_simp; rw [Int.tmod_eq_emod_of_nonneg (by omega)]; omega)) ?_
                        with_reducible refine (field_Pow.calls k2 1 (rd ([x264000_2, x264001_2, x264002_2, x264003_2] : List Int) x20_2) 171 t273 _ ?side1 A32.out).mono ?_
                        (case side1 => repeat (first | exact (GL.below HRG.out HB.out) | (with_reducible refine GL.alloc ?_ _) | (with_reducible refine GL.drewN ?_ _) | (with_reducible refine GL.drew ?_)))
                        rintro e w38 ⟨rfl, hb⟩
                        refine ⟨_, rfl, ?_⟩
                        have n0_ := Aside0.mk (blk_below (g := gb263) (o := .cells #[.int .u64 x264000_2, .int .u64 x264001_2, .int .u64 x264002_2, .int .u64 x264003_2] 23 (0, 0)) (by (with_reducible repeat (first | refine blk_drewN ?_ _ | refine blk_drew ?_ | refine blk_alloc ?_ _)); exact BK263.out) hb)
                        have n1_ := Aside0.mk (blk_below (g := gb264) (o := .cells #[.int .u64 0, .int .u64 0, .int .u64 0, .int .u64 0] 23 (0, 0)) (by (with_reducible repeat (first | refine blk_drewN ?_ _ | refine blk_drew ?_ | refine blk_alloc ?_ _)); exact BK264.out) hb)
                        have n2_ := Aside0.mk (below_step (by repeat (first | (with_reducible first | exact HB.out | apply below_alloc | apply pw_below_drewN | apply below_drew1 | refine below_set ?_ GE263.out | refine below_set ?_ GE264.out) | exact HB.out)) hb)
                        clear BK263
                        clear BK264
                        clear HB
                        have BK263 := n0_
                        have BK264 := n1_
                        have HB := n2_
                        clear n0_ n1_ n2_
                        (try clear hb)
                        (try clear hb2)
                        (try clear hk)
                        (try clear hi)
                        refine hK.out _ _ ⟨(sel_at (pre := []) (l := ([x264000_2, x264001_2, x264002_2, x264003_2] : List Int)) (post := []) BK263.out rfl (by simp) (of_decide_eq_true (by first | (with_reducible assumption) | assumption)) (of_decide_eq_true (by first | (with_reducible assumption) | assumption))), ((HRG.out.below HB.out).u0 1 (by decide))⟩ (fun hHeld => ?_)
                        clear hK K
                        refine norm_ (a' := ?_) ?_ ?_
                        rotate_left
                        · show Act.put _ (some 32) _ = _
                          simp only [Act.put, List.setIfInBounds_toArray, List.set_cons_zero, List.set_cons_succ, i64_w, i32_w]
                          rfl
                        refine one_ (i := 13) (N := some 36) #[true, true, true, true, true, true, true, true, true, true, true, true, true, true, false, false, false] rfl rfl (one_of HT_.out (by kernel_rfl)) (by decide) (fun K hK => ?_)
                        refine goes_ Tryd.func12 (by kernel_rfl) rfl #[.int .i64 1, .int .i64 (wrap64 (7 - x12_1)), .int .i64 x20_2] (by rfl) rfl rfl (by (try simp only [List.map_toArray, List.map_cons, List.map_nil]); first | done | rfl | (simp only [List.length_drop, List.length_take]; rfl) | (go_simp; done) | (go_simp; rw [Int.tmod_eq_emod_of_nonneg (by omega)]; omega)) ?_
                        with_reducible refine (sponge_Constant.calls k2 1 (wrap64 (7 - x12_1)) x20_2 t274 _ ?side1 A33.out).mono ?_
                        (case side1 => repeat (first | exact (GL.below HRG.out HB.out) | (with_reducible refine GL.alloc ?_ _) | (with_reducible refine GL.drewN ?_ _) | (with_reducible refine GL.drew ?_)))
                        rintro e w39 ⟨rfl, hb⟩
                        refine ⟨_, rfl, ?_⟩
                        have n0_ := Aside0.mk (blk_below (g := gb263) (o := .cells #[.int .u64 x264000_2, .int .u64 x264001_2, .int .u64 x264002_2, .int .u64 x264003_2] 23 (0, 0)) (by (with_reducible repeat (first | refine blk_drewN ?_ _ | refine blk_drew ?_ | refine blk_alloc ?_ _)); exact BK263.out) hb)
                        have n1_ := Aside0.mk (blk_below (g := gb264) (o := .cells #[.int .u64 0, .int .u64 0, .int .u64 0, .int .u64 0] 23 (0, 0)) (by (with_reducible repeat (first | refine blk_drewN ?_ _ | refine blk_drew ?_ | refine blk_alloc ?_ _)); exact BK264.out) hb)
                        have n2_ := Aside0.mk (below_step (by repeat (first | (with_reducible first | exact HB.out | apply below_alloc | apply pw_below_drewN | apply below_drew1 | refine below_set ?_ GE263.out | refine below_set ?_ GE264.out) | exact HB.out)) hb)
                        clear BK263
                        clear BK264
                        clear HB
                        have BK263 := n0_
                        have BK264 := n1_
                        have HB := n2_
                        clear n0_ n1_ n2_
                        (try clear hb)
                        (try clear hb2)
                        (try clear hk)
                        (try clear hi)
                        refine hK.out _ _ ⟨(sel_at (pre := []) (l := ([x264000_2, x264001_2, x264002_2, x264003_2] : List Int)) (post := []) BK263.out rfl (by simp) (of_decide_eq_true (by first | (with_reducible assumption) | assumption)) (of_decide_eq_true (by first | (with_reducible assumption) | assumption))), ((HRG.out.below HB.out).u0 1 (by decide))⟩ (fun hHeld => ?_)
                        clear hK K
                        refine norm_ (a' := ?_) ?_ ?_
                        rotate_left
                        · show Act.put _ (some 36) _ = _
                          simp only [Act.put, List.setIfInBounds_toArray, List.set_cons_zero, List.set_cons_succ, i64_w, i32_w]
                          rfl
                        refine one_ (i := 14) (N := some 37) #[true, true, true, true, true, true, true, true, true, true, true, true, true, true, true, false, false] rfl rfl (one_of HT_.out (by kernel_rfl)) (by decide) (fun K hK => ?_)
                        refine goes_ Tryd.func45 (by kernel_rfl) rfl #[.int .i64 1, .int .u64 t273, .int .u64 t274] (by rfl) rfl rfl (by (try simp only [List.map_toArray, List.map_cons, List.map_nil]); first | done | rfl | (simp only [List.length_drop, List.length_take]; rfl) | (go_simp; done) | (go_simp; rw [Int.tmod_eq_emod_of_nonneg (by omega)]; omega)) ?_
                        with_reducible refine (field_Sub.calls 1 t273 t274 t275 _ ?side1 A34.out).mono ?_
                        (case side1 => repeat (first | exact (GL.below HRG.out HB.out) | (with_reducible refine GL.alloc ?_ _) | (with_reducible refine GL.drewN ?_ _) | (with_reducible refine GL.drew ?_)))
                        rintro e w40 ⟨rfl, hb⟩
                        refine ⟨_, rfl, ?_⟩
                        have n0_ := Aside0.mk (blk_below (g := gb263) (o := .cells #[.int .u64 x264000_2, .int .u64 x264001_2, .int .u64 x264002_2, .int .u64 x264003_2] 23 (0, 0)) (by (with_reducible repeat (first | refine blk_drewN ?_ _ | refine blk_drew ?_ | refine blk_alloc ?_ _)); exact BK263.out) hb)
                        have n1_ := Aside0.mk (blk_below (g := gb264) (o := .cells #[.int .u64 0, .int .u64 0, .int .u64 0, .int .u64 0] 23 (0, 0)) (by (with_reducible repeat (first | refine blk_drewN ?_ _ | refine blk_drew ?_ | refine blk_alloc ?_ _)); exact BK264.out) hb)
                        have n2_ := Aside0.mk (below_step (by repeat (first | (with_reducible first | exact HB.out | apply below_alloc | apply pw_below_drewN | apply below_drew1 | refine below_set ?_ GE263.out | refine below_set ?_ GE264.out) | exact HB.out)) hb)
                        clear BK263
                        clear BK264
                        clear HB
                        have BK263 := n0_
                        have BK264 := n1_
                        have HB := n2_
                        clear n0_ n1_ n2_
                        (try clear hb)
                        (try clear hb2)
                        (try clear hk)
                        (try clear hi)
                        refine hK.out _ _ ⟨(sel_at (pre := []) (l := ([x264000_2, x264001_2, x264002_2, x264003_2] : List Int)) (post := []) BK263.out rfl (by simp) (of_decide_eq_true (by first | (with_reducible assumption) | assumption)) (of_decide_eq_true (by first | (with_reducible assumption) | assumption))), ((HRG.out.below HB.out).u0 1 (by decide))⟩ (fun hHeld => ?_)
                        clear hK K
                        refine norm_ (a' := ?_) ?_ ?_
                        rotate_left
                        · show Act.put _ (some 37) _ = _
                          simp only [Act.put, List.setIfInBounds_toArray, List.set_cons_zero, List.set_cons_succ, i64_w, i32_w]
                          rfl
                        refine pure_ (i := 15) (N := some 38) (v := ?_) (a' := ?_) #[true, true, true, true, true, true, true, true, true, true, true, true, true, true, true, true, false] rfl rfl (any_of HT_.out (by kernel_rfl)) (fun _ _ _ h => h) (Or.inl ⟨by rfl, ?_⟩) ?_ ?_
                        rotate_left
                        · intro w'
                          go_simp
                          with_reducible rfl
                        rotate_left
                        · simp only [Act.put, List.setIfInBounds_toArray, List.set_cons_zero, List.set_cons_succ, i64_w, i32_w]
                          rfl
                        refine last_ (i := 16) (N := none) #[true, true, true, true, true, true, true, true, true, true, true, true, true, true, true, true, true] rfl rfl (one_of HT_.out (by kernel_rfl)) (by decide) (fun K hK => ?_)
                        have hsv41 : w40.cell? ⟨gb263, (x20_2).toNat, none⟩ = some (.int .u64 (rd ([x264000_2, x264001_2, x264002_2, x264003_2] : List Int) x20_2)) := (sel_at (pre := []) (l := ([x264000_2, x264001_2, x264002_2, x264003_2] : List Int)) (post := []) BK263.out rfl (by simp) (of_decide_eq_true (by first | (with_reducible assumption) | assumption)) (of_decide_eq_true (by first | (with_reducible assumption) | assumption)))
                        have hfv42 := blk_frozen BK263.out ((x20_2).toNat)
                        have hns45_1 := NB264_263.out
                        have hms45_1 := NB263_264.out
                        refine skip_ (w1 := ?_) (by rfl) rfl ?_ ?_
                        rotate_left
                        · go_simp
                          rfl
                        refine hK.out _ _ ?_
                        clear hK K
                        refine done_ (done_of HT_.out (by kernel_rfl)) ?_
                        try go_wp2
                        go_roundg k2
                        case measure => have := HK1.out; have := HK2.out; omega
                        case rel => exact ⟨(wrap64 (x20_2 + 1)), ((updv x264000_2 0 x20_2 t275)), ((updv x264001_2 1 x20_2 t275)), ((updv x264002_2 2 x20_2 t275)), ((updv x264003_2 3 x20_2 t275)), (by first | rfl | (simp; done) | (simp [*]; done) | (simp; rfl) | (simp; decide +kernel)), H', ⟨by have := HK1.out; have := HK2.out; omega⟩, ⟨by (with_reducible repeat (first | refine blk_drewN ?_ _ | refine blk_drew ?_ | refine blk_alloc ?_ _)); refine sel_put (pre := []) (l := ([x264000_2, x264001_2, x264002_2, x264003_2] : List Int)) (post := []) ?_ rfl rfl (by simp) (of_decide_eq_true (by first | (with_reducible assumption) | assumption)) (of_decide_eq_true (by first | (with_reducible assumption) | assumption)); (with_reducible repeat (first | refine blk_drewN ?_ _ | refine blk_drew ?_ | refine blk_alloc ?_ _)); exact BK263.out⟩, ⟨by (with_reducible repeat (first | refine blk_drewN ?_ _ | refine blk_drew ?_ | refine blk_alloc ?_ _)); refine blk_far ?_ NB264_263.out _; (with_reducible repeat (first | refine blk_drewN ?_ _ | refine blk_drew ?_ | refine blk_alloc ?_ _)); exact BK264.out⟩, ⟨by repeat (first | (with_reducible first | exact HB.out | apply below_alloc | apply pw_below_drewN | apply below_drew1 | refine below_set ?_ GE263.out | refine below_set ?_ GE264.out) | exact HB.out)⟩⟩
                      · rw [if_neg c31] at H
                        by_cases c46 : a0 = 2
                        · rw [if_pos c46] at H
                          subst c46
                          replace H := Option.bind_eq_some_iff.mp H
                          obtain ⟨t276, A470, H⟩ := H
                          replace H : ((sponge_Constant.f k2 2 (wrap64 (7 - x12_1)) x20_2).bind fun t277 => ((field_Sub.f 2 t276 t277).bind fun t278 => (sponge_Inverse.l1 k2 2 (wrap64 (7 - x12_1)) x12_1 (wrap64 (x20_2 + 1)) (updv x264000_2 0 x20_2 t278) (updv x264001_2 1 x20_2 t278) (updv x264002_2 2 x20_2 t278) (updv x264003_2 3 x20_2 t278)))) = some (r1, r2, r3, r4) := H
                          have A47 := Aside0.mk A470
                          clear A470
                          replace H := Option.bind_eq_some_iff.mp H
                          obtain ⟨t277, A480, H⟩ := H
                          replace H : ((field_Sub.f 2 t276 t277).bind fun t278 => (sponge_Inverse.l1 k2 2 (wrap64 (7 - x12_1)) x12_1 (wrap64 (x20_2 + 1)) (updv x264000_2 0 x20_2 t278) (updv x264001_2 1 x20_2 t278) (updv x264002_2 2 x20_2 t278) (updv x264003_2 3 x20_2 t278))) = some (r1, r2, r3, r4) := H
                          have A48 := Aside0.mk A480
                          clear A480
                          replace H := Option.bind_eq_some_iff.mp H
                          obtain ⟨t278, A490, H⟩ := H
                          replace H : (sponge_Inverse.l1 k2 2 (wrap64 (7 - x12_1)) x12_1 (wrap64 (x20_2 + 1)) (updv x264000_2 0 x20_2 t278) (updv x264001_2 1 x20_2 t278) (updv x264002_2 2 x20_2 t278) (updv x264003_2 3 x20_2 t278)) = some (r1, r2, r3, r4) := H
                          have A49 := Aside0.mk A490
                          clear A490
                          have H' := Aside0.mk H
                          clear H
                          try go_wp2
                          have n0_ := Aside0.mk (blk_drew BK263.out)
                          have n1_ := Aside0.mk (blk_drew BK264.out)
                          have n2_ := Aside0.mk (below_drew1 HB.out)
                          clear BK263
                          clear BK264
                          clear HB
                          have BK263 := n0_
                          have BK264 := n1_
                          have HB := n2_
                          clear n0_ n1_ n2_
                          have hlt51 : (x20_2 < 4) = True := eq_true (of_decide_eq_true (by first | (with_reducible assumption) | assumption))
                          have hge52 : (0 ≤ x20_2) = True := eq_true (of_decide_eq_true (by first | (with_reducible assumption) | assumption))
                          have hlt58 : (x20_2 < 4) = True := eq_true (of_decide_eq_true (by first | (with_reducible assumption) | assumption))
                          have hge59 : (0 ≤ x20_2) = True := eq_true (of_decide_eq_true (by first | (with_reducible assumption) | assumption))
                          refine start_ (n := 17) (S := fun w' => w'.cell? ⟨gb263, (x20_2).toNat, none⟩ = some (.int .u64 (rd ([x264000_2, x264001_2, x264002_2, x264003_2] : List Int) x20_2)) ∧ w'.cell? ⟨0, 2, none⟩ = some (.int .u64 7373)) (ds := [16]) #[false, false, false, false, false, false, false, false, false, false, false, false, false, false, false, false, false] (by kernel_rfl) rfl rfl ⟨(sel_at (pre := []) (l := ([x264000_2, x264001_2, x264002_2, x264003_2] : List Int)) (post := []) BK263.out rfl (by simp) (of_decide_eq_true (by first | (with_reducible assumption) | assumption)) (of_decide_eq_true (by first | (with_reducible assumption) | assumption))), ((HRG.out.below HB.out).u0 2 (by decide))⟩ (fun hHeld => ?_); refine with_tabW sponge_Inverse.tab11 sponge_Inverse.bits11 (fun HT_ HW_ => ?_)
                          generalize wr.drew = w50 at BK263 BK264 HB hHeld ⊢
                          refine pure_ (i := 0) (N := some 23) (v := ?_) (a' := ?_) #[true, false, false, false, false, false, false, false, false, false, false, false, false, false, false, false, false] rfl rfl (any_of HT_.out (by kernel_rfl)) (fun _ _ _ h => h) (Or.inl ⟨by rfl, ?_⟩) ?_ ?_
                          rotate_left
                          · intro w'
                            go_simp
                            with_reducible rfl
                          rotate_left
                          · simp only [Act.put, List.setIfInBounds_toArray, List.set_cons_zero, List.set_cons_succ, i64_w, i32_w]
                            rfl
                          refine pure_ (i := 1) (N := some 24) (v := ?_) (a' := ?_) #[true, true, false, false, false, false, false, false, false, false, false, false, false, false, false, false, false] rfl rfl (any_of HT_.out (by kernel_rfl)) (fun _ _ _ h => h) (Or.inl ⟨by rfl, ?_⟩) ?_ ?_
                          rotate_left
                          · intro w'
                            go_simp
                            with_reducible rfl
                          rotate_left
                          · simp only [Act.put, List.setIfInBounds_toArray, List.set_cons_zero, List.set_cons_succ, i64_w, i32_w]
                            rfl
                          refine pure_ (i := 2) (N := some 25) (v := ?_) (a' := ?_) #[true, true, true, false, false, false, false, false, false, false, false, false, false, false, false, false, false] rfl rfl (any_of HT_.out (by kernel_rfl)) (fun _ _ _ h => h) (Or.inl ⟨by rfl, ?_⟩) ?_ ?_
                          rotate_left
                          · intro w'
                            go_simp
                            with_reducible rfl
                          rotate_left
                          · simp only [Act.put, List.setIfInBounds_toArray, List.set_cons_zero, List.set_cons_succ, i64_w, i32_w]
                            rfl
                          refine pure_ (i := 3) (N := some 26) (v := ?_) (a' := ?_) #[true, true, true, true, false, false, false, false, false, false, false, false, false, false, false, false, false] rfl rfl (any_of HT_.out (by kernel_rfl)) (fun _ _ _ h => h) (Or.inl ⟨by rfl, ?_⟩) ?_ ?_
                          rotate_left
                          · intro w'
                            go_simp
                            with_reducible rfl
                          rotate_left
                          · simp only [Act.put, List.setIfInBounds_toArray, List.set_cons_zero, List.set_cons_succ, i64_w, i32_w]
                            rfl
                          refine pure_ (i := 4) (N := some 27) (v := ?_) (a' := ?_) #[true, true, true, true, true, false, false, false, false, false, false, false, false, false, false, false, false] rfl rfl (any_of HT_.out (by kernel_rfl)) (fun _ _ _ h => h) (Or.inl ⟨by rfl, ?_⟩) ?_ ?_
                          rotate_left
                          · intro w'
                            go_simp
                            with_reducible rfl
                          rotate_left
                          · simp only [Act.put, List.setIfInBounds_toArray, List.set_cons_zero, List.set_cons_succ, i64_w, i32_w]
                            rfl
                          refine pure_ (i := 6) (N := some 29) (v := ?_) (a' := ?_) #[true, true, true, true, true, false, true, false, false, false, false, false, false, false, false, false, false] rfl rfl (any_of HT_.out (by kernel_rfl)) (fun _ _ _ h => h) (Or.inl ⟨by rfl, ?_⟩) ?_ ?_
                          rotate_left
                          · intro w'
                            go_simp
                            with_reducible rfl
                          rotate_left
                          · simp only [Act.put, List.setIfInBounds_toArray, List.set_cons_zero, List.set_cons_succ, i64_w, i32_w]
                            rfl
                          refine pure_ (i := 7) (N := some 30) (v := ?_) (a' := ?_) #[true, true, true, true, true, false, true, true, false, false, false, false, false, false, false, false, false] rfl rfl (any_of HT_.out (by kernel_rfl)) (fun _ _ _ h => h) (Or.inl ⟨by rfl, ?_⟩) ?_ ?_
                          rotate_left
                          · intro w'
                            go_simp
                            with_reducible rfl
                          rotate_left
                          · simp only [Act.put, List.setIfInBounds_toArray, List.set_cons_zero, List.set_cons_succ, i64_w, i32_w]
                            rfl
                          refine pure_ (i := 10) (N := some 33) (v := ?_) (a' := ?_) #[true, true, true, true, true, false, true, true, false, false, true, false, false, false, false, false, false] rfl rfl (any_of HT_.out (by kernel_rfl)) (fun _ _ _ h => h) (Or.inl ⟨by rfl, ?_⟩) ?_ ?_
                          rotate_left
                          · intro w'
                            go_simp
                            with_reducible rfl
                          rotate_left
                          · simp only [Act.put, List.setIfInBounds_toArray, List.set_cons_zero, List.set_cons_succ, i64_w, i32_w]
                            rfl
                          refine pure_ (i := 11) (N := some 34) (v := ?_) (a' := ?_) #[true, true, true, true, true, false, true, true, false, false, true, true, false, false, false, false, false] rfl rfl (any_of HT_.out (by kernel_rfl)) (fun _ _ _ h => h) (Or.inl ⟨by rfl, ?_⟩) ?_ ?_
                          rotate_left
                          · intro w'
                            go_simp
                            with_reducible rfl
                          rotate_left
                          · simp only [Act.put, List.setIfInBounds_toArray, List.set_cons_zero, List.set_cons_succ, i64_w, i32_w]
                            rfl
                          refine pure_ (i := 12) (N := some 35) (v := ?_) (a' := ?_) #[true, true, true, true, true, false, true, true, false, false, true, true, true, false, false, false, false] rfl rfl (any_of HT_.out (by kernel_rfl)) (fun _ _ _ h => h) (Or.inl ⟨by rfl, ?_⟩) ?_ ?_
                          rotate_left
                          · intro w'
                            go_simp
                            with_reducible rfl
                          rotate_left
                          · simp only [Act.put, List.setIfInBounds_toArray, List.set_cons_zero, List.set_cons_succ, i64_w, i32_w]
                            rfl
                          refine take_ (i := 5) (N := some 28) (v := ?_) (a' := ?_) #[true, true, true, true, true, true, true, true, false, false, true, true, true, false, false, false, false] rfl rfl (take_ofW HT_.out HW_.out (by kernel_rfl)) (fun _ _ _ h => h) (Or.inl ⟨by rfl, ?_⟩) hHeld ?_ ?_
                          rotate_left
                          · rintro w' ⟨s0, s1⟩
                            go_simp
                            with_reducible rfl
                          rotate_left
                          · simp only [Act.put, List.setIfInBounds_toArray, List.set_cons_zero, List.set_cons_succ, i64_w, i32_w]
                            rfl
                          refine take_ (i := 8) (N := some 31) (v := ?_) (a' := ?_) #[true, true, true, true, true, true, true, true, true, false, true, true, true, false, false, false, false] rfl rfl (take_ofW HT_.out HW_.out (by kernel_rfl)) (fun _ _ _ h => h) (Or.inl ⟨by rfl, ?_⟩) hHeld ?_ ?_
                          rotate_left
                          · rintro w' ⟨s0, s1⟩
                            go_simp
                            with_reducible rfl
                          rotate_left
                          · simp only [Act.put, List.setIfInBounds_toArray, List.set_cons_zero, List.set_cons_succ, i64_w, i32_w]
                            rfl
                          refine one_ (i := 9) (N := some 32) #[true, true, true, true, true, true, true, true, true, true, true, true, true, false, false, false, false] rfl rfl (one_of HT_.out (by kernel_rfl)) (by decide) (fun K hK => ?_)
                          refine goes_ Tryd.func29 (by kernel_rfl) rfl #[.int .i64 2, .int .u64 (rd ([x264000_2, x264001_2, x264002_2, x264003_2] : List Int) x20_2), .int .u64 7373] (by rfl) rfl rfl (by (try simp only [List.map_toArray, List.map_cons, List.map_nil]); first | done | rfl | (simp only [List.length_drop, List.length_take]; rfl) | (go_simp; done) | (go_simp; rw [Int.tmod_eq_emod_of_nonneg (by omega)]; omega)) ?_
                          with_reducible refine (field_Pow.calls k2 2 (rd ([x264000_2, x264001_2, x264002_2, x264003_2] : List Int) x20_2) 7373 t276 _ ?side1 A47.out).mono ?_
                          (case side1 => repeat (first | exact (GL.below HRG.out HB.out) | (with_reducible refine GL.alloc ?_ _) | (with_reducible refine GL.drewN ?_ _) | (with_reducible refine GL.drew ?_)))
                          rintro e w53 ⟨rfl, hb⟩
                          refine ⟨_, rfl, ?_⟩
                          have n0_ := Aside0.mk (blk_below (g := gb263) (o := .cells #[.int .u64 x264000_2, .int .u64 x264001_2, .int .u64 x264002_2, .int .u64 x264003_2] 23 (0, 0)) (by (with_reducible repeat (first | refine blk_drewN ?_ _ | refine blk_drew ?_ | refine blk_alloc ?_ _)); exact BK263.out) hb)
                          have n1_ := Aside0.mk (blk_below (g := gb264) (o := .cells #[.int .u64 0, .int .u64 0, .int .u64 0, .int .u64 0] 23 (0, 0)) (by (with_reducible repeat (first | refine blk_drewN ?_ _ | refine blk_drew ?_ | refine blk_alloc ?_ _)); exact BK264.out) hb)
                          have n2_ := Aside0.mk (below_step (by repeat (first | (with_reducible first | exact HB.out | apply below_alloc | apply pw_below_drewN | apply below_drew1 | refine below_set ?_ GE263.out | refine below_set ?_ GE264.out) | exact HB.out)) hb)
                          clear BK263
                          clear BK264
                          clear HB
                          have BK263 := n0_
                          have BK264 := n1_
                          have HB := n2_
                          clear n0_ n1_ n2_
                          (try clear hb)
                          (try clear hb2)
                          (try clear hk)
                          (try clear hi)
                          refine hK.out _ _ ⟨(sel_at (pre := []) (l := ([x264000_2, x264001_2, x264002_2, x264003_2] : List Int)) (post := []) BK263.out rfl (by simp) (of_decide_eq_true (by first | (with_reducible assumption) | assumption)) (of_decide_eq_true (by first | (with_reducible assumption) | assumption))), ((HRG.out.below HB.out).u0 2 (by decide))⟩ (fun hHeld => ?_)
                          clear hK K
                          refine norm_ (a' := ?_) ?_ ?_
                          rotate_left
                          · show Act.put _ (some 32) _ = _
                            simp only [Act.put, List.setIfInBounds_toArray, List.set_cons_zero, List.set_cons_succ, i64_w, i32_w]
                            rfl
                          refine one_ (i := 13) (N := some 36) #[true, true, true, true, true, true, true, true, true, true, true, true, true, true, false, false, false] rfl rfl (one_of HT_.out (by kernel_rfl)) (by decide) (fun K hK => ?_)
                          refine goes_ Tryd.func12 (by kernel_rfl) rfl #[.int .i64 2, .int .i64 (wrap64 (7 - x12_1)), .int .i64 x20_2] (by rfl) rfl rfl (by (try simp only [List.map_toArray, List.map_cons, List.map_nil]); first | done | rfl | (simp only [List.length_drop, List.length_take]; rfl) | (go_simp; done) | (go_simp; rw [Int.tmod_eq_emod_of_nonneg (by omega)]; omega)) ?_
                          with_reducible refine (sponge_Constant.calls k2 2 (wrap64 (7 - x12_1)) x20_2 t277 _ ?side1 A48.out).mono ?_
                          (case side1 => repeat (first | exact (GL.below HRG.out HB.out) | (with_reducible refine GL.alloc ?_ _) | (with_reducible refine GL.drewN ?_ _) | (with_reducible refine GL.drew ?_)))
                          rintro e w54 ⟨rfl, hb⟩
                          refine ⟨_, rfl, ?_⟩
                          have n0_ := Aside0.mk (blk_below (g := gb263) (o := .cells #[.int .u64 x264000_2, .int .u64 x264001_2, .int .u64 x264002_2, .int .u64 x264003_2] 23 (0, 0)) (by (with_reducible repeat (first | refine blk_drewN ?_ _ | refine blk_drew ?_ | refine blk_alloc ?_ _)); exact BK263.out) hb)
                          have n1_ := Aside0.mk (blk_below (g := gb264) (o := .cells #[.int .u64 0, .int .u64 0, .int .u64 0, .int .u64 0] 23 (0, 0)) (by (with_reducible repeat (first | refine blk_drewN ?_ _ | refine blk_drew ?_ | refine blk_alloc ?_ _)); exact BK264.out) hb)
                          have n2_ := Aside0.mk (below_step (by repeat (first | (with_reducible first | exact HB.out | apply below_alloc | apply pw_below_drewN | apply below_drew1 | refine below_set ?_ GE263.out | refine below_set ?_ GE264.out) | exact HB.out)) hb)
                          clear BK263
                          clear BK264
                          clear HB
                          have BK263 := n0_
                          have BK264 := n1_
                          have HB := n2_
                          clear n0_ n1_ n2_
                          (try clear hb)
                          (try clear hb2)
                          (try clear hk)
                          (try clear hi)
                          refine hK.out _ _ ⟨(sel_at (pre := []) (l := ([x264000_2, x264001_2, x264002_2, x264003_2] : List Int)) (post := []) BK263.out rfl (by simp) (of_decide_eq_true (by first | (with_reducible assumption) | assumption)) (of_decide_eq_true (by first | (with_reducible assumption) | assumption))), ((HRG.out.below HB.out).u0 2 (by decide))⟩ (fun hHeld => ?_)
                          clear hK K
                          refine norm_ (a' := ?_) ?_ ?_
                          rotate_left
                          · show Act.put _ (some 36) _ = _
                            simp only [Act.put, List.setIfInBounds_toArray, List.set_cons_zero, List.set_cons_succ, i64_w, i32_w]
                            rfl
                          refine one_ (i := 14) (N := some 37) #[true, true, true, true, true, true, true, true, true, true, true, true, true, true, true, false, false] rfl rfl (one_of HT_.out (by kernel_rfl)) (by decide) (fun K hK => ?_)
                          refine goes_ Tryd.func45 (by kernel_rfl) rfl #[.int .i64 2, .int .u64 t276, .int .u64 t277] (by rfl) rfl rfl (by (try simp only [List.map_toArray, List.map_cons, List.map_nil]); first | done | rfl | (simp only [List.length_drop, List.length_take]; rfl) | (go_simp; done) | (go_simp; rw [Int.tmod_eq_emod_of_nonneg (by omega)]; omega)) ?_
                          with_reducible refine (field_Sub.calls 2 t276 t277 t278 _ ?side1 A49.out).mono ?_
                          (case side1 => repeat (first | exact (GL.below HRG.out HB.out) | (with_reducible refine GL.alloc ?_ _) | (with_reducible refine GL.drewN ?_ _) | (with_reducible refine GL.drew ?_)))
                          rintro e w55 ⟨rfl, hb⟩
                          refine ⟨_, rfl, ?_⟩
                          have n0_ := Aside0.mk (blk_below (g := gb263) (o := .cells #[.int .u64 x264000_2, .int .u64 x264001_2, .int .u64 x264002_2, .int .u64 x264003_2] 23 (0, 0)) (by (with_reducible repeat (first | refine blk_drewN ?_ _ | refine blk_drew ?_ | refine blk_alloc ?_ _)); exact BK263.out) hb)
                          have n1_ := Aside0.mk (blk_below (g := gb264) (o := .cells #[.int .u64 0, .int .u64 0, .int .u64 0, .int .u64 0] 23 (0, 0)) (by (with_reducible repeat (first | refine blk_drewN ?_ _ | refine blk_drew ?_ | refine blk_alloc ?_ _)); exact BK264.out) hb)
                          have n2_ := Aside0.mk (below_step (by repeat (first | (with_reducible first | exact HB.out | apply below_alloc | apply pw_below_drewN | apply below_drew1 | refine below_set ?_ GE263.out | refine below_set ?_ GE264.out) | exact HB.out)) hb)
                          clear BK263
                          clear BK264
                          clear HB
                          have BK263 := n0_
                          have BK264 := n1_
                          have HB := n2_
                          clear n0_ n1_ n2_
                          (try clear hb)
                          (try clear hb2)
                          (try clear hk)
                          (try clear hi)
                          refine hK.out _ _ ⟨(sel_at (pre := []) (l := ([x264000_2, x264001_2, x264002_2, x264003_2] : List Int)) (post := []) BK263.out rfl (by simp) (of_decide_eq_true (by first | (with_reducible assumption) | assumption)) (of_decide_eq_true (by first | (with_reducible assumption) | assumption))), ((HRG.out.below HB.out).u0 2 (by decide))⟩ (fun hHeld => ?_)
                          clear hK K
                          refine norm_ (a' := ?_) ?_ ?_
                          rotate_left
                          · show Act.put _ (some 37) _ = _
                            simp only [Act.put, List.setIfInBounds_toArray, List.set_cons_zero, List.set_cons_succ, i64_w, i32_w]
                            rfl
                          refine pure_ (i := 15) (N := some 38) (v := ?_) (a' := ?_) #[true, true, true, true, true, true, true, true, true, true, true, true, true, true, true, true, false] rfl rfl (any_of HT_.out (by kernel_rfl)) (fun _ _ _ h => h) (Or.inl ⟨by rfl, ?_⟩) ?_ ?_
                          rotate_left
                          · intro w'
                            go_simp
                            with_reducible rfl
                          rotate_left
                          · simp only [Act.put, List.setIfInBounds_toArray, List.set_cons_zero, List.set_cons_succ, i64_w, i32_w]
                            rfl
                          refine last_ (i := 16) (N := none) #[true, true, true, true, true, true, true, true, true, true, true, true, true, true, true, true, true] rfl rfl (one_of HT_.out (by kernel_rfl)) (by decide) (fun K hK => ?_)
                          have hsv56 : w55.cell? ⟨gb263, (x20_2).toNat, none⟩ = some (.int .u64 (rd ([x264000_2, x264001_2, x264002_2, x264003_2] : List Int) x20_2)) := (sel_at (pre := []) (l := ([x264000_2, x264001_2, x264002_2, x264003_2] : List Int)) (post := []) BK263.out rfl (by simp) (of_decide_eq_true (by first | (with_reducible assumption) | assumption)) (of_decide_eq_true (by first | (with_reducible assumption) | assumption)))
                          have hfv57 := blk_frozen BK263.out ((x20_2).toNat)
                          have hns60_1 := NB264_263.out
                          have hms60_1 := NB263_264.out
                          refine skip_ (w1 := ?_) (by rfl) rfl ?_ ?_
                          rotate_left
                          · go_simp
                            rfl
                          refine hK.out _ _ ?_
                          clear hK K
                          refine done_ (done_of HT_.out (by kernel_rfl)) ?_
                          try go_wp2
                          go_roundg k2
                          case measure => have := HK1.out; have := HK2.out; omega
                          case rel => exact ⟨(wrap64 (x20_2 + 1)), ((updv x264000_2 0 x20_2 t278)), ((updv x264001_2 1 x20_2 t278)), ((updv x264002_2 2 x20_2 t278)), ((updv x264003_2 3 x20_2 t278)), (by first | rfl | (simp; done) | (simp [*]; done) | (simp; rfl) | (simp; decide +kernel)), H', ⟨by have := HK1.out; have := HK2.out; omega⟩, ⟨by (with_reducible repeat (first | refine blk_drewN ?_ _ | refine blk_drew ?_ | refine blk_alloc ?_ _)); refine sel_put (pre := []) (l := ([x264000_2, x264001_2, x264002_2, x264003_2] : List Int)) (post := []) ?_ rfl rfl (by simp) (of_decide_eq_true (by first | (with_reducible assumption) | assumption)) (of_decide_eq_true (by first | (with_reducible assumption) | assumption)); (with_reducible repeat (first | refine blk_drewN ?_ _ | refine blk_drew ?_ | refine blk_alloc ?_ _)); exact BK263.out⟩, ⟨by (with_reducible repeat (first | refine blk_drewN ?_ _ | refine blk_drew ?_ | refine blk_alloc ?_ _)); refine blk_far ?_ NB264_263.out _; (with_reducible repeat (first | refine blk_drewN ?_ _ | refine blk_drew ?_ | refine blk_alloc ?_ _)); exact BK264.out⟩, ⟨by repeat (first | (with_reducible first | exact HB.out | apply below_alloc | apply pw_below_drewN | apply below_drew1 | refine below_set ?_ GE263.out | refine below_set ?_ GE264.out) | exact HB.out)⟩⟩
                        · rw [if_neg c46] at H
                          by_cases c61 : a0 = 3
                          · rw [if_pos c61] at H
                            subst c61
                            replace H := Option.bind_eq_some_iff.mp H
                            obtain ⟨t279, A620, H⟩ := H
                            replace H : ((sponge_Constant.f k2 3 (wrap64 (7 - x12_1)) x20_2).bind fun t280 => ((field_Sub.f 3 t279 t280).bind fun t281 => (sponge_Inverse.l1 k2 3 (wrap64 (7 - x12_1)) x12_1 (wrap64 (x20_2 + 1)) (updv x264000_2 0 x20_2 t281) (updv x264001_2 1 x20_2 t281) (updv x264002_2 2 x20_2 t281) (updv x264003_2 3 x20_2 t281)))) = some (r1, r2, r3, r4) := H
                            have A62 := Aside0.mk A620
                            clear A620
                            replace H := Option.bind_eq_some_iff.mp H
                            obtain ⟨t280, A630, H⟩ := H
                            replace H : ((field_Sub.f 3 t279 t280).bind fun t281 => (sponge_Inverse.l1 k2 3 (wrap64 (7 - x12_1)) x12_1 (wrap64 (x20_2 + 1)) (updv x264000_2 0 x20_2 t281) (updv x264001_2 1 x20_2 t281) (updv x264002_2 2 x20_2 t281) (updv x264003_2 3 x20_2 t281))) = some (r1, r2, r3, r4) := H
                            have A63 := Aside0.mk A630
                            clear A630
                            replace H := Option.bind_eq_some_iff.mp H
                            obtain ⟨t281, A640, H⟩ := H
                            replace H : (sponge_Inverse.l1 k2 3 (wrap64 (7 - x12_1)) x12_1 (wrap64 (x20_2 + 1)) (updv x264000_2 0 x20_2 t281) (updv x264001_2 1 x20_2 t281) (updv x264002_2 2 x20_2 t281) (updv x264003_2 3 x20_2 t281)) = some (r1, r2, r3, r4) := H
                            have A64 := Aside0.mk A640
                            clear A640
                            have H' := Aside0.mk H
                            clear H
                            try go_wp2
                            have n0_ := Aside0.mk (blk_drew BK263.out)
                            have n1_ := Aside0.mk (blk_drew BK264.out)
                            have n2_ := Aside0.mk (below_drew1 HB.out)
                            clear BK263
                            clear BK264
                            clear HB
                            have BK263 := n0_
                            have BK264 := n1_
                            have HB := n2_
                            clear n0_ n1_ n2_
                            have hlt66 : (x20_2 < 4) = True := eq_true (of_decide_eq_true (by first | (with_reducible assumption) | assumption))
                            have hge67 : (0 ≤ x20_2) = True := eq_true (of_decide_eq_true (by first | (with_reducible assumption) | assumption))
                            have hlt73 : (x20_2 < 4) = True := eq_true (of_decide_eq_true (by first | (with_reducible assumption) | assumption))
                            have hge74 : (0 ≤ x20_2) = True := eq_true (of_decide_eq_true (by first | (with_reducible assumption) | assumption))
                            refine start_ (n := 17) (S := fun w' => w'.cell? ⟨gb263, (x20_2).toNat, none⟩ = some (.int .u64 (rd ([x264000_2, x264001_2, x264002_2, x264003_2] : List Int) x20_2)) ∧ w'.cell? ⟨0, 3, none⟩ = some (.int .u64 665496235)) (ds := [16]) #[false, false, false, false, false, false, false, false, false, false, false, false, false, false, false, false, false] (by kernel_rfl) rfl rfl ⟨(sel_at (pre := []) (l := ([x264000_2, x264001_2, x264002_2, x264003_2] : List Int)) (post := []) BK263.out rfl (by simp) (of_decide_eq_true (by first | (with_reducible assumption) | assumption)) (of_decide_eq_true (by first | (with_reducible assumption) | assumption))), ((HRG.out.below HB.out).u0 3 (by decide))⟩ (fun hHeld => ?_); refine with_tabW sponge_Inverse.tab11 sponge_Inverse.bits11 (fun HT_ HW_ => ?_)
                            generalize wr.drew = w65 at BK263 BK264 HB hHeld ⊢
                            refine pure_ (i := 0) (N := some 23) (v := ?_) (a' := ?_) #[true, false, false, false, false, false, false, false, false, false, false, false, false, false, false, false, false] rfl rfl (any_of HT_.out (by kernel_rfl)) (fun _ _ _ h => h) (Or.inl ⟨by rfl, ?_⟩) ?_ ?_
                            rotate_left
                            · intro w'
                              go_simp
                              with_reducible rfl
                            rotate_left
                            · simp only [Act.put, List.setIfInBounds_toArray, List.set_cons_zero, List.set_cons_succ, i64_w, i32_w]
                              rfl
                            refine pure_ (i := 1) (N := some 24) (v := ?_) (a' := ?_) #[true, true, false, false, false, false, false, false, false, false, false, false, false, false, false, false, false] rfl rfl (any_of HT_.out (by kernel_rfl)) (fun _ _ _ h => h) (Or.inl ⟨by rfl, ?_⟩) ?_ ?_
                            rotate_left
                            · intro w'
                              go_simp
                              with_reducible rfl
                            rotate_left
                            · simp only [Act.put, List.setIfInBounds_toArray, List.set_cons_zero, List.set_cons_succ, i64_w, i32_w]
                              rfl
                            refine pure_ (i := 2) (N := some 25) (v := ?_) (a' := ?_) #[true, true, true, false, false, false, false, false, false, false, false, false, false, false, false, false, false] rfl rfl (any_of HT_.out (by kernel_rfl)) (fun _ _ _ h => h) (Or.inl ⟨by rfl, ?_⟩) ?_ ?_
                            rotate_left
                            · intro w'
                              go_simp
                              with_reducible rfl
                            rotate_left
                            · simp only [Act.put, List.setIfInBounds_toArray, List.set_cons_zero, List.set_cons_succ, i64_w, i32_w]
                              rfl
                            refine pure_ (i := 3) (N := some 26) (v := ?_) (a' := ?_) #[true, true, true, true, false, false, false, false, false, false, false, false, false, false, false, false, false] rfl rfl (any_of HT_.out (by kernel_rfl)) (fun _ _ _ h => h) (Or.inl ⟨by rfl, ?_⟩) ?_ ?_
                            rotate_left
                            · intro w'
                              go_simp
                              with_reducible rfl
                            rotate_left
                            · simp only [Act.put, List.setIfInBounds_toArray, List.set_cons_zero, List.set_cons_succ, i64_w, i32_w]
                              rfl
                            refine pure_ (i := 4) (N := some 27) (v := ?_) (a' := ?_) #[true, true, true, true, true, false, false, false, false, false, false, false, false, false, false, false, false] rfl rfl (any_of HT_.out (by kernel_rfl)) (fun _ _ _ h => h) (Or.inl ⟨by rfl, ?_⟩) ?_ ?_
                            rotate_left
                            · intro w'
                              go_simp
                              with_reducible rfl
                            rotate_left
                            · simp only [Act.put, List.setIfInBounds_toArray, List.set_cons_zero, List.set_cons_succ, i64_w, i32_w]
                              rfl
                            refine pure_ (i := 6) (N := some 29) (v := ?_) (a' := ?_) #[true, true, true, true, true, false, true, false, false, false, false, false, false, false, false, false, false] rfl rfl (any_of HT_.out (by kernel_rfl)) (fun _ _ _ h => h) (Or.inl ⟨by rfl, ?_⟩) ?_ ?_
                            rotate_left
                            · intro w'
                              go_simp
                              with_reducible rfl
                            rotate_left
                            · simp only [Act.put, List.setIfInBounds_toArray, List.set_cons_zero, List.set_cons_succ, i64_w, i32_w]
                              rfl
                            refine pure_ (i := 7) (N := some 30) (v := ?_) (a' := ?_) #[true, true, true, true, true, false, true, true, false, false, false, false, false, false, false, false, false] rfl rfl (any_of HT_.out (by kernel_rfl)) (fun _ _ _ h => h) (Or.inl ⟨by rfl, ?_⟩) ?_ ?_
                            rotate_left
                            · intro w'
                              go_simp
                              with_reducible rfl
                            rotate_left
                            · simp only [Act.put, List.setIfInBounds_toArray, List.set_cons_zero, List.set_cons_succ, i64_w, i32_w]
                              rfl
                            refine pure_ (i := 10) (N := some 33) (v := ?_) (a' := ?_) #[true, true, true, true, true, false, true, true, false, false, true, false, false, false, false, false, false] rfl rfl (any_of HT_.out (by kernel_rfl)) (fun _ _ _ h => h) (Or.inl ⟨by rfl, ?_⟩) ?_ ?_
                            rotate_left
                            · intro w'
                              go_simp
                              with_reducible rfl
                            rotate_left
                            · simp only [Act.put, List.setIfInBounds_toArray, List.set_cons_zero, List.set_cons_succ, i64_w, i32_w]
                              rfl
                            refine pure_ (i := 11) (N := some 34) (v := ?_) (a' := ?_) #[true, true, true, true, true, false, true, true, false, false, true, true, false, false, false, false, false] rfl rfl (any_of HT_.out (by kernel_rfl)) (fun _ _ _ h => h) (Or.inl ⟨by rfl, ?_⟩) ?_ ?_
                            rotate_left
                            · intro w'
                              go_simp
                              with_reducible rfl
                            rotate_left
                            · simp only [Act.put, List.setIfInBounds_toArray, List.set_cons_zero, List.set_cons_succ, i64_w, i32_w]
                              rfl
                            refine pure_ (i := 12) (N := some 35) (v := ?_) (a' := ?_) #[true, true, true, true, true, false, true, true, false, false, true, true, true, false, false, false, false] rfl rfl (any_of HT_.out (by kernel_rfl)) (fun _ _ _ h => h) (Or.inl ⟨by rfl, ?_⟩) ?_ ?_
                            rotate_left
                            · intro w'
                              go_simp
                              with_reducible rfl
                            rotate_left
                            · simp only [Act.put, List.setIfInBounds_toArray, List.set_cons_zero, List.set_cons_succ, i64_w, i32_w]
                              rfl
                            refine take_ (i := 5) (N := some 28) (v := ?_) (a' := ?_) #[true, true, true, true, true, true, true, true, false, false, true, true, true, false, false, false, false] rfl rfl (take_ofW HT_.out HW_.out (by kernel_rfl)) (fun _ _ _ h => h) (Or.inl ⟨by rfl, ?_⟩) hHeld ?_ ?_
                            rotate_left
                            · rintro w' ⟨s0, s1⟩
                              go_simp
                              with_reducible rfl
                            rotate_left
                            · simp only [Act.put, List.setIfInBounds_toArray, List.set_cons_zero, List.set_cons_succ, i64_w, i32_w]
                              rfl
                            refine take_ (i := 8) (N := some 31) (v := ?_) (a' := ?_) #[true, true, true, true, true, true, true, true, true, false, true, true, true, false, false, false, false] rfl rfl (take_ofW HT_.out HW_.out (by kernel_rfl)) (fun _ _ _ h => h) (Or.inl ⟨by rfl, ?_⟩) hHeld ?_ ?_
                            rotate_left
                            · rintro w' ⟨s0, s1⟩
                              go_simp
                              with_reducible rfl
                            rotate_left
                            · simp only [Act.put, List.setIfInBounds_toArray, List.set_cons_zero, List.set_cons_succ, i64_w, i32_w]
                              rfl
                            refine one_ (i := 9) (N := some 32) #[true, true, true, true, true, true, true, true, true, true, true, true, true, false, false, false, false] rfl rfl (one_of HT_.out (by kernel_rfl)) (by decide) (fun K hK => ?_)
                            refine goes_ Tryd.func29 (by kernel_rfl) rfl #[.int .i64 3, .int .u64 (rd ([x264000_2, x264001_2, x264002_2, x264003_2] : List Int) x20_2), .int .u64 665496235] (by rfl) rfl rfl (by (try simp only [List.map_toArray, List.map_cons, List.map_nil]); first | done | rfl | (simp only [List.length_drop, List.length_take]; rfl) | (go_simp; done) | (go_simp; rw [Int.tmod_eq_emod_of_nonneg (by omega)]; omega)) ?_
                            with_reducible refine (field_Pow.calls k2 3 (rd ([x264000_2, x264001_2, x264002_2, x264003_2] : List Int) x20_2) 665496235 t279 _ ?side1 A62.out).mono ?_
                            (case side1 => repeat (first | exact (GL.below HRG.out HB.out) | (with_reducible refine GL.alloc ?_ _) | (with_reducible refine GL.drewN ?_ _) | (with_reducible refine GL.drew ?_)))
                            rintro e w68 ⟨rfl, hb⟩
                            refine ⟨_, rfl, ?_⟩
                            have n0_ := Aside0.mk (blk_below (g := gb263) (o := .cells #[.int .u64 x264000_2, .int .u64 x264001_2, .int .u64 x264002_2, .int .u64 x264003_2] 23 (0, 0)) (by (with_reducible repeat (first | refine blk_drewN ?_ _ | refine blk_drew ?_ | refine blk_alloc ?_ _)); exact BK263.out) hb)
                            have n1_ := Aside0.mk (blk_below (g := gb264) (o := .cells #[.int .u64 0, .int .u64 0, .int .u64 0, .int .u64 0] 23 (0, 0)) (by (with_reducible repeat (first | refine blk_drewN ?_ _ | refine blk_drew ?_ | refine blk_alloc ?_ _)); exact BK264.out) hb)
                            have n2_ := Aside0.mk (below_step (by repeat (first | (with_reducible first | exact HB.out | apply below_alloc | apply pw_below_drewN | apply below_drew1 | refine below_set ?_ GE263.out | refine below_set ?_ GE264.out) | exact HB.out)) hb)
                            clear BK263
                            clear BK264
                            clear HB
                            have BK263 := n0_
                            have BK264 := n1_
                            have HB := n2_
                            clear n0_ n1_ n2_
                            (try clear hb)
                            (try clear hb2)
                            (try clear hk)
                            (try clear hi)
                            refine hK.out _ _ ⟨(sel_at (pre := []) (l := ([x264000_2, x264001_2, x264002_2, x264003_2] : List Int)) (post := []) BK263.out rfl (by simp) (of_decide_eq_true (by first | (with_reducible assumption) | assumption)) (of_decide_eq_true (by first | (with_reducible assumption) | assumption))), ((HRG.out.below HB.out).u0 3 (by decide))⟩ (fun hHeld => ?_)
                            clear hK K
                            refine norm_ (a' := ?_) ?_ ?_
                            rotate_left
                            · show Act.put _ (some 32) _ = _
                              simp only [Act.put, List.setIfInBounds_toArray, List.set_cons_zero, List.set_cons_succ, i64_w, i32_w]
                              rfl
                            refine one_ (i := 13) (N := some 36) #[true, true, true, true, true, true, true, true, true, true, true, true, true, true, false, false, false] rfl rfl (one_of HT_.out (by kernel_rfl)) (by decide) (fun K hK => ?_)
                            refine goes_ Tryd.func12 (by kernel_rfl) rfl #[.int .i64 3, .int .i64 (wrap64 (7 - x12_1)), .int .i64 x20_2] (by rfl) rfl rfl (by (try simp only [List.map_toArray, List.map_cons, List.map_nil]); first | done | rfl | (simp only [List.length_drop, List.length_take]; rfl) | (go_simp; done) | (go_simp; rw [Int.tmod_eq_emod_of_nonneg (by omega)]; omega)) ?_
                            with_reducible refine (sponge_Constant.calls k2 3 (wrap64 (7 - x12_1)) x20_2 t280 _ ?side1 A63.out).mono ?_
                            (case side1 => repeat (first | exact (GL.below HRG.out HB.out) | (with_reducible refine GL.alloc ?_ _) | (with_reducible refine GL.drewN ?_ _) | (with_reducible refine GL.drew ?_)))
                            rintro e w69 ⟨rfl, hb⟩
                            refine ⟨_, rfl, ?_⟩
                            have n0_ := Aside0.mk (blk_below (g := gb263) (o := .cells #[.int .u64 x264000_2, .int .u64 x264001_2, .int .u64 x264002_2, .int .u64 x264003_2] 23 (0, 0)) (by (with_reducible repeat (first | refine blk_drewN ?_ _ | refine blk_drew ?_ | refine blk_alloc ?_ _)); exact BK263.out) hb)
                            have n1_ := Aside0.mk (blk_below (g := gb264) (o := .cells #[.int .u64 0, .int .u64 0, .int .u64 0, .int .u64 0] 23 (0, 0)) (by (with_reducible repeat (first | refine blk_drewN ?_ _ | refine blk_drew ?_ | refine blk_alloc ?_ _)); exact BK264.out) hb)
                            have n2_ := Aside0.mk (below_step (by repeat (first | (with_reducible first | exact HB.out | apply below_alloc | apply pw_below_drewN | apply below_drew1 | refine below_set ?_ GE263.out | refine below_set ?_ GE264.out) | exact HB.out)) hb)
                            clear BK263
                            clear BK264
                            clear HB
                            have BK263 := n0_
                            have BK264 := n1_
                            have HB := n2_
                            clear n0_ n1_ n2_
                            (try clear hb)
                            (try clear hb2)
                            (try clear hk)
                            (try clear hi)
                            refine hK.out _ _ ⟨(sel_at (pre := []) (l := ([x264000_2, x264001_2, x264002_2, x264003_2] : List Int)) (post := []) BK263.out rfl (by simp) (of_decide_eq_true (by first | (with_reducible assumption) | assumption)) (of_decide_eq_true (by first | (with_reducible assumption) | assumption))), ((HRG.out.below HB.out).u0 3 (by decide))⟩ (fun hHeld => ?_)
                            clear hK K
                            refine norm_ (a' := ?_) ?_ ?_
                            rotate_left
                            · show Act.put _ (some 36) _ = _
                              simp only [Act.put, List.setIfInBounds_toArray, List.set_cons_zero, List.set_cons_succ, i64_w, i32_w]
                              rfl
                            refine one_ (i := 14) (N := some 37) #[true, true, true, true, true, true, true, true, true, true, true, true, true, true, true, false, false] rfl rfl (one_of HT_.out (by kernel_rfl)) (by decide) (fun K hK => ?_)
                            refine goes_ Tryd.func45 (by kernel_rfl) rfl #[.int .i64 3, .int .u64 t279, .int .u64 t280] (by rfl) rfl rfl (by (try simp only [List.map_toArray, List.map_cons, List.map_nil]); first | done | rfl | (simp only [List.length_drop, List.length_take]; rfl) | (go_simp; done) | (go_simp; rw [Int.tmod_eq_emod_of_nonneg (by omega)]; omega)) ?_
                            with_reducible refine (field_Sub.calls 3 t279 t280 t281 _ ?side1 A64.out).mono ?_
                            (case side1 => repeat (first | exact (GL.below HRG.out HB.out) | (with_reducible refine GL.alloc ?_ _) | (with_reducible refine GL.drewN ?_ _) | (with_reducible refine GL.drew ?_)))
                            rintro e w70 ⟨rfl, hb⟩
                            refine ⟨_, rfl, ?_⟩
                            have n0_ := Aside0.mk (blk_below (g := gb263) (o := .cells #[.int .u64 x264000_2, .int .u64 x264001_2, .int .u64 x264002_2, .int .u64 x264003_2] 23 (0, 0)) (by (with_reducible repeat (first | refine blk_drewN ?_ _ | refine blk_drew ?_ | refine blk_alloc ?_ _)); exact BK263.out) hb)
                            have n1_ := Aside0.mk (blk_below (g := gb264) (o := .cells #[.int .u64 0, .int .u64 0, .int .u64 0, .int .u64 0] 23 (0, 0)) (by (with_reducible repeat (first | refine blk_drewN ?_ _ | refine blk_drew ?_ | refine blk_alloc ?_ _)); exact BK264.out) hb)
                            have n2_ := Aside0.mk (below_step (by repeat (first | (with_reducible first | exact HB.out | apply below_alloc | apply pw_below_drewN | apply below_drew1 | refine below_set ?_ GE263.out | refine below_set ?_ GE264.out) | exact HB.out)) hb)
                            clear BK263
                            clear BK264
                            clear HB
                            have BK263 := n0_
                            have BK264 := n1_
                            have HB := n2_
                            clear n0_ n1_ n2_
                            (try clear hb)
                            (try clear hb2)
                            (try clear hk)
                            (try clear hi)
                            refine hK.out _ _ ⟨(sel_at (pre := []) (l := ([x264000_2, x264001_2, x264002_2, x264003_2] : List Int)) (post := []) BK263.out rfl (by simp) (of_decide_eq_true (by first | (with_reducible assumption) | assumption)) (of_decide_eq_true (by first | (with_reducible assumption) | assumption))), ((HRG.out.below HB.out).u0 3 (by decide))⟩ (fun hHeld => ?_)
                            clear hK K
                            refine norm_ (a' := ?_) ?_ ?_
                            rotate_left
                            · show Act.put _ (some 37) _ = _
                              simp only [Act.put, List.setIfInBounds_toArray, List.set_cons_zero, List.set_cons_succ, i64_w, i32_w]
                              rfl
                            refine pure_ (i := 15) (N := some 38) (v := ?_) (a' := ?_) #[true, true, true, true, true, true, true, true, true, true, true, true, true, true, true, true, false] rfl rfl (any_of HT_.out (by kernel_rfl)) (fun _ _ _ h => h) (Or.inl ⟨by rfl, ?_⟩) ?_ ?_
                            rotate_left
                            · intro w'
                              go_simp
                              with_reducible rfl
                            rotate_left
                            · simp only [Act.put, List.setIfInBounds_toArray, List.set_cons_zero, List.set_cons_succ, i64_w, i32_w]
                              rfl
                            refine last_ (i := 16) (N := none) #[true, true, true, true, true, true, true, true, true, true, true, true, true, true, true, true, true] rfl rfl (one_of HT_.out (by kernel_rfl)) (by decide) (fun K hK => ?_)
                            have hsv71 : w70.cell? ⟨gb263, (x20_2).toNat, none⟩ = some (.int .u64 (rd ([x264000_2, x264001_2, x264002_2, x264003_2] : List Int) x20_2)) := (sel_at (pre := []) (l := ([x264000_2, x264001_2, x264002_2, x264003_2] : List Int)) (post := []) BK263.out rfl (by simp) (of_decide_eq_true (by first | (with_reducible assumption) | assumption)) (of_decide_eq_true (by first | (with_reducible assumption) | assumption)))
                            have hfv72 := blk_frozen BK263.out ((x20_2).toNat)
                            have hns75_1 := NB264_263.out
                            have hms75_1 := NB263_264.out
                            refine skip_ (w1 := ?_) (by rfl) rfl ?_ ?_
                            rotate_left
                            · go_simp
                              rfl
                            refine hK.out _ _ ?_
                            clear hK K
                            refine done_ (done_of HT_.out (by kernel_rfl)) ?_
                            try go_wp2
                            go_roundg k2
                            case measure => have := HK1.out; have := HK2.out; omega
                            case rel => exact ⟨(wrap64 (x20_2 + 1)), ((updv x264000_2 0 x20_2 t281)), ((updv x264001_2 1 x20_2 t281)), ((updv x264002_2 2 x20_2 t281)), ((updv x264003_2 3 x20_2 t281)), (by first | rfl | (simp; done) | (simp [*]; done) | (simp; rfl) | (simp; decide +kernel)), H', ⟨by have := HK1.out; have := HK2.out; omega⟩, ⟨by (with_reducible repeat (first | refine blk_drewN ?_ _ | refine blk_drew ?_ | refine blk_alloc ?_ _)); refine sel_put (pre := []) (l := ([x264000_2, x264001_2, x264002_2, x264003_2] : List Int)) (post := []) ?_ rfl rfl (by simp) (of_decide_eq_true (by first | (with_reducible assumption) | assumption)) (of_decide_eq_true (by first | (with_reducible assumption) | assumption)); (with_reducible repeat (first | refine blk_drewN ?_ _ | refine blk_drew ?_ | refine blk_alloc ?_ _)); exact BK263.out⟩, ⟨by (with_reducible repeat (first | refine blk_drewN ?_ _ | refine blk_drew ?_ | refine blk_alloc ?_ _)); refine blk_far ?_ NB264_263.out _; (with_reducible repeat (first | refine blk_drewN ?_ _ | refine blk_drew ?_ | refine blk_alloc ?_ _)); exact BK264.out⟩, ⟨by repeat (first | (with_reducible first | exact HB.out | apply below_alloc | apply pw_below_drewN | apply below_drew1 | refine below_set ?_ GE263.out | refine below_set ?_ GE264.out) | exact HB.out)⟩⟩
                          · rw [if_neg c61] at H
                            exact absurd H (by simp)
                  · rw [if_neg c15] at H
                    exact absurd H (by simp)
                · rw [if_neg c14] at H
                  exact absurd H (by simp)
              · rw [if_neg c13] at H
                have c13b0 : decide (x20_2 < 4) = false := decide_eq_false c13
                clear c13
                have H' := Aside0.mk H
                clear H
                go_wp2
                go_roundg k2
                case measure => have := HK1.out; have := HK2.out; omega
                case rel => exact ⟨(wrap64 (x12_1 + 1)), (x264000_2), (x264001_2), (x264002_2), (x264003_2), (by first | rfl | (simp; done) | (simp [*]; done) | (simp; rfl) | (simp; decide +kernel)), H', ⟨by have := HK1.out; have := HK2.out; omega⟩, ⟨by (with_reducible repeat (first | refine blk_drewN ?_ _ | refine blk_drew ?_ | refine blk_alloc ?_ _)); exact BK263.out⟩, ⟨by (with_reducible repeat (first | refine blk_drewN ?_ _ | refine blk_drew ?_ | refine blk_alloc ?_ _)); exact BK264.out⟩, ⟨by repeat (first | (with_reducible first | exact HB.out | apply below_alloc | apply pw_below_drewN | apply below_drew1 | refine below_set ?_ GE263.out | refine below_set ?_ GE264.out) | exact HB.out)⟩⟩
        · rw [if_neg c7] at H
          have c7b0 : decide (x12_1 < 8) = false := decide_eq_false c7
          clear c7
          simp only [Option.some.injEq, Prod.mk.injEq] at H
          obtain ⟨rfl, rfl, rfl, rfl⟩ := H
          have hnb76 := NB263_264.out
          have hnc76 := NB264_263.out
          have hcz77_0 : wr.cell? ⟨gb263, 0, none⟩ = some (.int .u64 x264000_1) := (blk_cell BK263.out 0).trans rfl
          have hcz77_1 : wr.cell? ⟨gb263, 1, none⟩ = some (.int .u64 x264001_1) := (blk_cell BK263.out 1).trans rfl
          have hcz77_2 : wr.cell? ⟨gb263, 2, none⟩ = some (.int .u64 x264002_1) := (blk_cell BK263.out 2).trans rfl
          have hcz77_3 : wr.cell? ⟨gb263, 3, none⟩ = some (.int .u64 x264003_1) := (blk_cell BK263.out 3).trans rfl
          have hfz77_0 := blk_frozen BK263.out 0
          have hfz77_1 := blk_frozen BK263.out 1
          have hfz77_2 := blk_frozen BK263.out 2
          have hfz77_3 := blk_frozen BK263.out 3
          have hcz78_0 : wr.cell? ⟨gb264, 0, none⟩ = some (.int .u64 0) := (blk_cell BK264.out 0).trans rfl
          have hcz78_1 : wr.cell? ⟨gb264, 1, none⟩ = some (.int .u64 0) := (blk_cell BK264.out 1).trans rfl
          have hcz78_2 : wr.cell? ⟨gb264, 2, none⟩ = some (.int .u64 0) := (blk_cell BK264.out 2).trans rfl
          have hcz78_3 : wr.cell? ⟨gb264, 3, none⟩ = some (.int .u64 0) := (blk_cell BK264.out 3).trans rfl
          have hfz78_0 := blk_frozen BK264.out 0
          have hfz78_1 := blk_frozen BK264.out 1
          have hfz78_2 := blk_frozen BK264.out 2
          have hfz78_3 := blk_frozen BK264.out 3
          go_wp2
          refine bodyPost_ret (results_cell_row rfl _ _ gb264 23 #[.int .u64 x264000_1, .int .u64 x264001_1, .int .u64 x264002_1, .int .u64 x264003_1] (0, 0) _ rfl (by (with_reducible repeat (first | refine blk_drewN ?_ _ | refine blk_drew ?_ | refine blk_alloc ?_ _)); refine blk_put (cs := #[.int .u64 x264000_1, .int .u64 x264001_1, .int .u64 x264002_1, .int .u64 0]) ?_ 3 _ rfl; (with_reducible repeat (first | refine blk_drewN ?_ _ | refine blk_drew ?_ | refine blk_alloc ?_ _)); refine blk_put (cs := #[.int .u64 x264000_1, .int .u64 x264001_1, .int .u64 0, .int .u64 0]) ?_ 2 _ rfl; (with_reducible repeat (first | refine blk_drewN ?_ _ | refine blk_drew ?_ | refine blk_alloc ?_ _)); refine blk_put (cs := #[.int .u64 x264000_1, .int .u64 0, .int .u64 0, .int .u64 0]) ?_ 1 _ rfl; (with_reducible repeat (first | refine blk_drewN ?_ _ | refine blk_drew ?_ | refine blk_alloc ?_ _)); refine blk_put (cs := #[.int .u64 0, .int .u64 0, .int .u64 0, .int .u64 0]) ?_ 0 _ rfl; (with_reducible repeat (first | refine blk_drewN ?_ _ | refine blk_drew ?_ | refine blk_alloc ?_ _)); exact BK264.out) Tryd.underlying23 rfl (by kernel_rfl)) rfl ?_
          exact ⟨by first | rfl | (simp [errW_none, errW_some] <;> rfl) | (simp [*, errW_none, errW_some] <;> rfl), by repeat (first | (with_reducible first | exact HB.out | apply below_alloc | apply pw_below_drewN | apply below_drew1 | refine below_set ?_ GE263.out | refine below_set ?_ GE264.out) | exact HB.out)⟩
  · replace c4 := Bool.eq_false_iff.mpr c4
    subst c4
    have H1 : (some (0, 0, 0, 0)) = some (r1, r2, r3, r4) := by rw [if_neg (show ¬ (false = true) by decide)] at H; exact H
    clear H
    have H := H1
    clear H1
    simp only [Option.some.injEq, Prod.mk.injEq] at H
    obtain ⟨rfl, rfl, rfl, rfl⟩ := H
    go_enter Tryd.func25, Tryd.ntmps25
    go_wp2_with (first | ((with_reducible refine gate_dst (N := 3) rfl ?_); refine box_event ?hg (N := 3) ?hd (cs := #[.int .u64 a1_0, .int .u64 a1_1, .int .u64 a1_2, .int .u64 a1_3]) (t := 23) ?hr ?_; (case hd => rfl); (case hg => rfl); (case hr => first | (go_simp; done) | (go_simp; rfl)); intro gb263 hg w79 hbox hb; have n0_ := Aside0.mk (below_step (by repeat (first | (with_reducible first | exact HB.out | apply below_alloc | apply pw_below_drewN | apply below_drew1) | exact HB.out)) hb); have n1_ := Aside0.mk (hbox); have n2_ := Aside0.mk ((by rw [hg]; exact (below_size (by repeat (first | (with_reducible first | exact HB.out | apply below_alloc | apply pw_below_drewN | apply below_drew1) | exact HB.out))) : w.heap.size ≤ gb263)); have n3_ := Aside0.mk ((by rw [hg]; exact (below_size (by repeat (first | (with_reducible first | exact HB.out | apply below_alloc | apply pw_below_drewN | apply below_drew1) | exact HB.out))) : w.heap.size ≤ gb263)); clear HB; have HB := n0_; have BK263 := n1_; have GW263 := n2_; have GE263 := n3_; clear n0_ n1_ n2_ n3_; clear hb hbox hg) | ((with_reducible refine gate_dst (N := 4) rfl ?_); refine box_event ?hg (N := 4) ?hd (cs := #[.int .u64 0, .int .u64 0, .int .u64 0, .int .u64 0]) (t := 23) ?hr ?_; (case hd => rfl); (case hg => rfl); (case hr => first | (go_simp; done) | (go_simp; rfl)); intro gb264 hg w80 hbox hb; have n0_ := Aside0.mk (blk_below (g := gb263) (o := .cells #[.int .u64 a1_0, .int .u64 a1_1, .int .u64 a1_2, .int .u64 a1_3] 23 (0, 0)) (by (with_reducible repeat (first | refine blk_drewN ?_ _ | refine blk_drew ?_ | refine blk_alloc ?_ _)); exact BK263.out) hb); have n1_ := Aside0.mk (below_step (by repeat (first | (with_reducible first | exact HB.out | apply below_alloc | apply pw_below_drewN | apply below_drew1 | refine below_set ?_ GE263.out) | exact HB.out)) hb); have n2_ := Aside0.mk (hbox); have n3_ := Aside0.mk ((by rw [hg]; exact (below_size (by repeat (first | (with_reducible first | exact HB.out | apply below_alloc | apply pw_below_drewN | apply below_drew1 | refine below_set ?_ GE263.out) | exact HB.out))) : w.heap.size ≤ gb264)); have n4_ := Aside0.mk ((by rw [hg]; exact (below_size (by repeat (first | (with_reducible first | exact HB.out | apply below_alloc | apply pw_below_drewN | apply below_drew1 | refine below_set ?_ GE263.out) | exact HB.out))) : w.heap.size ≤ gb264)); have n5_ := Aside0.mk ((by rw [hg]; exact Nat.ne_of_lt (blk_lt (g := gb263) (o := .cells #[.int .u64 a1_0, .int .u64 a1_1, .int .u64 a1_2, .int .u64 a1_3] 23 (0, 0)) (by (with_reducible repeat (first | refine blk_drewN ?_ _ | refine blk_drew ?_ | refine blk_alloc ?_ _)); exact BK263.out)) : gb263 ≠ gb264)); have n6_ := Aside0.mk ((by rw [hg]; exact Nat.ne_of_gt (blk_lt (g := gb263) (o := .cells #[.int .u64 a1_0, .int .u64 a1_1, .int .u64 a1_2, .int .u64 a1_3] 23 (0, 0)) (by (with_reducible repeat (first | refine blk_drewN ?_ _ | refine blk_drew ?_ | refine blk_alloc ?_ _)); exact BK263.out)) : gb264 ≠ gb263)); clear BK263; clear HB; have BK263 := n0_; have HB := n1_; have BK264 := n2_; have GW264 := n3_; have GE264 := n4_; have NB263_264 := n5_; have NB264_263 := n6_; clear n0_ n1_ n2_ n3_ n4_ n5_ n6_; clear hb hbox hg) | ((with_reducible refine gate_callee (f := 41) rfl ?_); refine goesL_ (some 9) rfl rfl Tryd.func41 (by kernel_rfl) rfl #[.int .i64 a0] rfl (by (try simp only [List.map_toArray, List.map_cons, List.map_nil]); first | done | rfl | (simp only [List.length_drop, List.length_take]; rfl) | (go_simp; done) | (go_simp; rw [Int.tmod_eq_emod_of_nonneg (by omega)]; omega)) ?_; (with_reducible refine (field_Valid.calls a0 false _ A3.out).mono ?_); rintro e w' ⟨rfl, ⟨nd, rfl⟩⟩; refine ⟨_, rfl, ?_⟩; (try (rw [drewN_self w80]; generalize hq_ : World.drewN w80 _ = w80; have n0_ : Aside0 (w80.heap[gb263]? = some (.cells #[.int .u64 a1_0, .int .u64 a1_1, .int .u64 a1_2, .int .u64 a1_3] 23 (0, 0))) := ⟨by rw [← hq_]; exact (by (with_reducible repeat (first | refine blk_drewN ?_ _ | refine blk_drew ?_ | refine blk_alloc ?_ _)); exact BK263.out)⟩; have n1_ : Aside0 (w80.heap[gb264]? = some (.cells #[.int .u64 0, .int .u64 0, .int .u64 0, .int .u64 0] 23 (0, 0))) := ⟨by rw [← hq_]; exact (by (with_reducible repeat (first | refine blk_drewN ?_ _ | refine blk_drew ?_ | refine blk_alloc ?_ _)); exact BK264.out)⟩; have n2_ : Aside0 (Below w.heap.size w w80) := ⟨by rw [← hq_]; exact (by repeat (first | (with_reducible first | exact HB.out | apply below_alloc | apply pw_below_drewN | apply below_drew1 | refine below_set ?_ GE263.out | refine below_set ?_ GE264.out) | exact HB.out))⟩; clear BK263 BK264 HB hq_; have BK263 := n0_; have BK264 := n1_; have HB := n2_; clear n0_ n1_ n2_)); have hnb81 := NB264_263.out; have hnc81 := NB263_264.out; have hcz82_0 : w80.cell? ⟨gb264, 0, none⟩ = some (.int .u64 0) := (blk_cell BK264.out 0).trans rfl; have hcz82_1 : w80.cell? ⟨gb264, 1, none⟩ = some (.int .u64 0) := (blk_cell BK264.out 1).trans rfl; have hcz82_2 : w80.cell? ⟨gb264, 2, none⟩ = some (.int .u64 0) := (blk_cell BK264.out 2).trans rfl; have hcz82_3 : w80.cell? ⟨gb264, 3, none⟩ = some (.int .u64 0) := (blk_cell BK264.out 3).trans rfl; have hfz82_0 := blk_frozen BK264.out 0; have hfz82_1 := blk_frozen BK264.out 1; have hfz82_2 := blk_frozen BK264.out 2; have hfz82_3 := blk_frozen BK264.out 3))
    refine bodyPost_ret (results_cell_row rfl _ _ gb264 23 #[.int .u64 0, .int .u64 0, .int .u64 0, .int .u64 0] (0, 0) _ rfl (by (with_reducible repeat (first | refine blk_drewN ?_ _ | refine blk_drew ?_ | refine blk_alloc ?_ _)); refine blk_put (cs := #[.int .u64 0, .int .u64 0, .int .u64 0, .int .u64 0]) ?_ 3 _ rfl; (with_reducible repeat (first | refine blk_drewN ?_ _ | refine blk_drew ?_ | refine blk_alloc ?_ _)); refine blk_put (cs := #[.int .u64 0, .int .u64 0, .int .u64 0, .int .u64 0]) ?_ 2 _ rfl; (with_reducible repeat (first | refine blk_drewN ?_ _ | refine blk_drew ?_ | refine blk_alloc ?_ _)); refine blk_put (cs := #[.int .u64 0, .int .u64 0, .int .u64 0, .int .u64 0]) ?_ 1 _ rfl; (with_reducible repeat (first | refine blk_drewN ?_ _ | refine blk_drew ?_ | refine blk_alloc ?_ _)); refine blk_put (cs := #[.int .u64 0, .int .u64 0, .int .u64 0, .int .u64 0]) ?_ 0 _ rfl; (with_reducible repeat (first | refine blk_drewN ?_ _ | refine blk_drew ?_ | refine blk_alloc ?_ _)); exact BK264.out) Tryd.underlying23 rfl (by kernel_rfl)) rfl ?_
    exact ⟨by first | rfl | (simp [errW_none, errW_some] <;> rfl) | (simp [*, errW_none, errW_some] <;> rfl), by repeat (first | (with_reducible first | exact HB.out | apply below_alloc | apply pw_below_drewN | apply below_drew1 | refine below_set ?_ GE263.out | refine below_set ?_ GE264.out) | exact HB.out)⟩

end Go.Proofs.YtjfekjblnoagkaaDoor.Q
end
section
namespace Go.Proofs.YtjfekjblnoagkaaDoor.Q
open Go.RowKit Go.Proofs.YtjfekjblnoagkaaDoorW.PrintWords Go.Proofs.YtjfekjblnoagkaaDoorW.PrintLast Go.Proofs.YtjfekjblnoagkaaDoorW.PrintMore
open Go.Proofs.YtjfekjblnoagkaaDoor.Num
set_option linter.unusedVariables false
set_option linter.unusedSimpArgs false

/-- One element of what undoes the sums of a round. -/
def cg (p t0 t1 t2 t3 : Nat) : Nat := ((p - 4) * t0 + 3 * t1 + (p - 11) * t2 + 17 * t3) * iv p 35 % p
def gat (p : Nat) (t : S4) : S4 := ⟨cg p t.a t.b t.c t.d, cg p t.b t.c t.d t.a, cg p t.c t.d t.a t.b, cg p t.d t.a t.b t.c⟩
def dn (p g d n : Nat) (y : S4) : S4 := ⟨sb p (y.a ^ d % p) (cst p g (n + 1)), sb p (y.b ^ d % p) (cst p g (n + 2)), sb p (y.c ^ d % p) (cst p g (n + 3)), sb p (y.d ^ d % p) (cst p g (n + 4))⟩
/-- A round undone. -/
def bk (p g d n : Nat) (t : S4) : S4 := dn p g d n (gat p t)
/-- The first m rounds of the inverse: the rounds 7, 6, .. undone. -/
def inv (p g d : Nat) : Nat → S4 → S4
  | 0, s => s
  | m + 1, s => bk p g d (4 * (7 - m)) (inv p g d m s)
/-- The prime, the exponent, and the exponent that undoes it. -/
def Ex (p e d : Nat) : Prop := (p = 97 ∧ e = 5 ∧ d = 77) ∨ (p = 257 ∧ e = 3 ∧ d = 171) ∨ (p = 12289 ∧ e = 5 ∧ d = 7373) ∨ (p = 998244353 ∧ e = 3 ∧ d = 665496235)
theorem Ex.pr {p e d : Nat} (h : Ex p e d) : Pr p := by
  rcases h with ⟨rfl, _⟩ | ⟨rfl, _⟩ | ⟨rfl, _⟩ | ⟨rfl, _⟩
  · exact pr97
  · exact pr257
  · exact pr12289
  · exact pr998244353
theorem Ex.ed {p e d : Nat} (h : Ex p e d) : ∃ c, e * d = 1 + (p - 1) * c := by
  rcases h with ⟨rfl, rfl, rfl⟩ | ⟨rfl, rfl, rfl⟩ | ⟨rfl, rfl, rfl⟩ | ⟨rfl, rfl, rfl⟩
  · exact ⟨4, by decide⟩
  · exact ⟨2, by decide⟩
  · exact ⟨3, by decide⟩
  · exact ⟨2, by decide⟩
theorem Ex.pos {p e d : Nat} (h : Ex p e d) : 0 < p := by have := h.pr.1; omega
theorem pow_one_add {p : Nat} (hp : Pr p) (x c : Nat) : x ^ (1 + (p - 1) * c) % p = x % p := by
  by_cases h : x % p = 0
  · rw [Nat.pow_mod, h, Nat.add_comm, Nat.pow_succ, Nat.mul_zero, Nat.zero_mod]
  · rw [Nat.pow_add, Nat.pow_one, Nat.pow_mul, Nat.mul_mod, Nat.pow_mod (x ^ (p - 1)), hp.fermat h, Nat.one_pow, ← Nat.mul_mod, Nat.mul_one]
theorem back_pow {p e d : Nat} (h : Ex p e d) (x : Nat) : (x ^ e % p) ^ d % p = x % p := by
  obtain ⟨c, hc⟩ := h.ed
  rw [← Nat.pow_mod, ← Nat.pow_mul, hc, pow_one_add h.pr]
theorem back_pow' {p e d : Nat} (h : Ex p e d) (x : Nat) : (x ^ d % p) ^ e % p = x % p := by
  obtain ⟨c, hc⟩ := h.ed
  rw [← Nat.pow_mod, ← Nat.pow_mul, Nat.mul_comm, hc, pow_one_add h.pr]
theorem sb_add {p e d : Nat} (h : Ex p e d) (s c : Nat) (hs : s < p) : sb p ((s + c) % p) c = s := by
  unfold sb
  rcases h with ⟨rfl, _⟩ | ⟨rfl, _⟩ | ⟨rfl, _⟩ | ⟨rfl, _⟩ <;> omega
theorem add_sb {p e d : Nat} (h : Ex p e d) (y c : Nat) : (sb p y c + c) % p = y % p := by
  unfold sb
  rcases h with ⟨rfl, _⟩ | ⟨rfl, _⟩ | ⟨rfl, _⟩ | ⟨rfl, _⟩ <;> omega
theorem sb_lt {p : Nat} (hp : 0 < p) (y c : Nat) : sb p y c < p := Nat.mod_lt _ hp
theorem inv35 {p e d : Nat} (h : Ex p e d) : 35 * iv p 35 % p = 1 := h.pr.inv_pow (by rcases h with ⟨rfl, _⟩ | ⟨rfl, _⟩ | ⟨rfl, _⟩ | ⟨rfl, _⟩ <;> decide)
theorem fin35 {p N a i : Nat} (hi : 35 * i % p = 1) (h : N % p = 35 * a % p) : N * i % p = a % p := by
  rw [Nat.mul_mod, h, ← Nat.mul_mod, Nat.mul_right_comm, Nat.mul_mod, hi, Nat.one_mul, Nat.mod_mod]
theorem cg_mixd {p e d : Nat} (h : Ex p e d) (w x y z : Nat) (hw : w < p) : cg p ((2 * w + 3 * x + y + z) % p) ((w + 2 * x + 3 * y + z) % p) ((w + x + 2 * y + 3 * z) % p) ((3 * w + x + y + 2 * z) % p) = w := by
  unfold cg
  rw [fin35 (a := w) (inv35 h), Nat.mod_eq_of_lt hw]
  rcases h with ⟨rfl, _⟩ | ⟨rfl, _⟩ | ⟨rfl, _⟩ | ⟨rfl, _⟩ <;> omega
theorem gat_mixd {p e d : Nat} (h : Ex p e d) (w x y z : Nat) (hw : w < p) (hx : x < p) (hy : y < p) (hz : z < p) : gat p (mixd p w x y z) = ⟨w, x, y, z⟩ := by
  have a1 := cg_mixd h w x y z hw
  have a2 := cg_mixd h x y z w hx
  have a3 := cg_mixd h y z w x hy
  have a4 := cg_mixd h z w x y hz
  simp only [gat, mixd]
  rw [show x + 2 * y + 3 * z + w = w + x + 2 * y + 3 * z by omega, show x + y + 2 * z + 3 * w = 3 * w + x + y + 2 * z by omega, show 2 * x + 3 * y + z + w = w + 2 * x + 3 * y + z by omega, show 3 * x + y + z + 2 * w = 2 * w + 3 * x + y + z by omega] at a2
  rw [show 2 * y + 3 * z + w + x = w + x + 2 * y + 3 * z by omega, show y + 2 * z + 3 * w + x = 3 * w + x + y + 2 * z by omega, show y + z + 2 * w + 3 * x = 2 * w + 3 * x + y + z by omega, show 3 * y + z + w + 2 * x = w + 2 * x + 3 * y + z by omega] at a3
  rw [show 2 * z + 3 * w + x + y = 3 * w + x + y + 2 * z by omega, show z + 2 * w + 3 * x + y = 2 * w + 3 * x + y + z by omega, show z + w + 2 * x + 3 * y = w + 2 * x + 3 * y + z by omega, show 3 * z + w + x + 2 * y = w + x + 2 * y + 3 * z by omega] at a4
  rw [a1, a2, a3, a4]
theorem sum35 {p e d : Nat} (h : Ex p e d) (i n0 n1 n2 n3 t : Nat) (hi : 35 * i % p = 1) (ht : t < p) (hN : (2 * n0 + 3 * n1 + n2 + n3) % p = 35 * t % p) : (2 * (n0 * i % p) + 3 * (n1 * i % p) + n2 * i % p + n3 * i % p) % p = t := by
  have e1 : (2 * n0 + 3 * n1 + n2 + n3) * i = 2 * (n0 * i) + 3 * (n1 * i) + n2 * i + n3 * i := by simp only [Nat.add_mul, Nat.mul_assoc]
  have e2 : (2 * n0 + 3 * n1 + n2 + n3) * i % p = t := by rw [fin35 hi hN, Nat.mod_eq_of_lt ht]
  rw [e1] at e2
  rw [← e2]
  generalize n0 * i = u0
  generalize n1 * i = u1
  generalize n2 * i = u2
  generalize n3 * i = u3
  rcases h with ⟨rfl, _⟩ | ⟨rfl, _⟩ | ⟨rfl, _⟩ | ⟨rfl, _⟩ <;> omega
theorem mix_cg {p e d : Nat} (h : Ex p e d) (a b c x : Nat) (ha : a < p) : (2 * cg p a b c x + 3 * cg p b c x a + cg p c x a b + cg p x a b c) % p = a := by
  unfold cg
  refine sum35 h _ _ _ _ _ _ (inv35 h) ha ?_
  rcases h with ⟨rfl, _⟩ | ⟨rfl, _⟩ | ⟨rfl, _⟩ | ⟨rfl, _⟩ <;> omega
theorem mixd_gat {p e d : Nat} (h : Ex p e d) (t : S4) (ht : t.lt p) : mixd p (gat p t).a (gat p t).b (gat p t).c (gat p t).d = t := by
  obtain ⟨a, b, c, x⟩ := t
  obtain ⟨h1, h2, h3, h4⟩ := ht
  have a1 := mix_cg h a b c x h1
  have a2 := mix_cg h b c x a h2
  have a3 := mix_cg h c x a b h3
  have a4 := mix_cg h x a b c h4
  simp only [gat, mixd]
  generalize cg p a b c x = u at *
  generalize cg p b c x a = v at *
  generalize cg p c x a b = w at *
  generalize cg p x a b c = z at *
  rw [show 2 * v + 3 * w + z + u = u + 2 * v + 3 * w + z by omega] at a2
  rw [show 2 * w + 3 * z + u + v = u + v + 2 * w + 3 * z by omega] at a3
  rw [show 2 * z + 3 * u + v + w = 3 * u + v + w + 2 * z by omega] at a4
  rw [a1, a2, a3, a4]
theorem bk_rn {p e d : Nat} (h : Ex p e d) (g n : Nat) (s : S4) (hs : s.lt p) : bk p g d n (rn p g e n s) = s := by
  have hp := h.pos
  obtain ⟨a, b, c, x⟩ := s
  obtain ⟨h1, h2, h3, h4⟩ := hs
  simp only [bk, rn]
  rw [gat_mixd h _ _ _ _ (Nat.mod_lt _ hp) (Nat.mod_lt _ hp) (Nat.mod_lt _ hp) (Nat.mod_lt _ hp)]
  simp only [dn, back_pow h, sb_add h _ _ h1, sb_add h _ _ h2, sb_add h _ _ h3, sb_add h _ _ h4]
theorem cg_lt {p : Nat} (hp : 0 < p) (a b c x : Nat) : cg p a b c x < p := Nat.mod_lt _ hp
theorem rn_bk {p e d : Nat} (h : Ex p e d) (g n : Nat) (t : S4) (ht : t.lt p) : rn p g e n (bk p g d n t) = t := by
  have hp := h.pos
  have key : ∀ y c, y < p → (sb p (y ^ d % p) c + c) ^ e % p = y := fun y c hy => by
    rw [Nat.pow_mod, add_sb h, Nat.mod_mod, back_pow' h, Nat.mod_eq_of_lt hy]
  simp only [rn, bk, dn]
  rw [key (gat p t).a _ (cg_lt hp _ _ _ _), key (gat p t).b _ (cg_lt hp _ _ _ _), key (gat p t).c _ (cg_lt hp _ _ _ _), key (gat p t).d _ (cg_lt hp _ _ _ _)]
  exact mixd_gat h t ht
theorem bk_lt {p : Nat} (hp : 0 < p) (g d n : Nat) (t : S4) : (bk p g d n t).lt p := ⟨sb_lt hp _ _, sb_lt hp _ _, sb_lt hp _ _, sb_lt hp _ _⟩
theorem inv_succ (p g d m : Nat) (s : S4) : inv p g d (m + 1) s = bk p g d (4 * (7 - m)) (inv p g d m s) := rfl
theorem inv_lt {p : Nat} (hp : 0 < p) (g d : Nat) (s : S4) (hs : s.lt p) : ∀ m, (inv p g d m s).lt p
  | 0 => hs
  | m + 1 => bk_lt hp _ _ _ _
theorem inv_prm {p e d : Nat} (h : Ex p e d) (g : Nat) (s : S4) (hs : s.lt p) : ∀ m, m ≤ 8 → inv p g d m (prm p g e 8 s) = prm p g e (8 - m) s := by
  intro m
  induction m with
  | zero => intro _; rfl
  | succ m ih =>
    intro hm
    rw [inv_succ, ih (by omega), show 8 - m = (7 - m) + 1 by omega, prm_succ, bk_rn h _ _ _ (prm_lt h.pos _ _ _ hs _), show 8 - (m + 1) = 7 - m by omega]
theorem prm_inv {p e d : Nat} (h : Ex p e d) (g : Nat) (s : S4) (hs : s.lt p) : ∀ m, m ≤ 8 → prm p g e m (inv p g d 8 s) = inv p g d (8 - m) s := by
  intro m
  induction m with
  | zero => intro _; rfl
  | succ m ih =>
    intro hm
    rw [prm_succ, ih (by omega), show 8 - m = (7 - m) + 1 by omega, inv_succ, show 7 - (7 - m) = m by omega, rn_bk h _ _ _ (inv_lt h.pos _ _ _ hs _), show 8 - (m + 1) = 7 - m by omega]
theorem inv_of_prm {p e d : Nat} (h : Ex p e d) (g : Nat) (s : S4) (hs : s.lt p) : inv p g d 8 (prm p g e 8 s) = s := inv_prm h g s hs 8 (Nat.le_refl _)
theorem prm_of_inv {p e d : Nat} (h : Ex p e d) (g : Nat) (s : S4) (hs : s.lt p) : prm p g e 8 (inv p g d 8 s) = s := prm_inv h g s hs 8 (Nat.le_refl _)

theorem ex_of {f : Int} {p g e : Nat} (D : Fd f p g e) : ∃ d, Ex p e d ∧ ((f = 0 ∧ d = 77) ∨ (f = 1 ∧ d = 171) ∨ (f = 2 ∧ d = 7373) ∨ (f = 3 ∧ d = 665496235)) := by
  have h0 := D.F.lo
  have h1 := D.F.hi
  have h2 := D.F.eq
  have h3 := D.exp
  rcases (show f = 0 ∨ f = 1 ∨ f = 2 ∨ f = 3 by omega) with rfl | rfl | rfl | rfl
  · replace h2 : (97 : Int) = (p : Int) := h2
    replace h3 : (5 : Int) = (e : Int) := h3
    exact ⟨77, Or.inl ⟨by omega, by omega, rfl⟩, Or.inl ⟨rfl, rfl⟩⟩
  · replace h2 : (257 : Int) = (p : Int) := h2
    replace h3 : (3 : Int) = (e : Int) := h3
    exact ⟨171, Or.inr (Or.inl ⟨by omega, by omega, rfl⟩), Or.inr (Or.inl ⟨rfl, rfl⟩)⟩
  · replace h2 : (12289 : Int) = (p : Int) := h2
    replace h3 : (5 : Int) = (e : Int) := h3
    exact ⟨7373, Or.inr (Or.inr (Or.inl ⟨by omega, by omega, rfl⟩)), Or.inr (Or.inr (Or.inl ⟨rfl, rfl⟩))⟩
  · replace h2 : (998244353 : Int) = (p : Int) := h2
    replace h3 : (3 : Int) = (e : Int) := h3
    exact ⟨665496235, Or.inr (Or.inr (Or.inr ⟨by omega, by omega, rfl⟩)), Or.inr (Or.inr (Or.inr ⟨rfl, rfl⟩))⟩
theorem dot4 {f : Int} {p g e : Nat} (D : Fd f p g e) (k m0 m1 m2 m3 t0 t1 t2 t3 : Nat) :
    field_Dot.f (k + 1 + 1 + 1 + 1 + 1) f [(m0 : Int), (m1 : Int), (m2 : Int), (m3 : Int)] [(t0 : Int), (t1 : Int), (t2 : Int), (t3 : Int)] = some (((m0 * t0 + m1 * t1 + m2 * t2 + m3 * t3) % p : Nat) : Int) := by
  have z0 : ∀ b : Nat, field_Add.f f 0 b = some (((0 + b) % p : Nat) : Int) := fun b => add_f D.F 0 b
  unfold field_Dot.f
  rw [show mn (([(m0 : Int), (m1 : Int), (m2 : Int), (m3 : Int)].length : Nat) : Int) (([(t0 : Int), (t1 : Int), (t2 : Int), (t3 : Int)].length : Nat) : Int) = 4 by simp [mn]]
  rw [field_Dot.l0, if_pos (by decide), if_pos (by decide), if_pos (by simp), if_pos (by simp), show rd [(m0 : Int), (m1 : Int), (m2 : Int), (m3 : Int)] 0 = (m0 : Int) from rfl, show rd [(t0 : Int), (t1 : Int), (t2 : Int), (t3 : Int)] 0 = (t0 : Int) from rfl]
  refine bnd (mul_f D.F _ _) (bnd (z0 _) ?_)
  rw [v01, field_Dot.l0, if_pos (by decide), if_pos (by decide), if_pos (by simp), if_pos (by simp), show rd [(m0 : Int), (m1 : Int), (m2 : Int), (m3 : Int)] 1 = (m1 : Int) from rfl, show rd [(t0 : Int), (t1 : Int), (t2 : Int), (t3 : Int)] 1 = (t1 : Int) from rfl]
  refine bnd (mul_f D.F _ _) (bnd (add_f D.F _ _) ?_)
  rw [v12, field_Dot.l0, if_pos (by decide), if_pos (by decide), if_pos (by simp), if_pos (by simp), show rd [(m0 : Int), (m1 : Int), (m2 : Int), (m3 : Int)] 2 = (m2 : Int) from rfl, show rd [(t0 : Int), (t1 : Int), (t2 : Int), (t3 : Int)] 2 = (t2 : Int) from rfl]
  refine bnd (mul_f D.F _ _) (bnd (add_f D.F _ _) ?_)
  rw [v23, field_Dot.l0, if_pos (by decide), if_pos (by decide), if_pos (by simp), if_pos (by simp), show rd [(m0 : Int), (m1 : Int), (m2 : Int), (m3 : Int)] 3 = (m3 : Int) from rfl, show rd [(t0 : Int), (t1 : Int), (t2 : Int), (t3 : Int)] 3 = (t3 : Int) from rfl]
  refine bnd (mul_f D.F _ _) (bnd (add_f D.F _ _) ?_)
  rw [v34, field_Dot.l0, if_neg (by decide)]
  simp only [Nat.zero_add, Nat.mod_mod, Nat.add_mod_mod, Nat.mod_add_mod]
theorem z0_1 : Int.tmod (wrap64 (0 + 1)) 4 = 1 := by decide +kernel
theorem z0_2 : Int.tmod (wrap64 (0 + 2)) 4 = 2 := by decide +kernel
theorem z0_3 : Int.tmod (wrap64 (0 + 3)) 4 = 3 := by decide +kernel
theorem z1_1 : Int.tmod (wrap64 (1 + 1)) 4 = 2 := by decide +kernel
theorem z1_2 : Int.tmod (wrap64 (1 + 2)) 4 = 3 := by decide +kernel
theorem z1_3 : Int.tmod (wrap64 (1 + 3)) 4 = 0 := by decide +kernel
theorem z2_1 : Int.tmod (wrap64 (2 + 1)) 4 = 3 := by decide +kernel
theorem z2_2 : Int.tmod (wrap64 (2 + 2)) 4 = 0 := by decide +kernel
theorem z2_3 : Int.tmod (wrap64 (2 + 3)) 4 = 1 := by decide +kernel
theorem z3_1 : Int.tmod (wrap64 (3 + 1)) 4 = 0 := by decide +kernel
theorem z3_2 : Int.tmod (wrap64 (3 + 2)) 4 = 1 := by decide +kernel
theorem z3_3 : Int.tmod (wrap64 (3 + 3)) 4 = 2 := by decide +kernel
theorem gl_0 (k : Nat) (f : Int) (l : List Int) (x s0 s1 s2 s3 t0 t1 t2 t3 : Int) : sponge_gather.l0 (k + 1) f l x 0 s0 s1 s2 s3 t0 t1 t2 t3 = (field_Dot.f k f l [s0, s1, s2, s3]).bind fun y => (field_Mul.f f y x).bind fun v => sponge_gather.l0 k f l x 1 s0 s1 s2 s3 v t1 t2 t3 := by
  rw [sponge_gather.l0, if_pos (by decide), if_pos (by decide), z0_1, z0_2, z0_3, v01, if_pos (by decide), if_pos (by decide), if_pos (by decide), if_pos (by decide), if_pos (by decide), if_pos (by decide)]
  rfl
theorem il_00 (k : Nat) (n x s0 s1 s2 s3 : Int) : sponge_Inverse.l1 (k + 1) 0 n x 0 s0 s1 s2 s3 = (field_Pow.f k 0 s0 77).bind fun a => (sponge_Constant.f k 0 n 0).bind fun c => (field_Sub.f 0 a c).bind fun v => sponge_Inverse.l1 k 0 n x 1 v s1 s2 s3 := by
  rw [sponge_Inverse.l1, if_pos (by decide), if_pos (by decide), if_pos (by decide), if_pos rfl, v01]
  rfl
theorem il_01 (k : Nat) (n x s0 s1 s2 s3 : Int) : sponge_Inverse.l1 (k + 1) 1 n x 0 s0 s1 s2 s3 = (field_Pow.f k 1 s0 171).bind fun a => (sponge_Constant.f k 1 n 0).bind fun c => (field_Sub.f 1 a c).bind fun v => sponge_Inverse.l1 k 1 n x 1 v s1 s2 s3 := by
  rw [sponge_Inverse.l1, if_pos (by decide), if_pos (by decide), if_pos (by decide), if_neg (by decide), if_pos rfl, v01]
  rfl
theorem il_02 (k : Nat) (n x s0 s1 s2 s3 : Int) : sponge_Inverse.l1 (k + 1) 2 n x 0 s0 s1 s2 s3 = (field_Pow.f k 2 s0 7373).bind fun a => (sponge_Constant.f k 2 n 0).bind fun c => (field_Sub.f 2 a c).bind fun v => sponge_Inverse.l1 k 2 n x 1 v s1 s2 s3 := by
  rw [sponge_Inverse.l1, if_pos (by decide), if_pos (by decide), if_pos (by decide), if_neg (by decide), if_neg (by decide), if_pos rfl, v01]
  rfl
theorem il_03 (k : Nat) (n x s0 s1 s2 s3 : Int) : sponge_Inverse.l1 (k + 1) 3 n x 0 s0 s1 s2 s3 = (field_Pow.f k 3 s0 665496235).bind fun a => (sponge_Constant.f k 3 n 0).bind fun c => (field_Sub.f 3 a c).bind fun v => sponge_Inverse.l1 k 3 n x 1 v s1 s2 s3 := by
  rw [sponge_Inverse.l1, if_pos (by decide), if_pos (by decide), if_pos (by decide), if_neg (by decide), if_neg (by decide), if_neg (by decide), if_pos rfl, v01]
  rfl
theorem gl_1 (k : Nat) (f : Int) (l : List Int) (x s0 s1 s2 s3 t0 t1 t2 t3 : Int) : sponge_gather.l0 (k + 1) f l x 1 s0 s1 s2 s3 t0 t1 t2 t3 = (field_Dot.f k f l [s1, s2, s3, s0]).bind fun y => (field_Mul.f f y x).bind fun v => sponge_gather.l0 k f l x 2 s0 s1 s2 s3 t0 v t2 t3 := by
  rw [sponge_gather.l0, if_pos (by decide), if_pos (by decide), z1_1, z1_2, z1_3, v12, if_pos (by decide), if_pos (by decide), if_pos (by decide), if_pos (by decide), if_pos (by decide), if_pos (by decide)]
  rfl
theorem il_10 (k : Nat) (n x s0 s1 s2 s3 : Int) : sponge_Inverse.l1 (k + 1) 0 n x 1 s0 s1 s2 s3 = (field_Pow.f k 0 s1 77).bind fun a => (sponge_Constant.f k 0 n 1).bind fun c => (field_Sub.f 0 a c).bind fun v => sponge_Inverse.l1 k 0 n x 2 s0 v s2 s3 := by
  rw [sponge_Inverse.l1, if_pos (by decide), if_pos (by decide), if_pos (by decide), if_pos rfl, v12]
  rfl
theorem il_11 (k : Nat) (n x s0 s1 s2 s3 : Int) : sponge_Inverse.l1 (k + 1) 1 n x 1 s0 s1 s2 s3 = (field_Pow.f k 1 s1 171).bind fun a => (sponge_Constant.f k 1 n 1).bind fun c => (field_Sub.f 1 a c).bind fun v => sponge_Inverse.l1 k 1 n x 2 s0 v s2 s3 := by
  rw [sponge_Inverse.l1, if_pos (by decide), if_pos (by decide), if_pos (by decide), if_neg (by decide), if_pos rfl, v12]
  rfl
theorem il_12 (k : Nat) (n x s0 s1 s2 s3 : Int) : sponge_Inverse.l1 (k + 1) 2 n x 1 s0 s1 s2 s3 = (field_Pow.f k 2 s1 7373).bind fun a => (sponge_Constant.f k 2 n 1).bind fun c => (field_Sub.f 2 a c).bind fun v => sponge_Inverse.l1 k 2 n x 2 s0 v s2 s3 := by
  rw [sponge_Inverse.l1, if_pos (by decide), if_pos (by decide), if_pos (by decide), if_neg (by decide), if_neg (by decide), if_pos rfl, v12]
  rfl
theorem il_13 (k : Nat) (n x s0 s1 s2 s3 : Int) : sponge_Inverse.l1 (k + 1) 3 n x 1 s0 s1 s2 s3 = (field_Pow.f k 3 s1 665496235).bind fun a => (sponge_Constant.f k 3 n 1).bind fun c => (field_Sub.f 3 a c).bind fun v => sponge_Inverse.l1 k 3 n x 2 s0 v s2 s3 := by
  rw [sponge_Inverse.l1, if_pos (by decide), if_pos (by decide), if_pos (by decide), if_neg (by decide), if_neg (by decide), if_neg (by decide), if_pos rfl, v12]
  rfl
theorem gl_2 (k : Nat) (f : Int) (l : List Int) (x s0 s1 s2 s3 t0 t1 t2 t3 : Int) : sponge_gather.l0 (k + 1) f l x 2 s0 s1 s2 s3 t0 t1 t2 t3 = (field_Dot.f k f l [s2, s3, s0, s1]).bind fun y => (field_Mul.f f y x).bind fun v => sponge_gather.l0 k f l x 3 s0 s1 s2 s3 t0 t1 v t3 := by
  rw [sponge_gather.l0, if_pos (by decide), if_pos (by decide), z2_1, z2_2, z2_3, v23, if_pos (by decide), if_pos (by decide), if_pos (by decide), if_pos (by decide), if_pos (by decide), if_pos (by decide)]
  rfl
theorem il_20 (k : Nat) (n x s0 s1 s2 s3 : Int) : sponge_Inverse.l1 (k + 1) 0 n x 2 s0 s1 s2 s3 = (field_Pow.f k 0 s2 77).bind fun a => (sponge_Constant.f k 0 n 2).bind fun c => (field_Sub.f 0 a c).bind fun v => sponge_Inverse.l1 k 0 n x 3 s0 s1 v s3 := by
  rw [sponge_Inverse.l1, if_pos (by decide), if_pos (by decide), if_pos (by decide), if_pos rfl, v23]
  rfl
theorem il_21 (k : Nat) (n x s0 s1 s2 s3 : Int) : sponge_Inverse.l1 (k + 1) 1 n x 2 s0 s1 s2 s3 = (field_Pow.f k 1 s2 171).bind fun a => (sponge_Constant.f k 1 n 2).bind fun c => (field_Sub.f 1 a c).bind fun v => sponge_Inverse.l1 k 1 n x 3 s0 s1 v s3 := by
  rw [sponge_Inverse.l1, if_pos (by decide), if_pos (by decide), if_pos (by decide), if_neg (by decide), if_pos rfl, v23]
  rfl
theorem il_22 (k : Nat) (n x s0 s1 s2 s3 : Int) : sponge_Inverse.l1 (k + 1) 2 n x 2 s0 s1 s2 s3 = (field_Pow.f k 2 s2 7373).bind fun a => (sponge_Constant.f k 2 n 2).bind fun c => (field_Sub.f 2 a c).bind fun v => sponge_Inverse.l1 k 2 n x 3 s0 s1 v s3 := by
  rw [sponge_Inverse.l1, if_pos (by decide), if_pos (by decide), if_pos (by decide), if_neg (by decide), if_neg (by decide), if_pos rfl, v23]
  rfl
theorem il_23 (k : Nat) (n x s0 s1 s2 s3 : Int) : sponge_Inverse.l1 (k + 1) 3 n x 2 s0 s1 s2 s3 = (field_Pow.f k 3 s2 665496235).bind fun a => (sponge_Constant.f k 3 n 2).bind fun c => (field_Sub.f 3 a c).bind fun v => sponge_Inverse.l1 k 3 n x 3 s0 s1 v s3 := by
  rw [sponge_Inverse.l1, if_pos (by decide), if_pos (by decide), if_pos (by decide), if_neg (by decide), if_neg (by decide), if_neg (by decide), if_pos rfl, v23]
  rfl
theorem gl_3 (k : Nat) (f : Int) (l : List Int) (x s0 s1 s2 s3 t0 t1 t2 t3 : Int) : sponge_gather.l0 (k + 1) f l x 3 s0 s1 s2 s3 t0 t1 t2 t3 = (field_Dot.f k f l [s3, s0, s1, s2]).bind fun y => (field_Mul.f f y x).bind fun v => sponge_gather.l0 k f l x 4 s0 s1 s2 s3 t0 t1 t2 v := by
  rw [sponge_gather.l0, if_pos (by decide), if_pos (by decide), z3_1, z3_2, z3_3, v34, if_pos (by decide), if_pos (by decide), if_pos (by decide), if_pos (by decide), if_pos (by decide), if_pos (by decide)]
  rfl
theorem il_30 (k : Nat) (n x s0 s1 s2 s3 : Int) : sponge_Inverse.l1 (k + 1) 0 n x 3 s0 s1 s2 s3 = (field_Pow.f k 0 s3 77).bind fun a => (sponge_Constant.f k 0 n 3).bind fun c => (field_Sub.f 0 a c).bind fun v => sponge_Inverse.l1 k 0 n x 4 s0 s1 s2 v := by
  rw [sponge_Inverse.l1, if_pos (by decide), if_pos (by decide), if_pos (by decide), if_pos rfl, v34]
  rfl
theorem il_31 (k : Nat) (n x s0 s1 s2 s3 : Int) : sponge_Inverse.l1 (k + 1) 1 n x 3 s0 s1 s2 s3 = (field_Pow.f k 1 s3 171).bind fun a => (sponge_Constant.f k 1 n 3).bind fun c => (field_Sub.f 1 a c).bind fun v => sponge_Inverse.l1 k 1 n x 4 s0 s1 s2 v := by
  rw [sponge_Inverse.l1, if_pos (by decide), if_pos (by decide), if_pos (by decide), if_neg (by decide), if_pos rfl, v34]
  rfl
theorem il_32 (k : Nat) (n x s0 s1 s2 s3 : Int) : sponge_Inverse.l1 (k + 1) 2 n x 3 s0 s1 s2 s3 = (field_Pow.f k 2 s3 7373).bind fun a => (sponge_Constant.f k 2 n 3).bind fun c => (field_Sub.f 2 a c).bind fun v => sponge_Inverse.l1 k 2 n x 4 s0 s1 s2 v := by
  rw [sponge_Inverse.l1, if_pos (by decide), if_pos (by decide), if_pos (by decide), if_neg (by decide), if_neg (by decide), if_pos rfl, v34]
  rfl
theorem il_33 (k : Nat) (n x s0 s1 s2 s3 : Int) : sponge_Inverse.l1 (k + 1) 3 n x 3 s0 s1 s2 s3 = (field_Pow.f k 3 s3 665496235).bind fun a => (sponge_Constant.f k 3 n 3).bind fun c => (field_Sub.f 3 a c).bind fun v => sponge_Inverse.l1 k 3 n x 4 s0 s1 s2 v := by
  rw [sponge_Inverse.l1, if_pos (by decide), if_pos (by decide), if_pos (by decide), if_neg (by decide), if_neg (by decide), if_neg (by decide), if_pos rfl, v34]
  rfl
theorem gather_f {f : Int} {p g e : Nat} (D : Fd f p g e) (k : Nat) (hk : 1073741824 < k) (t : S4) : sponge_gather.f k f t.a t.b t.c t.d = some (gat p t).o := by
  have p96 := D.p96
  have n4 : field_Neg.f f 4 = some ((p - 4 : Nat) : Int) := by
    have := neg_f D.F 4
    rwa [Nat.mod_eq_of_lt (show 4 < p by omega), Nat.mod_eq_of_lt (show p - 4 < p by omega)] at this
  have n11 : field_Neg.f f 11 = some ((p - 11 : Nat) : Int) := by
    have := neg_f D.F 11
    rwa [Nat.mod_eq_of_lt (show 11 < p by omega), Nat.mod_eq_of_lt (show p - 11 < p by omega)] at this
  have i35 : field_Inv.f k f 35 = some ((iv p 35 : Nat) : Int) := inv_f D.F k 35 hk
  obtain ⟨j, rfl⟩ : ∃ j, k = j + 1 + 1 + 1 + 1 + 1 + 1 + 1 + 1 + 1 + 1 := ⟨k - 10, by omega⟩
  have dt : ∀ j a b c d : Nat, field_Dot.f (j + 1 + 1 + 1 + 1 + 1) f [((p - 4 : Nat) : Int), 3, ((p - 11 : Nat) : Int), 17] [(a : Int), (b : Int), (c : Int), (d : Int)] = some ((((p - 4) * a + 3 * b + (p - 11) * c + 17 * d) % p : Nat) : Int) := fun j a b c d => dot4 D j (p - 4) 3 (p - 11) 17 a b c d
  have mu : ∀ N : Nat, field_Mul.f f ((N % p : Nat) : Int) ((iv p 35 : Nat) : Int) = some ((N * iv p 35 % p : Nat) : Int) := fun N => by
    rw [mul_f D.F, Nat.mul_mod, Nat.mod_mod, ← Nat.mul_mod]
  unfold sponge_gather.f
  refine bnd n4 (bnd n11 (bnd i35 ?_))
  rw [gl_0]
  refine bnd (dt _ _ _ _ _) (bnd (mu _) ?_)
  rw [gl_1]
  refine bnd (dt _ _ _ _ _) (bnd (mu _) ?_)
  rw [gl_2]
  refine bnd (dt _ _ _ _ _) (bnd (mu _) ?_)
  rw [gl_3]
  refine bnd (dt _ _ _ _ _) (bnd (mu _) ?_)
  rw [sponge_gather.l0, if_neg (by decide)]
  rfl
theorem inv_l1 {f : Int} {p g e d : Nat} (D : Fd f p g e) (hf : (f = 0 ∧ d = 77) ∨ (f = 1 ∧ d = 171) ∨ (f = 2 ∧ d = 7373) ∨ (f = 3 ∧ d = 665496235)) (k n : Nat) (x : Int) (hk : 66 < k) (hn : n < 8) (y : S4) :
    sponge_Inverse.l1 (k + 1 + 1 + 1 + 1 + 1) f n x 0 y.a y.b y.c y.d = sponge_Inverse.l0 k f (wrap64 (x + 1)) (dn p g d (4 * n) y).a (dn p g d (4 * n) y).b (dn p g d (4 * n) y).c (dn p g d (4 * n) y).d := by
  have C0 : ∀ k, 65 < k → sponge_Constant.f k f n 0 = some ((cst p g (4 * n + 1) : Nat) : Int) := fun k hk => const_yes D k n 0 hk hn (by omega)
  have C1 : ∀ k, 65 < k → sponge_Constant.f k f n 1 = some ((cst p g (4 * n + 2) : Nat) : Int) := fun k hk => const_yes D k n 1 hk hn (by omega)
  have C2 : ∀ k, 65 < k → sponge_Constant.f k f n 2 = some ((cst p g (4 * n + 3) : Nat) : Int) := fun k hk => const_yes D k n 2 hk hn (by omega)
  have C3 : ∀ k, 65 < k → sponge_Constant.f k f n 3 = some ((cst p g (4 * n + 4) : Nat) : Int) := fun k hk => const_yes D k n 3 hk hn (by omega)
  have hd : d < 18446744073709551616 := by omega
  obtain ⟨q, hq⟩ : ∃ q : Nat → Nat, ∀ a, q a = a ^ d % p := ⟨fun a => a ^ d % p, fun _ => rfl⟩
  have hdn : dn p g d (4 * n) y = ⟨sb p (q y.a) (cst p g (4 * n + 1)), sb p (q y.b) (cst p g (4 * n + 2)), sb p (q y.c) (cst p g (4 * n + 3)), sb p (q y.d) (cst p g (4 * n + 4))⟩ := by simp only [dn, hq]
  have P : ∀ (k a : Nat), 64 < k → field_Pow.f k f a d = some ((q a : Nat) : Int) := fun k a hk => by rw [hq]; exact pow_f D.F k a d hk hd
  rw [hdn]
  clear hdn hq
  rcases hf with ⟨rfl, rfl⟩ | ⟨rfl, rfl⟩ | ⟨rfl, rfl⟩ | ⟨rfl, rfl⟩
  · rw [il_00]
    refine bnd (P _ _ (by omega)) (bnd (C0 _ (by omega)) (bnd (sub_f D.F _ _) ?_))
    rw [il_10]
    refine bnd (P _ _ (by omega)) (bnd (C1 _ (by omega)) (bnd (sub_f D.F _ _) ?_))
    rw [il_20]
    refine bnd (P _ _ (by omega)) (bnd (C2 _ (by omega)) (bnd (sub_f D.F _ _) ?_))
    rw [il_30]
    refine bnd (P _ _ (by omega)) (bnd (C3 _ (by omega)) (bnd (sub_f D.F _ _) ?_))
    rw [sponge_Inverse.l1, if_neg (by decide)]
  · rw [il_01]
    refine bnd (P _ _ (by omega)) (bnd (C0 _ (by omega)) (bnd (sub_f D.F _ _) ?_))
    rw [il_11]
    refine bnd (P _ _ (by omega)) (bnd (C1 _ (by omega)) (bnd (sub_f D.F _ _) ?_))
    rw [il_21]
    refine bnd (P _ _ (by omega)) (bnd (C2 _ (by omega)) (bnd (sub_f D.F _ _) ?_))
    rw [il_31]
    refine bnd (P _ _ (by omega)) (bnd (C3 _ (by omega)) (bnd (sub_f D.F _ _) ?_))
    rw [sponge_Inverse.l1, if_neg (by decide)]
  · rw [il_02]
    refine bnd (P _ _ (by omega)) (bnd (C0 _ (by omega)) (bnd (sub_f D.F _ _) ?_))
    rw [il_12]
    refine bnd (P _ _ (by omega)) (bnd (C1 _ (by omega)) (bnd (sub_f D.F _ _) ?_))
    rw [il_22]
    refine bnd (P _ _ (by omega)) (bnd (C2 _ (by omega)) (bnd (sub_f D.F _ _) ?_))
    rw [il_32]
    refine bnd (P _ _ (by omega)) (bnd (C3 _ (by omega)) (bnd (sub_f D.F _ _) ?_))
    rw [sponge_Inverse.l1, if_neg (by decide)]
  · rw [il_03]
    refine bnd (P _ _ (by omega)) (bnd (C0 _ (by omega)) (bnd (sub_f D.F _ _) ?_))
    rw [il_13]
    refine bnd (P _ _ (by omega)) (bnd (C1 _ (by omega)) (bnd (sub_f D.F _ _) ?_))
    rw [il_23]
    refine bnd (P _ _ (by omega)) (bnd (C2 _ (by omega)) (bnd (sub_f D.F _ _) ?_))
    rw [il_33]
    refine bnd (P _ _ (by omega)) (bnd (C3 _ (by omega)) (bnd (sub_f D.F _ _) ?_))
    rw [sponge_Inverse.l1, if_neg (by decide)]
theorem inv_l0 {f : Int} {p g e d : Nat} (D : Fd f p g e) (hf : (f = 0 ∧ d = 77) ∨ (f = 1 ∧ d = 171) ∨ (f = 2 ∧ d = 7373) ∨ (f = 3 ∧ d = 665496235)) (s : S4) : ∀ (m j k : Nat), j + m = 8 → 1073741830 < k →
    sponge_Inverse.l0 (k + 6 * m + 1) f j (inv p g d j s).a (inv p g d j s).b (inv p g d j s).c (inv p g d j s).d = some (inv p g d 8 s).o := by
  intro m
  induction m with
  | zero =>
    intro j k hj hk
    obtain rfl : j = 8 := by omega
    rw [sponge_Inverse.l0, if_neg (by omega)]
    rfl
  | succ m ih =>
    intro j k hj hk
    rw [sponge_Inverse.l0, if_pos (by omega)]
    refine bnd (gather_f D _ (by omega) _) ?_
    simp only [S4.o]
    rw [wrapS (x := 7 - (j : Int)) (by omega) (by omega), show (7 - (j : Int)) = ((7 - j : Nat) : Int) by omega, show k + 6 * (m + 1) = (k + 6 * m + 1) + 1 + 1 + 1 + 1 + 1 by omega, inv_l1 D hf _ _ _ (by omega) (by omega), wrapS (x := (j : Int) + 1) (by omega) (by omega), show ((j : Int) + 1) = ((j + 1 : Nat) : Int) from rfl]
    exact ih (j + 1) k (by omega) hk
theorem Inverse_f {f : Int} {p g e d : Nat} (D : Fd f p g e) (hf : (f = 0 ∧ d = 77) ∨ (f = 1 ∧ d = 171) ∨ (f = 2 ∧ d = 7373) ∨ (f = 3 ∧ d = 665496235)) (s : S4) (k : Nat) (hk : 1073741900 < k) : sponge_Inverse.f k f s.a s.b s.c s.d = some (inv p g d 8 s).o := by
  obtain ⟨j, rfl⟩ : ∃ j, k = j + 6 * 8 + 1 := ⟨k - 49, by omega⟩
  unfold sponge_Inverse.f
  refine bnd (valid_yes D.F) ?_
  rw [if_pos rfl]
  exact inv_l0 D hf s 8 0 j rfl (by omega)
theorem cg_red {p e d : Nat} (h : Ex p e d) (a b c x : Nat) : cg p (a % p) (b % p) (c % p) (x % p) = cg p a b c x := by
  unfold cg
  have : ((p - 4) * (a % p) + 3 * (b % p) + (p - 11) * (c % p) + 17 * (x % p)) % p = ((p - 4) * a + 3 * b + (p - 11) * c + 17 * x) % p := by
    rcases h with ⟨rfl, _⟩ | ⟨rfl, _⟩ | ⟨rfl, _⟩ | ⟨rfl, _⟩ <;> omega
  rw [Nat.mul_mod, this, ← Nat.mul_mod]
theorem inv_red {p e d : Nat} (h : Ex p e d) (g : Nat) (s : S4) : ∀ m, inv p g d (m + 1) (red p s) = inv p g d (m + 1) s
  | 0 => by simp only [inv, bk, gat, red, cg_red h]
  | m + 1 => by rw [inv_succ, inv_red h g s m, ← inv_succ]
end Go.Proofs.YtjfekjblnoagkaaDoor.Q
end
