/- Several texts in one, in build order. What they prove, each by its own first remark:
Written by our own copy of a printing program (a twelfth state) out of the translation. Not trusted: Lean checks it.
tree.climb by hand (tree.climber hands back a closure that keeps its place and its digest): what it computes, and its contract.
tree.height by hand (with math/bits.TrailingZeros of a power of two): what it computes, and its contract.
The contract of an instance of slices.Clone: what it hands back reads as what came in, and is memory of its own.
A range over a function whose iterator hands out rows that lie in memory: the law of the loop, for a loop whose body only goes on (own statement and proof, over the kit's laws of one round). -/
import Derived.Test.YtpnpmeogffodgaaDoorM2
import Derived.WalkSpells
import Derived.RangeFuncWrites
import Derived.RangeFuncCalls
import Derived.RangeFuncLeaves
section
namespace Go.Proofs.YtpnpmeogffodgaaDoor.Q
open Go.RowKit Go.Proofs.YtpnpmeogffodgaaDoorW.PrintWords Go.Proofs.YtpnpmeogffodgaaDoorW.PrintLast Go.Proofs.YtpnpmeogffodgaaDoorW.PrintMore
attribute [local go_sem] max2_int min2_int max_two min_two max_three min_three max_four min_four run_store_fnV run_store_fnc run_store_nfn   -- for this text's walks alone
set_option linter.unusedVariables false
set_option linter.unusedSimpArgs false

/-! ### sponge_mixer_perm: function 56 -/
def sponge_mixer_perm.l0 : Nat → Int → Int → Int → Int → Bool → Int → Int → Int → Int → Option (Int × Int × Int × Int)
  | 0, _, _, _, _, _, _, _, _, _ => none
  | k + 1, x5, x6, x126000, x126001, x126002, x127000, x127001, x127002, x127003 => if x6 < 8 then ((sponge_mixer_round.f k x126000 x126001 x126002 x5 x127000 x127001 x127002 x127003).bind fun bt128 => (sponge_mixer_perm.l0 k bt128.1 (wrap64 (x6 + 1)) x126000 x126001 x126002 bt128.2.1 bt128.2.2.1 bt128.2.2.2.1 bt128.2.2.2.2)) else (some (x127000, x127001, x127002, x127003))
def sponge_mixer_perm.f (k : Nat) (a0_0 : Int) (a0_1 : Int) (a0_2 : Bool) (a1_0 : Int) (a1_1 : Int) (a1_2 : Int) (a1_3 : Int) : Option (Int × Int × Int × Int) := sponge_mixer_perm.l0 k 1 0 a0_0 a0_1 a0_2 a1_0 a1_1 a1_2 a1_3
theorem sponge_mixer_perm.mono_l : ∀ k, (∀ y0 y1 y2 y3 y4 y5 y6 y7 y8, LeO (sponge_mixer_perm.l0 k y0 y1 y2 y3 y4 y5 y6 y7 y8) (sponge_mixer_perm.l0 (k + 1) y0 y1 y2 y3 y4 y5 y6 y7 y8))
  | 0 => fun _ _ _ _ _ _ _ _ _ r h => by simp [sponge_mixer_perm.l0] at h
  | k + 1 => by
    have ih0 := sponge_mixer_perm.mono_l k
    · intro y0 y1 y2 y3 y4 y5 y6 y7 y8
      unfold sponge_mixer_perm.l0
      repeat' first
      | (with_reducible exact ih0 _ _ _ _ _ _ _ _ _)
      | (with_reducible exact sponge_mixer_round.mono _ _ _ _ _ _ _ _ _)
      | (with_reducible exact LeO.refl _)
      | (with_reducible exact LeO.none _)
      | (with_reducible refine LeO.ite ?_ ?_)
      | (with_reducible refine LeO.bind ?_ (fun _ => ?_))
      | exact ih0 _ _ _ _ _ _ _ _ _
      | exact sponge_mixer_round.mono _ _ _ _ _ _ _ _ _
      | exact LeO.none _
      | refine LeO.ite ?_ ?_
      | refine LeO.bind ?_ (fun _ => ?_)
theorem sponge_mixer_perm.mono : ∀ a0 a1 a2 a3 a4 a5 a6 k, LeO (sponge_mixer_perm.f k a0 a1 a2 a3 a4 a5 a6) (sponge_mixer_perm.f (k + 1) a0 a1 a2 a3 a4 a5 a6) := by
  intro a0 a1 a2 a3 a4 a5 a6 k
  have ih0 := sponge_mixer_perm.mono_l k
  unfold sponge_mixer_perm.f
  repeat' first
      | (with_reducible exact ih0 _ _ _ _ _ _ _ _ _)
      | (with_reducible exact sponge_mixer_round.mono _ _ _ _ _ _ _ _ _)
      | (with_reducible exact LeO.refl _)
      | (with_reducible exact LeO.none _)
      | (with_reducible refine LeO.ite ?_ ?_)
      | (with_reducible refine LeO.bind ?_ (fun _ => ?_))
      | exact ih0 _ _ _ _ _ _ _ _ _
      | exact sponge_mixer_round.mono _ _ _ _ _ _ _ _ _
      | exact LeO.none _
      | refine LeO.ite ?_ ?_
      | refine LeO.bind ?_ (fun _ => ?_)
set_option maxHeartbeats 8000000 in
set_option maxRecDepth 100000 in
theorem sponge_mixer_perm.calls (k : Nat) (a0_0 : Int) (a0_1 : Int) (a0_2 : Bool) (a1_0 : Int) (a1_1 : Int) (a1_2 : Int) (a1_3 : Int) (r1 : Int) (r2 : Int) (r3 : Int) (r4 : Int) (w : World) (h : sponge_mixer_perm.f k a0_0 a0_1 a0_2 a1_0 a1_1 a1_2 a1_3 = some (r1, r2, r3, r4)) :
  Calls Tryd.prog 56 #[.agg #[.int .u64 a0_0, .int .u64 a0_1, .bool a0_2], .agg #[.int .u64 a1_0, .int .u64 a1_1, .int .u64 a1_2, .int .u64 a1_3]] w fun e w' => e = .returned (.agg #[.int .u64 r1, .int .u64 r2, .int .u64 r3, .int .u64 r4]) ∧ Below w.heap.size w w' := by
 have hu78 := Tryd.underlying78
 have hu80 := Tryd.underlying80
 have HB := Aside0.mk (Below.refl w.heap.size w)
 have H : (sponge_mixer_perm.l0 k 1 0 a0_0 a0_1 a0_2 a1_0 a1_1 a1_2 a1_3) = some (r1, r2, r3, r4) := h
 clear h
 have H' := Aside0.mk H
 clear H
 go_enter Tryd.func56, Tryd.ntmps56
 go_wp2_with (first | ((with_reducible refine gate_dst (N := 2) rfl ?_); refine box_event ?hg (N := 2) ?hd (cs := #[.int .u64 a0_0, .int .u64 a0_1, .bool a0_2]) (t := 78) ?hr ?_; (case hd => rfl); (case hg => rfl); (case hr => first | (go_simp; done) | (go_simp; rfl)); intro g125 hg w3 hbox hb; have n0_ := Aside0.mk (below_step (by repeat (first | (with_reducible first | exact HB.out | apply below_alloc | apply pw_below_drewN | apply below_drew1) | exact HB.out)) hb); have n1_ := Aside0.mk (hbox); have n2_ := Aside0.mk ((by rw [hg]; exact (below_size (by repeat (first | (with_reducible first | exact HB.out | apply below_alloc | apply pw_below_drewN | apply below_drew1) | exact HB.out))) : w.heap.size ≤ g125)); have n3_ := Aside0.mk ((by rw [hg]; exact (below_size (by repeat (first | (with_reducible first | exact HB.out | apply below_alloc | apply pw_below_drewN | apply below_drew1) | exact HB.out))) : w.heap.size ≤ g125)); clear HB; have HB := n0_; have B125 := n1_; have GW125 := n2_; have GE125 := n3_; clear n0_ n1_ n2_ n3_; clear hb hbox hg) | ((with_reducible refine gate_dst (N := 3) rfl ?_); refine box_event ?hg (N := 3) ?hd (cs := #[.int .u64 a1_0, .int .u64 a1_1, .int .u64 a1_2, .int .u64 a1_3]) (t := 80) ?hr ?_; (case hd => rfl); (case hg => rfl); (case hr => first | (go_simp; done) | (go_simp; rfl)); intro g126 hg w4 hbox hb; have n0_ := Aside0.mk (blk_below (g := g125) (o := .cells #[.int .u64 a0_0, .int .u64 a0_1, .bool a0_2] 78 (0, 0)) (by exact B125.out) hb); have n1_ := Aside0.mk (below_step (by repeat (first | (with_reducible first | exact HB.out | apply below_alloc | apply pw_below_drewN | apply below_drew1 | refine below_set ?_ GE125.out) | exact HB.out)) hb); have n2_ := Aside0.mk (hbox); have n3_ := Aside0.mk ((by rw [hg]; exact (below_size (by repeat (first | (with_reducible first | exact HB.out | apply below_alloc | apply pw_below_drewN | apply below_drew1 | refine below_set ?_ GE125.out) | exact HB.out))) : w.heap.size ≤ g126)); have n4_ := Aside0.mk ((by rw [hg]; exact (below_size (by repeat (first | (with_reducible first | exact HB.out | apply below_alloc | apply pw_below_drewN | apply below_drew1 | refine below_set ?_ GE125.out) | exact HB.out))) : w.heap.size ≤ g126)); have n5_ := Aside0.mk ((by rw [hg]; exact Nat.ne_of_lt (blk_lt (g := g125) (o := .cells #[.int .u64 a0_0, .int .u64 a0_1, .bool a0_2] 78 (0, 0)) (by exact B125.out)) : g125 ≠ g126)); have n6_ := Aside0.mk ((by rw [hg]; exact Nat.ne_of_gt (blk_lt (g := g125) (o := .cells #[.int .u64 a0_0, .int .u64 a0_1, .bool a0_2] 78 (0, 0)) (by exact B125.out)) : g126 ≠ g125)); clear B125; clear HB; have B125 := n0_; have HB := n1_; have B126 := n2_; have GW126 := n3_; have GE126 := n4_; have NB125_126 := n5_; have NB126_125 := n6_; clear n0_ n1_ n2_ n3_ n4_ n5_ n6_; clear hb hbox hg) | ((with_reducible refine gate_dst (N := 4) rfl ?_); refine box_event ?hg (N := 4) ?hd (cs := #[.int .u64 0, .int .u64 0, .int .u64 0, .int .u64 0]) (t := 80) ?hr ?_; (case hd => rfl); (case hg => rfl); (case hr => first | (go_simp; done) | (go_simp; rfl)); intro g127 hg w5 hbox hb; have n0_ := Aside0.mk (blk_below (g := g125) (o := .cells #[.int .u64 a0_0, .int .u64 a0_1, .bool a0_2] 78 (0, 0)) (by exact B125.out) hb); have n1_ := Aside0.mk (blk_below (g := g126) (o := .cells #[.int .u64 a1_0, .int .u64 a1_1, .int .u64 a1_2, .int .u64 a1_3] 80 (0, 0)) (by exact B126.out) hb); have n2_ := Aside0.mk (below_step (by repeat (first | (with_reducible first | exact HB.out | apply below_alloc | apply pw_below_drewN | apply below_drew1 | refine below_set ?_ GE125.out | refine below_set ?_ GE126.out) | exact HB.out)) hb); have n3_ := Aside0.mk (hbox); have n4_ := Aside0.mk ((by rw [hg]; exact (below_size (by repeat (first | (with_reducible first | exact HB.out | apply below_alloc | apply pw_below_drewN | apply below_drew1 | refine below_set ?_ GE125.out | refine below_set ?_ GE126.out) | exact HB.out))) : w.heap.size ≤ g127)); have n5_ := Aside0.mk ((by rw [hg]; exact (below_size (by repeat (first | (with_reducible first | exact HB.out | apply below_alloc | apply pw_below_drewN | apply below_drew1 | refine below_set ?_ GE125.out | refine below_set ?_ GE126.out) | exact HB.out))) : w.heap.size ≤ g127)); have n6_ := Aside0.mk ((by rw [hg]; exact Nat.ne_of_lt (blk_lt (g := g125) (o := .cells #[.int .u64 a0_0, .int .u64 a0_1, .bool a0_2] 78 (0, 0)) (by exact B125.out)) : g125 ≠ g127)); have n7_ := Aside0.mk ((by rw [hg]; exact Nat.ne_of_gt (blk_lt (g := g125) (o := .cells #[.int .u64 a0_0, .int .u64 a0_1, .bool a0_2] 78 (0, 0)) (by exact B125.out)) : g127 ≠ g125)); have n8_ := Aside0.mk ((by rw [hg]; exact Nat.ne_of_lt (blk_lt (g := g126) (o := .cells #[.int .u64 a1_0, .int .u64 a1_1, .int .u64 a1_2, .int .u64 a1_3] 80 (0, 0)) (by exact B126.out)) : g126 ≠ g127)); have n9_ := Aside0.mk ((by rw [hg]; exact Nat.ne_of_gt (blk_lt (g := g126) (o := .cells #[.int .u64 a1_0, .int .u64 a1_1, .int .u64 a1_2, .int .u64 a1_3] 80 (0, 0)) (by exact B126.out)) : g127 ≠ g126)); clear B125; clear B126; clear HB; have B125 := n0_; have B126 := n1_; have HB := n2_; have B127 := n3_; have GW127 := n4_; have GE127 := n5_; have NB125_127 := n6_; have NB127_125 := n7_; have NB126_127 := n8_; have NB127_126 := n9_; clear n0_ n1_ n2_ n3_ n4_ n5_ n6_ n7_ n8_ n9_; clear hb hbox hg))
 go_loopg [5, 6] k (fun kq v5 v6 w' => ∃ (x5_1 : Int) (x6_1 : Int) (x127000_1 : Int) (x127001_1 : Int) (x127002_1 : Int) (x127003_1 : Int), v5 = .int .u64 x5_1 ∧ v6 = .int .i64 x6_1 ∧ Aside0 (sponge_mixer_perm.l0 kq x5_1 x6_1 a0_0 a0_1 a0_2 x127000_1 x127001_1 x127002_1 x127003_1 = some (r1, r2, r3, r4)) ∧ Aside0 (kq ≤ k) ∧ Aside0 (w'.heap[g125]? = some (.cells #[.int .u64 a0_0, .int .u64 a0_1, .bool a0_2] 78 (0, 0))) ∧ Aside0 (w'.heap[g126]? = some (.cells #[.int .u64 x127000_1, .int .u64 x127001_1, .int .u64 x127002_1, .int .u64 x127003_1] 80 (0, 0))) ∧ Aside0 (w'.heap[g127]? = some (.cells #[.int .u64 0, .int .u64 0, .int .u64 0, .int .u64 0] 80 (0, 0))) ∧ Aside0 (Below w.heap.size w w'))
 case atStart => exact ⟨(1), (0), (a1_0), (a1_1), (a1_2), (a1_3), (by first | rfl | (simp; done) | (simp [*]; done) | (simp; rfl) | (simp; decide +kernel)), (by first | rfl | (simp; done) | (simp [*]; done) | (simp; rfl) | (simp; decide +kernel)), H', ⟨Nat.le_refl _⟩, ⟨by exact B125.out⟩, ⟨by exact B126.out⟩, ⟨by exact B127.out⟩, ⟨by repeat (first | (with_reducible first | exact HB.out | apply below_alloc | apply pw_below_drewN | apply below_drew1 | refine below_set ?_ GE125.out | refine below_set ?_ GE126.out | refine below_set ?_ GE127.out) | exact HB.out)⟩⟩
 case round =>
  clear H'
  try clear p2
  try clear c5
  obtain ⟨x5_1, x6_1, x127000_1, x127001_1, x127002_1, x127003_1, rfl, rfl, HA, HK1, B125, B126, B127, HB⟩ := hrel
  cases gk with
  | zero => exact absurd HA.out (by simp [sponge_mixer_perm.l0])
  | succ k1 =>
   have H := HA.out
   clear HA
   simp only [sponge_mixer_perm.l0] at H
   by_cases c6 : x6_1 < 8
   ·rw [if_pos c6] at H
    have c6b0 : decide (x6_1 < 8) = true := decide_eq_true c6
    clear c6
    replace H := Option.bind_eq_some_iff.mp H
    obtain ⟨⟨t128, t129, t130, t131, t132⟩, A70, H⟩ := H
    replace H : (sponge_mixer_perm.l0 k1 t128 (wrap64 (x6_1 + 1)) a0_0 a0_1 a0_2 t129 t130 t131 t132) = some (r1, r2, r3, r4) := H
    have A7 := Aside0.mk A70
    clear A70
    have H' := Aside0.mk H
    clear H
    have hnb8 := NB125_126.out
    have hnc8 := NB126_125.out
    have hnb9 := NB125_127.out
    have hnc9 := NB127_125.out
    have hcz10_0 : wr.cell? ⟨g125, 0, none⟩ = some (.int .u64 a0_0) := bq_ B125 0
    have hcz10_1 : wr.cell? ⟨g125, 1, none⟩ = some (.int .u64 a0_1) := bq_ B125 1
    have hcz10_2 : wr.cell? ⟨g125, 2, none⟩ = some (.bool a0_2) := bq_ B125 2
    have hfz10_0 := blk_frozen B125.out 0
    have hfz10_1 := blk_frozen B125.out 1
    have hfz10_2 := blk_frozen B125.out 2
    have hnb11 := NB126_127.out
    have hnc11 := NB127_126.out
    have hcz12_0 : wr.cell? ⟨g126, 0, none⟩ = some (.int .u64 x127000_1) := bq_ B126 0
    have hcz12_1 : wr.cell? ⟨g126, 1, none⟩ = some (.int .u64 x127001_1) := bq_ B126 1
    have hcz12_2 : wr.cell? ⟨g126, 2, none⟩ = some (.int .u64 x127002_1) := bq_ B126 2
    have hcz12_3 : wr.cell? ⟨g126, 3, none⟩ = some (.int .u64 x127003_1) := bq_ B126 3
    have hfz12_0 := blk_frozen B126.out 0
    have hfz12_1 := blk_frozen B126.out 1
    have hfz12_2 := blk_frozen B126.out 2
    have hfz12_3 := blk_frozen B126.out 3
    go_wp2_with (first | ((with_reducible refine gate_callee (f := 67) rfl ?_); refine goesL_ (some 12) rfl rfl Tryd.func67 (by kernel_rfl) rfl #[.agg #[.int .u64 a0_0, .int .u64 a0_1, .bool a0_2], .int .u64 x5_1, .agg #[.int .u64 x127000_1, .int .u64 x127001_1, .int .u64 x127002_1, .int .u64 x127003_1]] rfl (by (try simp only [List.map_toArray, List.map_cons, List.map_nil]); first | done | rfl | (go_simp; done)) ?_; (with_reducible refine (sponge_mixer_round.calls k1 a0_0 a0_1 a0_2 x5_1 x127000_1 x127001_1 x127002_1 x127003_1 t128 t129 t130 t131 t132 _ A7.out).mono ?_); rintro e w13 ⟨rfl, hb⟩; refine ⟨_, rfl, ?_⟩; have n0_ := Aside0.mk (blk_below (g := g125) (o := .cells #[.int .u64 a0_0, .int .u64 a0_1, .bool a0_2] 78 (0, 0)) (by exact B125.out) hb); have n1_ := Aside0.mk (blk_below (g := g126) (o := .cells #[.int .u64 x127000_1, .int .u64 x127001_1, .int .u64 x127002_1, .int .u64 x127003_1] 80 (0, 0)) (by exact B126.out) hb); have n2_ := Aside0.mk (blk_below (g := g127) (o := .cells #[.int .u64 0, .int .u64 0, .int .u64 0, .int .u64 0] 80 (0, 0)) (by exact B127.out) hb); have n3_ := Aside0.mk (below_step (by repeat (first | (with_reducible first | exact HB.out | apply below_alloc | apply pw_below_drewN | apply below_drew1 | refine below_set ?_ GE125.out | refine below_set ?_ GE126.out | refine below_set ?_ GE127.out) | exact HB.out)) hb); clear B125; clear B126; clear B127; clear HB; have B125 := n0_; have B126 := n1_; have B127 := n2_; have HB := n3_; clear n0_ n1_ n2_ n3_; (try clear hb); (try clear hb2); (try clear hk); (try clear hi); have hcz14_0 : w13.cell? ⟨g126, 0, none⟩ = some (.int .u64 x127000_1) := bq_ B126 0; have hcz14_1 : w13.cell? ⟨g126, 1, none⟩ = some (.int .u64 x127001_1) := bq_ B126 1; have hcz14_2 : w13.cell? ⟨g126, 2, none⟩ = some (.int .u64 x127002_1) := bq_ B126 2; have hcz14_3 : w13.cell? ⟨g126, 3, none⟩ = some (.int .u64 x127003_1) := bq_ B126 3; have hfz14_0 := blk_frozen B126.out 0; have hfz14_1 := blk_frozen B126.out 1; have hfz14_2 := blk_frozen B126.out 2; have hfz14_3 := blk_frozen B126.out 3))
    go_roundg k1
    case measure => have := HK1.out; omega
    case rel => exact ⟨(t128), (wrap64 (x6_1 + 1)), (t129), (t130), (t131), (t132), (by first | rfl | (simp; done) | (simp [*]; done) | (simp; rfl) | (simp; decide +kernel)), (by first | rfl | (simp; done) | (simp [*]; done) | (simp; rfl) | (simp; decide +kernel)), H', ⟨by have := HK1.out; omega⟩, ⟨by refine blk_far ?_ NB125_126.out _; refine blk_far ?_ NB125_126.out _; refine blk_far ?_ NB125_126.out _; refine blk_far ?_ NB125_126.out _; exact B125.out⟩, ⟨by refine blk_put (cs := #[.int .u64 t129, .int .u64 t130, .int .u64 t131, .int .u64 x127003_1]) ?_ 3 _ rfl; refine blk_put (cs := #[.int .u64 t129, .int .u64 t130, .int .u64 x127002_1, .int .u64 x127003_1]) ?_ 2 _ rfl; refine blk_put (cs := #[.int .u64 t129, .int .u64 x127001_1, .int .u64 x127002_1, .int .u64 x127003_1]) ?_ 1 _ rfl; refine blk_put (cs := #[.int .u64 x127000_1, .int .u64 x127001_1, .int .u64 x127002_1, .int .u64 x127003_1]) ?_ 0 _ rfl; exact B126.out⟩, ⟨by refine blk_far ?_ NB127_126.out _; refine blk_far ?_ NB127_126.out _; refine blk_far ?_ NB127_126.out _; refine blk_far ?_ NB127_126.out _; exact B127.out⟩, ⟨by repeat (first | (with_reducible first | exact HB.out | apply below_alloc | apply pw_below_drewN | apply below_drew1 | refine below_set ?_ GE125.out | refine below_set ?_ GE126.out | refine below_set ?_ GE127.out) | exact HB.out)⟩⟩
   ·rw [if_neg c6] at H
    have c6b0 : decide (x6_1 < 8) = false := decide_eq_false c6
    clear c6
    simp only [Option.some.injEq, Prod.mk.injEq] at H
    obtain ⟨rfl, rfl, rfl, rfl⟩ := H
    have hnb15 := NB126_125.out
    have hnc15 := NB125_126.out
    have hnb16 := NB126_127.out
    have hnc16 := NB127_126.out
    have hcz17_0 : wr.cell? ⟨g126, 0, none⟩ = some (.int .u64 x127000_1) := bq_ B126 0
    have hcz17_1 : wr.cell? ⟨g126, 1, none⟩ = some (.int .u64 x127001_1) := bq_ B126 1
    have hcz17_2 : wr.cell? ⟨g126, 2, none⟩ = some (.int .u64 x127002_1) := bq_ B126 2
    have hcz17_3 : wr.cell? ⟨g126, 3, none⟩ = some (.int .u64 x127003_1) := bq_ B126 3
    have hfz17_0 := blk_frozen B126.out 0
    have hfz17_1 := blk_frozen B126.out 1
    have hfz17_2 := blk_frozen B126.out 2
    have hfz17_3 := blk_frozen B126.out 3
    have hnb18 := NB127_125.out
    have hnc18 := NB125_127.out
    have hcz19_0 : wr.cell? ⟨g127, 0, none⟩ = some (.int .u64 0) := bq_ B127 0
    have hcz19_1 : wr.cell? ⟨g127, 1, none⟩ = some (.int .u64 0) := bq_ B127 1
    have hcz19_2 : wr.cell? ⟨g127, 2, none⟩ = some (.int .u64 0) := bq_ B127 2
    have hcz19_3 : wr.cell? ⟨g127, 3, none⟩ = some (.int .u64 0) := bq_ B127 3
    have hfz19_0 := blk_frozen B127.out 0
    have hfz19_1 := blk_frozen B127.out 1
    have hfz19_2 := blk_frozen B127.out 2
    have hfz19_3 := blk_frozen B127.out 3
    go_wp2
    refine bodyPost_ret (results_cell_row rfl _ _ g127 80 #[.int .u64 x127000_1, .int .u64 x127001_1, .int .u64 x127002_1, .int .u64 x127003_1] (0, 0) _ rfl (by refine blk_put (cs := #[.int .u64 x127000_1, .int .u64 x127001_1, .int .u64 x127002_1, .int .u64 0]) ?_ 3 _ rfl; refine blk_put (cs := #[.int .u64 x127000_1, .int .u64 x127001_1, .int .u64 0, .int .u64 0]) ?_ 2 _ rfl; refine blk_put (cs := #[.int .u64 x127000_1, .int .u64 0, .int .u64 0, .int .u64 0]) ?_ 1 _ rfl; refine blk_put (cs := #[.int .u64 0, .int .u64 0, .int .u64 0, .int .u64 0]) ?_ 0 _ rfl; exact B127.out) Tryd.underlying80 rfl (by kernel_rfl)) rfl ?_
    exact ⟨by first | rfl | (simp [errW_none, errW_some] <;> rfl) | (simp [*, errW_none, errW_some] <;> rfl), by repeat (first | (with_reducible first | exact HB.out | apply below_alloc | apply pw_below_drewN | apply below_drew1 | refine below_set ?_ GE125.out | refine below_set ?_ GE126.out | refine below_set ?_ GE127.out) | exact HB.out)⟩

end Go.Proofs.YtpnpmeogffodgaaDoor.Q
end
section
namespace Go.Proofs.YtpnpmeogffodgaaDoor.Q
open Go.RowKit Go.Proofs.YtpnpmeogffodgaaDoorW.PrintWords Go.Proofs.YtpnpmeogffodgaaDoorW.PrintLast Go.Proofs.YtpnpmeogffodgaaDoorW.PrintMore
attribute [local go_sem] max2_int min2_int max_two min_two max_three min_three max_four min_four run_store_fnV run_store_fnc run_store_nfn   -- for this text's walks alone
set_option linter.unusedVariables false
set_option linter.unusedSimpArgs false

abbrev z36_0_ : Array Bool := #[false, false, false, false, false, false, false, false, false, false, false, false, false, false, false, false, false, false]
abbrev z36_1_ : Array Bool := #[true, false, false, false, false, false, false, false, false, false, false, false, false, false, false, false, false, false]
abbrev z36_2_ : Array Bool := #[true, false, true, false, false, false, false, false, false, false, false, false, false, false, false, false, false, false]
abbrev z36_3_ : Array Bool := #[true, false, true, false, false, true, false, false, false, false, false, false, false, false, false, false, false, false]
abbrev z36_4_ : Array Bool := #[true, false, true, false, false, true, false, false, true, false, false, false, false, false, false, false, false, false]
abbrev z36_5_ : Array Bool := #[true, false, true, false, false, true, false, false, true, false, true, false, false, false, false, false, false, false]
abbrev z36_6_ : Array Bool := #[true, false, true, false, false, true, false, false, true, false, true, false, false, true, false, false, false, false]
abbrev z36_7_ : Array Bool := #[true, true, true, false, false, true, false, false, true, false, true, false, false, true, false, false, false, false]
abbrev z36_8_ : Array Bool := #[true, true, true, true, false, true, false, false, true, false, true, false, false, true, false, false, false, false]
abbrev z36_9_ : Array Bool := #[true, true, true, true, true, true, false, false, true, false, true, false, false, true, false, false, false, false]
abbrev z36_10_ : Array Bool := #[true, true, true, true, true, true, true, false, true, false, true, false, false, true, false, false, false, false]
abbrev z36_11_ : Array Bool := #[true, true, true, true, true, true, true, true, true, false, true, false, false, true, false, false, false, false]
abbrev z36_12_ : Array Bool := #[true, true, true, true, true, true, true, true, true, true, true, false, false, true, false, false, false, false]
abbrev z36_13_ : Array Bool := #[true, true, true, true, true, true, true, true, true, true, true, true, false, true, false, false, false, false]
abbrev z36_14_ : Array Bool := #[true, true, true, true, true, true, true, true, true, true, true, true, true, true, false, false, false, false]
abbrev z36_15_ : Array Bool := #[true, true, true, true, true, true, true, true, true, true, true, true, true, true, true, false, false, false]
abbrev z36_16_ : Array Bool := #[true, true, true, true, true, true, true, true, true, true, true, true, true, true, true, true, false, false]
abbrev z36_17_ : Array Bool := #[true, true, true, true, true, true, true, true, true, true, true, true, true, true, true, true, true, false]
abbrev z36_18_ : Array Bool := #[true, true, true, true, true, true, true, true, true, true, true, true, true, true, true, true, true, true]
/-! ### sponge_Node: function 36 -/
def sponge_Node.f (k : Nat) (a0 : Int) (a1_0 : Int) (a1_1 : Int) (a2_0 : Int) (a2_1 : Int) : Option (Int × Int) := (field_Valid.f a0).bind fun t136 => (if t136 = true then ((sponge_in.f a0).bind fun bt137 => ((sponge_mixer_reduced.f k bt137.1 bt137.2.1 bt137.2.2 a1_0 a1_1 a2_0 a2_1).bind fun bt141 => ((sponge_mixer_perm.f k bt137.1 bt137.2.1 bt137.2.2 bt141.1 bt141.2.1 bt141.2.2.1 bt141.2.2.2).bind fun bt146 => (if bt137.1 = 0 then (none) else (some (Int.tmod (IntKind.u64.wrap (bt146.1 + bt141.1)) bt137.1, Int.tmod (IntKind.u64.wrap (bt146.2.1 + bt141.2.1)) bt137.1)))))) else (some (0, 0)))
theorem sponge_Node.mono : ∀ a0 a1 a2 a3 a4 k, LeO (sponge_Node.f k a0 a1 a2 a3 a4) (sponge_Node.f (k + 1) a0 a1 a2 a3 a4) := by
  intro a0 a1 a2 a3 a4 k
  unfold sponge_Node.f
  repeat' first
      | (with_reducible exact sponge_mixer_perm.mono _ _ _ _ _ _ _ _)
      | (with_reducible exact sponge_mixer_reduced.mono _ _ _ _ _ _ _ _)
      | (with_reducible exact LeO.refl _)
      | (with_reducible exact LeO.none _)
      | (with_reducible refine LeO.ite ?_ ?_)
      | (with_reducible refine LeO.bind ?_ (fun _ => ?_))
      | exact sponge_mixer_perm.mono _ _ _ _ _ _ _ _
      | exact sponge_mixer_reduced.mono _ _ _ _ _ _ _ _
      | exact LeO.none _
      | refine LeO.ite ?_ ?_
      | refine LeO.bind ?_ (fun _ => ?_)
def sponge_Node.T6 : Bool × List (List Nat × List Nat) := (true, [([], []), ([0], [0]), ([], []), ([2], [2]), ([1, 3], [1, 3]), ([], []), ([5], [5]), ([4, 6], [4, 6]), ([], []), ([8], [8]), ([], []), ([10], [10]), ([9, 11], [9, 11]), ([], []), ([13], [13]), ([12, 14], [12, 14]), ([7, 15], [7, 15]), ([16, 0, 1, 2, 3, 4, 5, 6, 7, 8, 9, 10, 11, 12, 13, 14, 15, 16], [16])])
def sponge_Node.B6 : List Nat := [0, 1, 0, 4, 15, 0, 32, 127, 0, 256, 0, 1024, 3840, 0, 8192, 32512, 65535, 131071]
theorem sponge_Node.tab6 : rtab .any (opsOf Tryd.f36 6) = sponge_Node.T6 := by kernel_rfl
theorem sponge_Node.bits6 : waitsOk sponge_Node.T6.2 sponge_Node.B6 = true := by kernel_rfl
set_option maxHeartbeats 8000000 in
set_option maxRecDepth 100000 in
theorem sponge_Node.calls (k : Nat) (a0 : Int) (a1_0 : Int) (a1_1 : Int) (a2_0 : Int) (a2_1 : Int) (r1 : Int) (r2 : Int) (w : World) (hrG : GL w) (h : sponge_Node.f k a0 a1_0 a1_1 a2_0 a2_1 = some (r1, r2)) :
  Calls Tryd.prog 36 #[.int .i64 a0, .agg #[.int .u64 a1_0, .int .u64 a1_1], .agg #[.int .u64 a2_0, .int .u64 a2_1]] w fun e w' => e = .returned (.agg #[.int .u64 r1, .int .u64 r2]) ∧ Below w.heap.size w w' := by
 have hu36 := Tryd.underlying36
 have hu78 := Tryd.underlying78
 have hu80 := Tryd.underlying80
 have HRG := Aside0.mk hrG
 clear hrG
 have HB := Aside0.mk (Below.refl w.heap.size w)
 have H : ((field_Valid.f a0).bind fun t136 => (if t136 = true then ((sponge_in.f a0).bind fun bt137 => ((sponge_mixer_reduced.f k bt137.1 bt137.2.1 bt137.2.2 a1_0 a1_1 a2_0 a2_1).bind fun bt141 => ((sponge_mixer_perm.f k bt137.1 bt137.2.1 bt137.2.2 bt141.1 bt141.2.1 bt141.2.2.1 bt141.2.2.2).bind fun bt146 => (if bt137.1 = 0 then (none) else (some (Int.tmod (IntKind.u64.wrap (bt146.1 + bt141.1)) bt137.1, Int.tmod (IntKind.u64.wrap (bt146.2.1 + bt141.2.1)) bt137.1)))))) else (some (0, 0)))) = some (r1, r2) := h
 clear h
 replace H := Option.bind_eq_some_iff.mp H
 obtain ⟨t136, A40, H⟩ := H
 have A4 := Aside0.mk A40
 clear A40
 by_cases c5 : t136 = true
 ·subst c5
  have H1 : ((sponge_in.f a0).bind fun bt137 => ((sponge_mixer_reduced.f k bt137.1 bt137.2.1 bt137.2.2 a1_0 a1_1 a2_0 a2_1).bind fun bt141 => ((sponge_mixer_perm.f k bt137.1 bt137.2.1 bt137.2.2 bt141.1 bt141.2.1 bt141.2.2.1 bt141.2.2.2).bind fun bt146 => (if bt137.1 = 0 then (none) else (some (Int.tmod (IntKind.u64.wrap (bt146.1 + bt141.1)) bt137.1, Int.tmod (IntKind.u64.wrap (bt146.2.1 + bt141.2.1)) bt137.1)))))) = some (r1, r2) := by rw [if_pos rfl] at H; exact H
  clear H
  have H := H1
  clear H1
  replace H := Option.bind_eq_some_iff.mp H
  obtain ⟨⟨t137, t138, t139⟩, A60, H⟩ := H
  replace H : ((sponge_mixer_reduced.f k t137 t138 t139 a1_0 a1_1 a2_0 a2_1).bind fun bt141 => ((sponge_mixer_perm.f k t137 t138 t139 bt141.1 bt141.2.1 bt141.2.2.1 bt141.2.2.2).bind fun bt146 => (if t137 = 0 then (none) else (some (Int.tmod (IntKind.u64.wrap (bt146.1 + bt141.1)) t137, Int.tmod (IntKind.u64.wrap (bt146.2.1 + bt141.2.1)) t137))))) = some (r1, r2) := H
  have A6 := Aside0.mk A60
  clear A60
  replace H := Option.bind_eq_some_iff.mp H
  obtain ⟨⟨t141, t142, t143, t144⟩, A70, H⟩ := H
  replace H : ((sponge_mixer_perm.f k t137 t138 t139 t141 t142 t143 t144).bind fun bt146 => (if t137 = 0 then (none) else (some (Int.tmod (IntKind.u64.wrap (bt146.1 + t141)) t137, Int.tmod (IntKind.u64.wrap (bt146.2.1 + t142)) t137)))) = some (r1, r2) := H
  have A7 := Aside0.mk A70
  clear A70
  replace H := Option.bind_eq_some_iff.mp H
  obtain ⟨⟨t146, t147, t148, t149⟩, A80, H⟩ := H
  replace H : (if t137 = 0 then (none) else (some (Int.tmod (IntKind.u64.wrap (t146 + t141)) t137, Int.tmod (IntKind.u64.wrap (t147 + t142)) t137))) = some (r1, r2) := H
  have A8 := Aside0.mk A80
  clear A80
  by_cases c9 : t137 = 0
  ·rw [if_pos c9] at H
   exact absurd H (by simp)
  ·rw [if_neg c9] at H
   have c9b0 : (t137 == 0) = false := beq_eq_false_iff_ne.mpr c9
   have c9b1 : (t137 != 0) = true := bne_iff_ne.mpr c9
   simp only [Option.some.injEq, Prod.mk.injEq] at H
   obtain ⟨rfl, rfl⟩ := H
   go_enter Tryd.func36, Tryd.ntmps36
   try go_wp2_with (first | ((with_reducible refine gate_dst (N := 4) rfl ?_); refine box_event ?hg (N := 4) ?hd (cs := #[.int .u64 a1_0, .int .u64 a1_1]) (t := 36) ?hr ?_; (case hd => rfl); (case hg => rfl); (case hr => first | (go_simp; done) | (go_simp; rfl)); intro g133 hg w10 hbox hb; have n0_ := Aside0.mk (below_step (by repeat (first | (with_reducible first | exact HB.out | apply below_alloc | apply pw_below_drewN | apply below_drew1) | exact HB.out)) hb); have n1_ := Aside0.mk (hbox); have n2_ := Aside0.mk ((by rw [hg]; exact (below_size (by repeat (first | (with_reducible first | exact HB.out | apply below_alloc | apply pw_below_drewN | apply below_drew1) | exact HB.out))) : w.heap.size ≤ g133)); have n3_ := Aside0.mk ((by rw [hg]; exact (below_size (by repeat (first | (with_reducible first | exact HB.out | apply below_alloc | apply pw_below_drewN | apply below_drew1) | exact HB.out))) : w.heap.size ≤ g133)); clear HB; have HB := n0_; have B133 := n1_; have GW133 := n2_; have GE133 := n3_; clear n0_ n1_ n2_ n3_; clear hb hbox hg) | ((with_reducible refine gate_dst (N := 5) rfl ?_); refine box_event ?hg (N := 5) ?hd (cs := #[.int .u64 a2_0, .int .u64 a2_1]) (t := 36) ?hr ?_; (case hd => rfl); (case hg => rfl); (case hr => first | (go_simp; done) | (go_simp; rfl)); intro g134 hg w11 hbox hb; have n0_ := Aside0.mk (blk_below (g := g133) (o := .cells #[.int .u64 a1_0, .int .u64 a1_1] 36 (0, 0)) (by exact B133.out) hb); have n1_ := Aside0.mk (below_step (by repeat (first | (with_reducible first | exact HB.out | apply below_alloc | apply pw_below_drewN | apply below_drew1 | refine below_set ?_ GE133.out) | exact HB.out)) hb); have n2_ := Aside0.mk (hbox); have n3_ := Aside0.mk ((by rw [hg]; exact (below_size (by repeat (first | (with_reducible first | exact HB.out | apply below_alloc | apply pw_below_drewN | apply below_drew1 | refine below_set ?_ GE133.out) | exact HB.out))) : w.heap.size ≤ g134)); have n4_ := Aside0.mk ((by rw [hg]; exact (below_size (by repeat (first | (with_reducible first | exact HB.out | apply below_alloc | apply pw_below_drewN | apply below_drew1 | refine below_set ?_ GE133.out) | exact HB.out))) : w.heap.size ≤ g134)); have n5_ := Aside0.mk ((by rw [hg]; exact Nat.ne_of_lt (blk_lt (g := g133) (o := .cells #[.int .u64 a1_0, .int .u64 a1_1] 36 (0, 0)) (by exact B133.out)) : g133 ≠ g134)); have n6_ := Aside0.mk ((by rw [hg]; exact Nat.ne_of_gt (blk_lt (g := g133) (o := .cells #[.int .u64 a1_0, .int .u64 a1_1] 36 (0, 0)) (by exact B133.out)) : g134 ≠ g133)); clear B133; clear HB; have B133 := n0_; have HB := n1_; have B134 := n2_; have GW134 := n3_; have GE134 := n4_; have NB133_134 := n5_; have NB134_133 := n6_; clear n0_ n1_ n2_ n3_ n4_ n5_ n6_; clear hb hbox hg) | ((with_reducible refine gate_dst (N := 6) rfl ?_); refine box_event ?hg (N := 6) ?hd (cs := #[.int .u64 0, .int .u64 0]) (t := 36) ?hr ?_; (case hd => rfl); (case hg => rfl); (case hr => first | (go_simp; done) | (go_simp; rfl)); intro g135 hg w12 hbox hb; have n0_ := Aside0.mk (blk_below (g := g133) (o := .cells #[.int .u64 a1_0, .int .u64 a1_1] 36 (0, 0)) (by exact B133.out) hb); have n1_ := Aside0.mk (blk_below (g := g134) (o := .cells #[.int .u64 a2_0, .int .u64 a2_1] 36 (0, 0)) (by exact B134.out) hb); have n2_ := Aside0.mk (below_step (by repeat (first | (with_reducible first | exact HB.out | apply below_alloc | apply pw_below_drewN | apply below_drew1 | refine below_set ?_ GE133.out | refine below_set ?_ GE134.out) | exact HB.out)) hb); have n3_ := Aside0.mk (hbox); have n4_ := Aside0.mk ((by rw [hg]; exact (below_size (by repeat (first | (with_reducible first | exact HB.out | apply below_alloc | apply pw_below_drewN | apply below_drew1 | refine below_set ?_ GE133.out | refine below_set ?_ GE134.out) | exact HB.out))) : w.heap.size ≤ g135)); have n5_ := Aside0.mk ((by rw [hg]; exact (below_size (by repeat (first | (with_reducible first | exact HB.out | apply below_alloc | apply pw_below_drewN | apply below_drew1 | refine below_set ?_ GE133.out | refine below_set ?_ GE134.out) | exact HB.out))) : w.heap.size ≤ g135)); have n6_ := Aside0.mk ((by rw [hg]; exact Nat.ne_of_lt (blk_lt (g := g133) (o := .cells #[.int .u64 a1_0, .int .u64 a1_1] 36 (0, 0)) (by exact B133.out)) : g133 ≠ g135)); have n7_ := Aside0.mk ((by rw [hg]; exact Nat.ne_of_gt (blk_lt (g := g133) (o := .cells #[.int .u64 a1_0, .int .u64 a1_1] 36 (0, 0)) (by exact B133.out)) : g135 ≠ g133)); have n8_ := Aside0.mk ((by rw [hg]; exact Nat.ne_of_lt (blk_lt (g := g134) (o := .cells #[.int .u64 a2_0, .int .u64 a2_1] 36 (0, 0)) (by exact B134.out)) : g134 ≠ g135)); have n9_ := Aside0.mk ((by rw [hg]; exact Nat.ne_of_gt (blk_lt (g := g134) (o := .cells #[.int .u64 a2_0, .int .u64 a2_1] 36 (0, 0)) (by exact B134.out)) : g135 ≠ g134)); clear B133; clear B134; clear HB; have B133 := n0_; have B134 := n1_; have HB := n2_; have B135 := n3_; have GW135 := n4_; have GE135 := n5_; have NB133_135 := n6_; have NB135_133 := n7_; have NB134_135 := n8_; have NB135_134 := n9_; clear n0_ n1_ n2_ n3_ n4_ n5_ n6_ n7_ n8_ n9_; clear hb hbox hg) | ((with_reducible refine gate_callee (f := 38) rfl ?_); refine goesL_ (some 11) rfl rfl Tryd.func38 (by kernel_rfl) rfl #[.int .i64 a0] rfl (by (try simp only [List.map_toArray, List.map_cons, List.map_nil]); first | done | rfl | (go_simp; done)) ?_; (with_reducible refine (field_Valid.calls a0 true _ A4.out).mono ?_); rintro e w' ⟨rfl, ⟨nd, rfl⟩⟩; refine ⟨_, rfl, ?_⟩; (try (rw [drewN_self w12]; generalize q_ : World.drewN w12 _ = w12; have n0_ : Aside0 (w12.heap[g133]? = some (.cells #[.int .u64 a1_0, .int .u64 a1_1] 36 (0, 0))) := ⟨by rw [← q_]; exact (by exact B133.out)⟩; have n1_ : Aside0 (w12.heap[g134]? = some (.cells #[.int .u64 a2_0, .int .u64 a2_1] 36 (0, 0))) := ⟨by rw [← q_]; exact (by exact B134.out)⟩; have n2_ : Aside0 (w12.heap[g135]? = some (.cells #[.int .u64 0, .int .u64 0] 36 (0, 0))) := ⟨by rw [← q_]; exact (by exact B135.out)⟩; have n3_ : Aside0 (Below w.heap.size w w12) := ⟨by rw [← q_]; exact (by repeat (first | (with_reducible first | exact HB.out | apply below_alloc | apply pw_below_drewN | apply below_drew1 | refine below_set ?_ GE133.out | refine below_set ?_ GE134.out | refine below_set ?_ GE135.out) | exact HB.out))⟩; clear B133 B134 B135 HB q_; have B133 := n0_; have B134 := n1_; have B135 := n2_; have HB := n3_; clear n0_ n1_ n2_ n3_))) | ((with_reducible refine gate_callee (f := 54) rfl ?_); refine goesL_ (some 15) rfl rfl Tryd.func54 (by kernel_rfl) rfl #[.int .i64 a0] rfl (by (try simp only [List.map_toArray, List.map_cons, List.map_nil]); first | done | rfl | (go_simp; done)) ?_; (with_reducible refine (sponge_in.calls a0 t137 t138 t139 _ ?side1 A6.out).mono ?_); (case side1 => repeat (first | exact (GL.below HRG.out HB.out) | (with_reducible refine GL.alloc ?_ _) | (with_reducible refine GL.drewN ?_ _) | (with_reducible refine GL.drew ?_))); rintro e w13 ⟨rfl, hb⟩; refine ⟨_, rfl, ?_⟩; have n0_ := Aside0.mk (blk_below (g := g133) (o := .cells #[.int .u64 a1_0, .int .u64 a1_1] 36 (0, 0)) (by exact B133.out) hb); have n1_ := Aside0.mk (blk_below (g := g134) (o := .cells #[.int .u64 a2_0, .int .u64 a2_1] 36 (0, 0)) (by exact B134.out) hb); have n2_ := Aside0.mk (blk_below (g := g135) (o := .cells #[.int .u64 0, .int .u64 0] 36 (0, 0)) (by exact B135.out) hb); have n3_ := Aside0.mk (below_step (by repeat (first | (with_reducible first | exact HB.out | apply below_alloc | apply pw_below_drewN | apply below_drew1 | refine below_set ?_ GE133.out | refine below_set ?_ GE134.out | refine below_set ?_ GE135.out) | exact HB.out)) hb); clear B133; clear B134; clear B135; clear HB; have B133 := n0_; have B134 := n1_; have B135 := n2_; have HB := n3_; clear n0_ n1_ n2_ n3_; (try clear hb); (try clear hb2); (try clear hk); (try clear hi)) | ((with_reducible refine gate_dst (N := 7) rfl ?_); refine box_event ?hg (N := 7) ?hd (cs := #[.int .u64 0, .int .u64 0, .bool false]) (t := 78) ?hr ?_; (case hd => rfl); (case hg => rfl); (case hr => first | (go_simp; done) | (go_simp; rfl)); intro g140 hg w14 hbox hb; have n0_ := Aside0.mk (blk_below (g := g133) (o := .cells #[.int .u64 a1_0, .int .u64 a1_1] 36 (0, 0)) (by exact B133.out) hb); have n1_ := Aside0.mk (blk_below (g := g134) (o := .cells #[.int .u64 a2_0, .int .u64 a2_1] 36 (0, 0)) (by exact B134.out) hb); have n2_ := Aside0.mk (blk_below (g := g135) (o := .cells #[.int .u64 0, .int .u64 0] 36 (0, 0)) (by exact B135.out) hb); have n3_ := Aside0.mk (below_step (by repeat (first | (with_reducible first | exact HB.out | apply below_alloc | apply pw_below_drewN | apply below_drew1 | refine below_set ?_ GE133.out | refine below_set ?_ GE134.out | refine below_set ?_ GE135.out) | exact HB.out)) hb); have n4_ := Aside0.mk (hbox); have n5_ := Aside0.mk ((by rw [hg]; exact (below_size (by repeat (first | (with_reducible first | exact HB.out | apply below_alloc | apply pw_below_drewN | apply below_drew1 | refine below_set ?_ GE133.out | refine below_set ?_ GE134.out | refine below_set ?_ GE135.out) | exact HB.out))) : w.heap.size ≤ g140)); have n6_ := Aside0.mk ((by rw [hg]; exact (below_size (by repeat (first | (with_reducible first | exact HB.out | apply below_alloc | apply pw_below_drewN | apply below_drew1 | refine below_set ?_ GE133.out | refine below_set ?_ GE134.out | refine below_set ?_ GE135.out) | exact HB.out))) : w.heap.size ≤ g140)); have n7_ := Aside0.mk ((by rw [hg]; exact Nat.ne_of_lt (blk_lt (g := g133) (o := .cells #[.int .u64 a1_0, .int .u64 a1_1] 36 (0, 0)) (by exact B133.out)) : g133 ≠ g140)); have n8_ := Aside0.mk ((by rw [hg]; exact Nat.ne_of_gt (blk_lt (g := g133) (o := .cells #[.int .u64 a1_0, .int .u64 a1_1] 36 (0, 0)) (by exact B133.out)) : g140 ≠ g133)); have n9_ := Aside0.mk ((by rw [hg]; exact Nat.ne_of_lt (blk_lt (g := g134) (o := .cells #[.int .u64 a2_0, .int .u64 a2_1] 36 (0, 0)) (by exact B134.out)) : g134 ≠ g140)); have n10_ := Aside0.mk ((by rw [hg]; exact Nat.ne_of_gt (blk_lt (g := g134) (o := .cells #[.int .u64 a2_0, .int .u64 a2_1] 36 (0, 0)) (by exact B134.out)) : g140 ≠ g134)); have n11_ := Aside0.mk ((by rw [hg]; exact Nat.ne_of_lt (blk_lt (g := g135) (o := .cells #[.int .u64 0, .int .u64 0] 36 (0, 0)) (by exact B135.out)) : g135 ≠ g140)); have n12_ := Aside0.mk ((by rw [hg]; exact Nat.ne_of_gt (blk_lt (g := g135) (o := .cells #[.int .u64 0, .int .u64 0] 36 (0, 0)) (by exact B135.out)) : g140 ≠ g135)); clear B133; clear B134; clear B135; clear HB; have B133 := n0_; have B134 := n1_; have B135 := n2_; have HB := n3_; have B140 := n4_; have GW140 := n5_; have GE140 := n6_; have NB133_140 := n7_; have NB140_133 := n8_; have NB134_140 := n9_; have NB140_134 := n10_; have NB135_140 := n11_; have NB140_135 := n12_; clear n0_ n1_ n2_ n3_ n4_ n5_ n6_ n7_ n8_ n9_ n10_ n11_ n12_; clear hb hbox hg; have hnb15 := NB140_133.out; have hnc15 := NB133_140.out; have hnb16 := NB140_134.out; have hnc16 := NB134_140.out; have hnb17 := NB140_135.out; have hnc17 := NB135_140.out; have hcz18_0 : w14.cell? ⟨g140, 0, none⟩ = some (.int .u64 0) := bq_ B140 0; have hcz18_1 : w14.cell? ⟨g140, 1, none⟩ = some (.int .u64 0) := bq_ B140 1; have hcz18_2 : w14.cell? ⟨g140, 2, none⟩ = some (.bool false) := bq_ B140 2; have hfz18_0 := blk_frozen B140.out 0; have hfz18_1 := blk_frozen B140.out 1; have hfz18_2 := blk_frozen B140.out 2; have hnb19 := NB133_134.out; have hnc19 := NB134_133.out; have hnb20 := NB133_135.out; have hnc20 := NB135_133.out; have hcz21_0 : w14.cell? ⟨g133, 0, none⟩ = some (.int .u64 a1_0) := bq_ B133 0; have hcz21_1 : w14.cell? ⟨g133, 1, none⟩ = some (.int .u64 a1_1) := bq_ B133 1; have hfz21_0 := blk_frozen B133.out 0; have hfz21_1 := blk_frozen B133.out 1; have hnb22 := NB134_135.out; have hnc22 := NB135_134.out; have hcz23_0 : w14.cell? ⟨g134, 0, none⟩ = some (.int .u64 a2_0) := bq_ B134 0; have hcz23_1 : w14.cell? ⟨g134, 1, none⟩ = some (.int .u64 a2_1) := bq_ B134 1; have hfz23_0 := blk_frozen B134.out 0; have hfz23_1 := blk_frozen B134.out 1) | ((with_reducible refine gate_callee (f := 55) rfl ?_); refine goesL_ (some 26) rfl rfl Tryd.func55 (by kernel_rfl) rfl #[.agg #[.int .u64 t137, .int .u64 t138, .bool t139], .agg #[.int .u64 a1_0, .int .u64 a1_1, .int .u64 a2_0, .int .u64 a2_1]] rfl (by (try simp only [List.map_toArray, List.map_cons, List.map_nil]); first | done | rfl | (go_simp; done)) ?_; (with_reducible refine (sponge_mixer_reduced.calls k t137 t138 t139 a1_0 a1_1 a2_0 a2_1 t141 t142 t143 t144 _ A7.out).mono ?_); rintro e w24 ⟨rfl, hb⟩; refine ⟨_, rfl, ?_⟩; have n0_ := Aside0.mk (blk_below (g := g133) (o := .cells #[.int .u64 a1_0, .int .u64 a1_1] 36 (0, 0)) (by refine blk_far ?_ NB133_140.out _; refine blk_far ?_ NB133_140.out _; refine blk_far ?_ NB133_140.out _; exact B133.out) hb); have n1_ := Aside0.mk (blk_below (g := g134) (o := .cells #[.int .u64 a2_0, .int .u64 a2_1] 36 (0, 0)) (by refine blk_far ?_ NB134_140.out _; refine blk_far ?_ NB134_140.out _; refine blk_far ?_ NB134_140.out _; exact B134.out) hb); have n2_ := Aside0.mk (blk_below (g := g135) (o := .cells #[.int .u64 0, .int .u64 0] 36 (0, 0)) (by refine blk_far ?_ NB135_140.out _; refine blk_far ?_ NB135_140.out _; refine blk_far ?_ NB135_140.out _; exact B135.out) hb); have n3_ := Aside0.mk (blk_below (g := g140) (o := .cells #[.int .u64 t137, .int .u64 t138, .bool t139] 78 (0, 0)) (by refine blk_put (cs := #[.int .u64 t137, .int .u64 t138, .bool false]) ?_ 2 _ rfl; refine blk_put (cs := #[.int .u64 t137, .int .u64 0, .bool false]) ?_ 1 _ rfl; refine blk_put (cs := #[.int .u64 0, .int .u64 0, .bool false]) ?_ 0 _ rfl; exact B140.out) hb); have n4_ := Aside0.mk (below_step (by repeat (first | (with_reducible first | exact HB.out | apply below_alloc | apply pw_below_drewN | apply below_drew1 | refine below_set ?_ GE133.out | refine below_set ?_ GE134.out | refine below_set ?_ GE135.out | refine below_set ?_ GE140.out) | exact HB.out)) hb); clear B133; clear B134; clear B135; clear B140; clear HB; have B133 := n0_; have B134 := n1_; have B135 := n2_; have B140 := n3_; have HB := n4_; clear n0_ n1_ n2_ n3_ n4_; (try clear hb); (try clear hb2); (try clear hk); (try clear hi)) | ((with_reducible refine gate_dst (N := 8) rfl ?_); refine box_event ?hg (N := 8) ?hd (cs := #[.int .u64 0, .int .u64 0, .int .u64 0, .int .u64 0]) (t := 80) ?hr ?_; (case hd => rfl); (case hg => rfl); (case hr => first | (go_simp; done) | (go_simp; rfl)); intro g145 hg w25 hbox hb; have n0_ := Aside0.mk (blk_below (g := g133) (o := .cells #[.int .u64 a1_0, .int .u64 a1_1] 36 (0, 0)) (by exact B133.out) hb); have n1_ := Aside0.mk (blk_below (g := g134) (o := .cells #[.int .u64 a2_0, .int .u64 a2_1] 36 (0, 0)) (by exact B134.out) hb); have n2_ := Aside0.mk (blk_below (g := g135) (o := .cells #[.int .u64 0, .int .u64 0] 36 (0, 0)) (by exact B135.out) hb); have n3_ := Aside0.mk (blk_below (g := g140) (o := .cells #[.int .u64 t137, .int .u64 t138, .bool t139] 78 (0, 0)) (by exact B140.out) hb); have n4_ := Aside0.mk (below_step (by repeat (first | (with_reducible first | exact HB.out | apply below_alloc | apply pw_below_drewN | apply below_drew1 | refine below_set ?_ GE133.out | refine below_set ?_ GE134.out | refine below_set ?_ GE135.out | refine below_set ?_ GE140.out) | exact HB.out)) hb); have n5_ := Aside0.mk (hbox); have n6_ := Aside0.mk ((by rw [hg]; exact (below_size (by repeat (first | (with_reducible first | exact HB.out | apply below_alloc | apply pw_below_drewN | apply below_drew1 | refine below_set ?_ GE133.out | refine below_set ?_ GE134.out | refine below_set ?_ GE135.out | refine below_set ?_ GE140.out) | exact HB.out))) : w.heap.size ≤ g145)); have n7_ := Aside0.mk ((by rw [hg]; exact (below_size (by repeat (first | (with_reducible first | exact HB.out | apply below_alloc | apply pw_below_drewN | apply below_drew1 | refine below_set ?_ GE133.out | refine below_set ?_ GE134.out | refine below_set ?_ GE135.out | refine below_set ?_ GE140.out) | exact HB.out))) : w.heap.size ≤ g145)); have n8_ := Aside0.mk ((by rw [hg]; exact Nat.ne_of_lt (blk_lt (g := g133) (o := .cells #[.int .u64 a1_0, .int .u64 a1_1] 36 (0, 0)) (by exact B133.out)) : g133 ≠ g145)); have n9_ := Aside0.mk ((by rw [hg]; exact Nat.ne_of_gt (blk_lt (g := g133) (o := .cells #[.int .u64 a1_0, .int .u64 a1_1] 36 (0, 0)) (by exact B133.out)) : g145 ≠ g133)); have n10_ := Aside0.mk ((by rw [hg]; exact Nat.ne_of_lt (blk_lt (g := g134) (o := .cells #[.int .u64 a2_0, .int .u64 a2_1] 36 (0, 0)) (by exact B134.out)) : g134 ≠ g145)); have n11_ := Aside0.mk ((by rw [hg]; exact Nat.ne_of_gt (blk_lt (g := g134) (o := .cells #[.int .u64 a2_0, .int .u64 a2_1] 36 (0, 0)) (by exact B134.out)) : g145 ≠ g134)); have n12_ := Aside0.mk ((by rw [hg]; exact Nat.ne_of_lt (blk_lt (g := g135) (o := .cells #[.int .u64 0, .int .u64 0] 36 (0, 0)) (by exact B135.out)) : g135 ≠ g145)); have n13_ := Aside0.mk ((by rw [hg]; exact Nat.ne_of_gt (blk_lt (g := g135) (o := .cells #[.int .u64 0, .int .u64 0] 36 (0, 0)) (by exact B135.out)) : g145 ≠ g135)); have n14_ := Aside0.mk ((by rw [hg]; exact Nat.ne_of_lt (blk_lt (g := g140) (o := .cells #[.int .u64 t137, .int .u64 t138, .bool t139] 78 (0, 0)) (by exact B140.out)) : g140 ≠ g145)); have n15_ := Aside0.mk ((by rw [hg]; exact Nat.ne_of_gt (blk_lt (g := g140) (o := .cells #[.int .u64 t137, .int .u64 t138, .bool t139] 78 (0, 0)) (by exact B140.out)) : g145 ≠ g140)); clear B133; clear B134; clear B135; clear B140; clear HB; have B133 := n0_; have B134 := n1_; have B135 := n2_; have B140 := n3_; have HB := n4_; have B145 := n5_; have GW145 := n6_; have GE145 := n7_; have NB133_145 := n8_; have NB145_133 := n9_; have NB134_145 := n10_; have NB145_134 := n11_; have NB135_145 := n12_; have NB145_135 := n13_; have NB140_145 := n14_; have NB145_140 := n15_; clear n0_ n1_ n2_ n3_ n4_ n5_ n6_ n7_ n8_ n9_ n10_ n11_ n12_ n13_ n14_ n15_; clear hb hbox hg; have hnb26 := NB145_133.out; have hnc26 := NB133_145.out; have hnb27 := NB145_134.out; have hnc27 := NB134_145.out; have hnb28 := NB145_135.out; have hnc28 := NB135_145.out; have hnb29 := NB145_140.out; have hnc29 := NB140_145.out; have hcz30_0 : w25.cell? ⟨g145, 0, none⟩ = some (.int .u64 0) := bq_ B145 0; have hcz30_1 : w25.cell? ⟨g145, 1, none⟩ = some (.int .u64 0) := bq_ B145 1; have hcz30_2 : w25.cell? ⟨g145, 2, none⟩ = some (.int .u64 0) := bq_ B145 2; have hcz30_3 : w25.cell? ⟨g145, 3, none⟩ = some (.int .u64 0) := bq_ B145 3; have hfz30_0 := blk_frozen B145.out 0; have hfz30_1 := blk_frozen B145.out 1; have hfz30_2 := blk_frozen B145.out 2; have hfz30_3 := blk_frozen B145.out 3; have hcz31_0 : w25.cell? ⟨g140, 0, none⟩ = some (.int .u64 t137) := bq_ B140 0; have hcz31_1 : w25.cell? ⟨g140, 1, none⟩ = some (.int .u64 t138) := bq_ B140 1; have hcz31_2 : w25.cell? ⟨g140, 2, none⟩ = some (.bool t139) := bq_ B140 2; have hfz31_0 := blk_frozen B140.out 0; have hfz31_1 := blk_frozen B140.out 1; have hfz31_2 := blk_frozen B140.out 2) | ((with_reducible refine gate_callee (f := 56) rfl ?_); refine goesL_ (some 29) rfl rfl Tryd.func56 (by kernel_rfl) rfl #[.agg #[.int .u64 t137, .int .u64 t138, .bool t139], .agg #[.int .u64 t141, .int .u64 t142, .int .u64 t143, .int .u64 t144]] rfl (by (try simp only [List.map_toArray, List.map_cons, List.map_nil]); first | done | rfl | (go_simp; done)) ?_; (with_reducible refine (sponge_mixer_perm.calls k t137 t138 t139 t141 t142 t143 t144 t146 t147 t148 t149 _ A8.out).mono ?_); rintro e w32 ⟨rfl, hb⟩; refine ⟨_, rfl, ?_⟩; have n0_ := Aside0.mk (blk_below (g := g133) (o := .cells #[.int .u64 a1_0, .int .u64 a1_1] 36 (0, 0)) (by refine blk_far ?_ NB133_145.out _; refine blk_far ?_ NB133_145.out _; refine blk_far ?_ NB133_145.out _; refine blk_far ?_ NB133_145.out _; exact B133.out) hb); have n1_ := Aside0.mk (blk_below (g := g134) (o := .cells #[.int .u64 a2_0, .int .u64 a2_1] 36 (0, 0)) (by refine blk_far ?_ NB134_145.out _; refine blk_far ?_ NB134_145.out _; refine blk_far ?_ NB134_145.out _; refine blk_far ?_ NB134_145.out _; exact B134.out) hb); have n2_ := Aside0.mk (blk_below (g := g135) (o := .cells #[.int .u64 0, .int .u64 0] 36 (0, 0)) (by refine blk_far ?_ NB135_145.out _; refine blk_far ?_ NB135_145.out _; refine blk_far ?_ NB135_145.out _; refine blk_far ?_ NB135_145.out _; exact B135.out) hb); have n3_ := Aside0.mk (blk_below (g := g140) (o := .cells #[.int .u64 t137, .int .u64 t138, .bool t139] 78 (0, 0)) (by refine blk_far ?_ NB140_145.out _; refine blk_far ?_ NB140_145.out _; refine blk_far ?_ NB140_145.out _; refine blk_far ?_ NB140_145.out _; exact B140.out) hb); have n4_ := Aside0.mk (blk_below (g := g145) (o := .cells #[.int .u64 t141, .int .u64 t142, .int .u64 t143, .int .u64 t144] 80 (0, 0)) (by refine blk_put (cs := #[.int .u64 t141, .int .u64 t142, .int .u64 t143, .int .u64 0]) ?_ 3 _ rfl; refine blk_put (cs := #[.int .u64 t141, .int .u64 t142, .int .u64 0, .int .u64 0]) ?_ 2 _ rfl; refine blk_put (cs := #[.int .u64 t141, .int .u64 0, .int .u64 0, .int .u64 0]) ?_ 1 _ rfl; refine blk_put (cs := #[.int .u64 0, .int .u64 0, .int .u64 0, .int .u64 0]) ?_ 0 _ rfl; exact B145.out) hb); have n5_ := Aside0.mk (below_step (by repeat (first | (with_reducible first | exact HB.out | apply below_alloc | apply pw_below_drewN | apply below_drew1 | refine below_set ?_ GE133.out | refine below_set ?_ GE134.out | refine below_set ?_ GE135.out | refine below_set ?_ GE140.out | refine below_set ?_ GE145.out) | exact HB.out)) hb); clear B133; clear B134; clear B135; clear B140; clear B145; clear HB; have B133 := n0_; have B134 := n1_; have B135 := n2_; have B140 := n3_; have B145 := n4_; have HB := n5_; clear n0_ n1_ n2_ n3_ n4_ n5_; (try clear hb); (try clear hb2); (try clear hk); (try clear hi)) | ((with_reducible refine gate_dst (N := 9) rfl ?_); refine box_event ?hg (N := 9) ?hd (cs := #[.int .u64 0, .int .u64 0, .int .u64 0, .int .u64 0]) (t := 80) ?hr ?_; (case hd => rfl); (case hg => rfl); (case hr => first | (go_simp; done) | (go_simp; rfl)); intro g150 hg w33 hbox hb; have n0_ := Aside0.mk (blk_below (g := g133) (o := .cells #[.int .u64 a1_0, .int .u64 a1_1] 36 (0, 0)) (by exact B133.out) hb); have n1_ := Aside0.mk (blk_below (g := g134) (o := .cells #[.int .u64 a2_0, .int .u64 a2_1] 36 (0, 0)) (by exact B134.out) hb); have n2_ := Aside0.mk (blk_below (g := g135) (o := .cells #[.int .u64 0, .int .u64 0] 36 (0, 0)) (by exact B135.out) hb); have n3_ := Aside0.mk (blk_below (g := g140) (o := .cells #[.int .u64 t137, .int .u64 t138, .bool t139] 78 (0, 0)) (by exact B140.out) hb); have n4_ := Aside0.mk (blk_below (g := g145) (o := .cells #[.int .u64 t141, .int .u64 t142, .int .u64 t143, .int .u64 t144] 80 (0, 0)) (by exact B145.out) hb); have n5_ := Aside0.mk (below_step (by repeat (first | (with_reducible first | exact HB.out | apply below_alloc | apply pw_below_drewN | apply below_drew1 | refine below_set ?_ GE133.out | refine below_set ?_ GE134.out | refine below_set ?_ GE135.out | refine below_set ?_ GE140.out | refine below_set ?_ GE145.out) | exact HB.out)) hb); have n6_ := Aside0.mk (hbox); have n7_ := Aside0.mk ((by rw [hg]; exact (below_size (by repeat (first | (with_reducible first | exact HB.out | apply below_alloc | apply pw_below_drewN | apply below_drew1 | refine below_set ?_ GE133.out | refine below_set ?_ GE134.out | refine below_set ?_ GE135.out | refine below_set ?_ GE140.out | refine below_set ?_ GE145.out) | exact HB.out))) : w.heap.size ≤ g150)); have n8_ := Aside0.mk ((by rw [hg]; exact (below_size (by repeat (first | (with_reducible first | exact HB.out | apply below_alloc | apply pw_below_drewN | apply below_drew1 | refine below_set ?_ GE133.out | refine below_set ?_ GE134.out | refine below_set ?_ GE135.out | refine below_set ?_ GE140.out | refine below_set ?_ GE145.out) | exact HB.out))) : w.heap.size ≤ g150)); have n9_ := Aside0.mk ((by rw [hg]; exact Nat.ne_of_lt (blk_lt (g := g133) (o := .cells #[.int .u64 a1_0, .int .u64 a1_1] 36 (0, 0)) (by exact B133.out)) : g133 ≠ g150)); have n10_ := Aside0.mk ((by rw [hg]; exact Nat.ne_of_gt (blk_lt (g := g133) (o := .cells #[.int .u64 a1_0, .int .u64 a1_1] 36 (0, 0)) (by exact B133.out)) : g150 ≠ g133)); have n11_ := Aside0.mk ((by rw [hg]; exact Nat.ne_of_lt (blk_lt (g := g134) (o := .cells #[.int .u64 a2_0, .int .u64 a2_1] 36 (0, 0)) (by exact B134.out)) : g134 ≠ g150)); have n12_ := Aside0.mk ((by rw [hg]; exact Nat.ne_of_gt (blk_lt (g := g134) (o := .cells #[.int .u64 a2_0, .int .u64 a2_1] 36 (0, 0)) (by exact B134.out)) : g150 ≠ g134)); have n13_ := Aside0.mk ((by rw [hg]; exact Nat.ne_of_lt (blk_lt (g := g135) (o := .cells #[.int .u64 0, .int .u64 0] 36 (0, 0)) (by exact B135.out)) : g135 ≠ g150)); have n14_ := Aside0.mk ((by rw [hg]; exact Nat.ne_of_gt (blk_lt (g := g135) (o := .cells #[.int .u64 0, .int .u64 0] 36 (0, 0)) (by exact B135.out)) : g150 ≠ g135)); have n15_ := Aside0.mk ((by rw [hg]; exact Nat.ne_of_lt (blk_lt (g := g140) (o := .cells #[.int .u64 t137, .int .u64 t138, .bool t139] 78 (0, 0)) (by exact B140.out)) : g140 ≠ g150)); have n16_ := Aside0.mk ((by rw [hg]; exact Nat.ne_of_gt (blk_lt (g := g140) (o := .cells #[.int .u64 t137, .int .u64 t138, .bool t139] 78 (0, 0)) (by exact B140.out)) : g150 ≠ g140)); have n17_ := Aside0.mk ((by rw [hg]; exact Nat.ne_of_lt (blk_lt (g := g145) (o := .cells #[.int .u64 t141, .int .u64 t142, .int .u64 t143, .int .u64 t144] 80 (0, 0)) (by exact B145.out)) : g145 ≠ g150)); have n18_ := Aside0.mk ((by rw [hg]; exact Nat.ne_of_gt (blk_lt (g := g145) (o := .cells #[.int .u64 t141, .int .u64 t142, .int .u64 t143, .int .u64 t144] 80 (0, 0)) (by exact B145.out)) : g150 ≠ g145)); clear B133; clear B134; clear B135; clear B140; clear B145; clear HB; have B133 := n0_; have B134 := n1_; have B135 := n2_; have B140 := n3_; have B145 := n4_; have HB := n5_; have B150 := n6_; have GW150 := n7_; have GE150 := n8_; have NB133_150 := n9_; have NB150_133 := n10_; have NB134_150 := n11_; have NB150_134 := n12_; have NB135_150 := n13_; have NB150_135 := n14_; have NB140_150 := n15_; have NB150_140 := n16_; have NB145_150 := n17_; have NB150_145 := n18_; clear n0_ n1_ n2_ n3_ n4_ n5_ n6_ n7_ n8_ n9_ n10_ n11_ n12_ n13_ n14_ n15_ n16_ n17_ n18_; clear hb hbox hg; have hnb34 := NB150_133.out; have hnc34 := NB133_150.out; have hnb35 := NB150_134.out; have hnc35 := NB134_150.out; have hnb36 := NB150_135.out; have hnc36 := NB135_150.out; have hnb37 := NB150_140.out; have hnc37 := NB140_150.out; have hnb38 := NB150_145.out; have hnc38 := NB145_150.out; have hcz39_0 : w33.cell? ⟨g150, 0, none⟩ = some (.int .u64 0) := bq_ B150 0; have hcz39_1 : w33.cell? ⟨g150, 1, none⟩ = some (.int .u64 0) := bq_ B150 1; have hcz39_2 : w33.cell? ⟨g150, 2, none⟩ = some (.int .u64 0) := bq_ B150 2; have hcz39_3 : w33.cell? ⟨g150, 3, none⟩ = some (.int .u64 0) := bq_ B150 3; have hfz39_0 := blk_frozen B150.out 0; have hfz39_1 := blk_frozen B150.out 1; have hfz39_2 := blk_frozen B150.out 2; have hfz39_3 := blk_frozen B150.out 3))
   have n0_ : Aside0 (((((w33.setCell ⟨g150, 0, none⟩ (.int .u64 t146)).setCell ⟨g150, 1, none⟩ (.int .u64 t147)).setCell ⟨g150, 2, none⟩ (.int .u64 t148)).setCell ⟨g150, 3, none⟩ (.int .u64 t149)).heap[g133]? = some (.cells #[.int .u64 a1_0, .int .u64 a1_1] 36 (0, 0))) := ⟨by refine blk_far ?_ NB133_150.out _; refine blk_far ?_ NB133_150.out _; refine blk_far ?_ NB133_150.out _; refine blk_far ?_ NB133_150.out _; exact B133.out⟩
   have n1_ : Aside0 (((((w33.setCell ⟨g150, 0, none⟩ (.int .u64 t146)).setCell ⟨g150, 1, none⟩ (.int .u64 t147)).setCell ⟨g150, 2, none⟩ (.int .u64 t148)).setCell ⟨g150, 3, none⟩ (.int .u64 t149)).heap[g134]? = some (.cells #[.int .u64 a2_0, .int .u64 a2_1] 36 (0, 0))) := ⟨by refine blk_far ?_ NB134_150.out _; refine blk_far ?_ NB134_150.out _; refine blk_far ?_ NB134_150.out _; refine blk_far ?_ NB134_150.out _; exact B134.out⟩
   have n2_ : Aside0 (((((w33.setCell ⟨g150, 0, none⟩ (.int .u64 t146)).setCell ⟨g150, 1, none⟩ (.int .u64 t147)).setCell ⟨g150, 2, none⟩ (.int .u64 t148)).setCell ⟨g150, 3, none⟩ (.int .u64 t149)).heap[g135]? = some (.cells #[.int .u64 0, .int .u64 0] 36 (0, 0))) := ⟨by refine blk_far ?_ NB135_150.out _; refine blk_far ?_ NB135_150.out _; refine blk_far ?_ NB135_150.out _; refine blk_far ?_ NB135_150.out _; exact B135.out⟩
   have n3_ : Aside0 (((((w33.setCell ⟨g150, 0, none⟩ (.int .u64 t146)).setCell ⟨g150, 1, none⟩ (.int .u64 t147)).setCell ⟨g150, 2, none⟩ (.int .u64 t148)).setCell ⟨g150, 3, none⟩ (.int .u64 t149)).heap[g140]? = some (.cells #[.int .u64 t137, .int .u64 t138, .bool t139] 78 (0, 0))) := ⟨by refine blk_far ?_ NB140_150.out _; refine blk_far ?_ NB140_150.out _; refine blk_far ?_ NB140_150.out _; refine blk_far ?_ NB140_150.out _; exact B140.out⟩
   have n4_ : Aside0 (((((w33.setCell ⟨g150, 0, none⟩ (.int .u64 t146)).setCell ⟨g150, 1, none⟩ (.int .u64 t147)).setCell ⟨g150, 2, none⟩ (.int .u64 t148)).setCell ⟨g150, 3, none⟩ (.int .u64 t149)).heap[g145]? = some (.cells #[.int .u64 t141, .int .u64 t142, .int .u64 t143, .int .u64 t144] 80 (0, 0))) := ⟨by refine blk_far ?_ NB145_150.out _; refine blk_far ?_ NB145_150.out _; refine blk_far ?_ NB145_150.out _; refine blk_far ?_ NB145_150.out _; exact B145.out⟩
   have n5_ : Aside0 (((((w33.setCell ⟨g150, 0, none⟩ (.int .u64 t146)).setCell ⟨g150, 1, none⟩ (.int .u64 t147)).setCell ⟨g150, 2, none⟩ (.int .u64 t148)).setCell ⟨g150, 3, none⟩ (.int .u64 t149)).heap[g150]? = some (.cells #[.int .u64 t146, .int .u64 t147, .int .u64 t148, .int .u64 t149] 80 (0, 0))) := ⟨by refine blk_put (cs := #[.int .u64 t146, .int .u64 t147, .int .u64 t148, .int .u64 0]) ?_ 3 _ rfl; refine blk_put (cs := #[.int .u64 t146, .int .u64 t147, .int .u64 0, .int .u64 0]) ?_ 2 _ rfl; refine blk_put (cs := #[.int .u64 t146, .int .u64 0, .int .u64 0, .int .u64 0]) ?_ 1 _ rfl; refine blk_put (cs := #[.int .u64 0, .int .u64 0, .int .u64 0, .int .u64 0]) ?_ 0 _ rfl; exact B150.out⟩
   have n6_ : Aside0 (Below w.heap.size w ((((w33.setCell ⟨g150, 0, none⟩ (.int .u64 t146)).setCell ⟨g150, 1, none⟩ (.int .u64 t147)).setCell ⟨g150, 2, none⟩ (.int .u64 t148)).setCell ⟨g150, 3, none⟩ (.int .u64 t149))) := ⟨by repeat (first | (with_reducible first | exact HB.out | apply below_alloc | apply pw_below_drewN | apply below_drew1 | refine below_set ?_ GE133.out | refine below_set ?_ GE134.out | refine below_set ?_ GE135.out | refine below_set ?_ GE140.out | refine below_set ?_ GE145.out | refine below_set ?_ GE150.out) | exact HB.out)⟩
   (try clear B133)
   (try clear B134)
   (try clear B135)
   (try clear B140)
   (try clear B145)
   (try clear B150)
   (try clear HB)
   generalize ((((w33.setCell ⟨g150, 0, none⟩ (.int .u64 t146)).setCell ⟨g150, 1, none⟩ (.int .u64 t147)).setCell ⟨g150, 2, none⟩ (.int .u64 t148)).setCell ⟨g150, 3, none⟩ (.int .u64 t149)) = w40 at n0_ n1_ n2_ n3_ n4_ n5_ n6_ ⊢
   have B133 := n0_
   have B134 := n1_
   have B135 := n2_
   have B140 := n3_
   have B145 := n4_
   have B150 := n5_
   have HB := n6_
   clear n0_ n1_ n2_ n3_ n4_ n5_ n6_
   have n0_ := Aside0.mk (blk_drew B133.out)
   have n1_ := Aside0.mk (blk_drew B134.out)
   have n2_ := Aside0.mk (blk_drew B135.out)
   have n3_ := Aside0.mk (blk_drew B140.out)
   have n4_ := Aside0.mk (blk_drew B145.out)
   have n5_ := Aside0.mk (blk_drew B150.out)
   have n6_ := Aside0.mk (below_drew1 HB.out)
   clear B133
   clear B134
   clear B135
   clear B140
   clear B145
   clear B150
   clear HB
   have B133 := n0_
   have B134 := n1_
   have B135 := n2_
   have B140 := n3_
   have B145 := n4_
   have B150 := n5_
   have HB := n6_
   clear n0_ n1_ n2_ n3_ n4_ n5_ n6_
   refine start_ (n := 18) (S := fun w' => w'.cell? ⟨g150, 0, none⟩ = some (.int .u64 t146) ∧ w'.cell? ⟨g150, 1, none⟩ = some (.int .u64 t147) ∧ w'.cell? ⟨g150, 2, none⟩ = some (.int .u64 t148) ∧ w'.cell? ⟨g150, 3, none⟩ = some (.int .u64 t149) ∧ w'.cell? ⟨g145, 0, none⟩ = some (.int .u64 t141) ∧ w'.cell? ⟨g145, 1, none⟩ = some (.int .u64 t142) ∧ w'.cell? ⟨g145, 2, none⟩ = some (.int .u64 t143) ∧ w'.cell? ⟨g145, 3, none⟩ = some (.int .u64 t144) ∧ w'.cell? ⟨g140, 0, none⟩ = some (.int .u64 t137) ∧ w'.cell? ⟨g140, 1, none⟩ = some (.int .u64 t138) ∧ w'.cell? ⟨g140, 2, none⟩ = some (.bool t139)) (ds := []) z36_0_ (by kernel_rfl) rfl rfl ⟨bq_ B150 0, bq_ B150 1, bq_ B150 2, bq_ B150 3, bq_ B145 0, bq_ B145 1, bq_ B145 2, bq_ B145 3, bq_ B140 0, bq_ B140 1, bq_ B140 2⟩ (fun hL => ?_); refine with_tabW sponge_Node.tab6 sponge_Node.bits6 (fun T_ W_ => ?_)
   generalize w40.drew = w41 at B133 B134 B135 B140 B145 B150 HB hL ⊢
   refine pure_ (i := 0) (N := some 30) (v := ?_) (a' := ?_) z36_1_ rfl rfl (an_ T_) (fun _ _ _ h => h) (Or.inl ⟨by rfl, ?_⟩) ?_ ?_
   rotate_left; · intro w'; go_simp; with_reducible rfl
   rotate_left; · simp only [Act.put, sa_, sb_, sc_, i64_w, i32_w]; rfl
   refine pure_ (i := 2) (N := some 32) (v := ?_) (a' := ?_) z36_2_ rfl rfl (an_ T_) (fun _ _ _ h => h) (Or.inl ⟨by rfl, ?_⟩) ?_ ?_
   rotate_left; · intro w'; go_simp; with_reducible rfl
   rotate_left; · simp only [Act.put, sa_, sb_, sc_, i64_w, i32_w]; rfl
   refine pure_ (i := 5) (N := some 35) (v := ?_) (a' := ?_) z36_3_ rfl rfl (an_ T_) (fun _ _ _ h => h) (Or.inl ⟨by rfl, ?_⟩) ?_ ?_
   rotate_left; · intro w'; go_simp; with_reducible rfl
   rotate_left; · simp only [Act.put, sa_, sb_, sc_, i64_w, i32_w]; rfl
   refine pure_ (i := 8) (N := some 38) (v := ?_) (a' := ?_) z36_4_ rfl rfl (an_ T_) (fun _ _ _ h => h) (Or.inl ⟨by rfl, ?_⟩) ?_ ?_
   rotate_left; · intro w'; go_simp; with_reducible rfl
   rotate_left; · simp only [Act.put, sa_, sb_, sc_, i64_w, i32_w]; rfl
   refine pure_ (i := 10) (N := some 40) (v := ?_) (a' := ?_) z36_5_ rfl rfl (an_ T_) (fun _ _ _ h => h) (Or.inl ⟨by rfl, ?_⟩) ?_ ?_
   rotate_left; · intro w'; go_simp; with_reducible rfl
   rotate_left; · simp only [Act.put, sa_, sb_, sc_, i64_w, i32_w]; rfl
   refine pure_ (i := 13) (N := some 43) (v := ?_) (a' := ?_) z36_6_ rfl rfl (an_ T_) (fun _ _ _ h => h) (Or.inl ⟨by rfl, ?_⟩) ?_ ?_
   rotate_left; · intro w'; go_simp; with_reducible rfl
   rotate_left; · simp only [Act.put, sa_, sb_, sc_, i64_w, i32_w]; rfl
   refine take_ (i := 1) (N := some 31) (v := ?_) (a' := ?_) z36_7_ rfl rfl (tk_ T_ W_) (fun _ _ _ h => h) (Or.inl ⟨by rfl, ?_⟩) hL ?_ ?_
   rotate_left
   ·rintro w' ⟨s0, s1, s2, s3, s4, s5, s6, s7, s8, s9, s10⟩
    go_simp
    with_reducible rfl
   rotate_left
   ·simp only [Act.put, sa_, sb_, sc_, i64_w, i32_w]
    rfl
   refine take_ (i := 3) (N := some 33) (v := ?_) (a' := ?_) z36_8_ rfl rfl (tk_ T_ W_) (fun _ _ _ h => h) (Or.inl ⟨by rfl, ?_⟩) hL ?_ ?_
   rotate_left
   ·rintro w' ⟨s0, s1, s2, s3, s4, s5, s6, s7, s8, s9, s10⟩
    go_simp
    with_reducible rfl
   rotate_left
   ·simp only [Act.put, sa_, sb_, sc_, i64_w, i32_w]
    rfl
   refine pure_ (i := 4) (N := some 34) (v := ?_) (a' := ?_) z36_9_ rfl rfl (an_ T_) (fun _ _ _ h => h) (Or.inl ⟨by rfl, ?_⟩) ?_ ?_
   rotate_left; · intro w'; go_simp; with_reducible rfl
   rotate_left; · simp only [Act.put, sa_, sb_, sc_, i64_w, i32_w]; rfl
   refine take_ (i := 6) (N := some 36) (v := ?_) (a' := ?_) z36_10_ rfl rfl (tk_ T_ W_) (fun _ _ _ h => h) (Or.inl ⟨by rfl, ?_⟩) hL ?_ ?_
   rotate_left
   ·rintro w' ⟨s0, s1, s2, s3, s4, s5, s6, s7, s8, s9, s10⟩
    go_simp
    with_reducible rfl
   rotate_left
   ·simp only [Act.put, sa_, sb_, sc_, i64_w, i32_w]
    rfl
   refine pure_ (i := 7) (N := some 37) (v := ?_) (a' := ?_) z36_11_ rfl rfl (an_ T_) (fun _ _ _ h => h) (Or.inl ⟨by rfl, ?_⟩) ?_ ?_
   rotate_left; · intro w'; go_simp; with_reducible rfl
   rotate_left; · simp only [Act.put, sa_, sb_, sc_, i64_w, i32_w]; rfl
   refine take_ (i := 9) (N := some 39) (v := ?_) (a' := ?_) z36_12_ rfl rfl (tk_ T_ W_) (fun _ _ _ h => h) (Or.inl ⟨by rfl, ?_⟩) hL ?_ ?_
   rotate_left
   ·rintro w' ⟨s0, s1, s2, s3, s4, s5, s6, s7, s8, s9, s10⟩
    go_simp
    with_reducible rfl
   rotate_left
   ·simp only [Act.put, sa_, sb_, sc_, i64_w, i32_w]
    rfl
   refine take_ (i := 11) (N := some 41) (v := ?_) (a' := ?_) z36_13_ rfl rfl (tk_ T_ W_) (fun _ _ _ h => h) (Or.inl ⟨by rfl, ?_⟩) hL ?_ ?_
   rotate_left
   ·rintro w' ⟨s0, s1, s2, s3, s4, s5, s6, s7, s8, s9, s10⟩
    go_simp
    with_reducible rfl
   rotate_left
   ·simp only [Act.put, sa_, sb_, sc_, i64_w, i32_w]
    rfl
   refine pure_ (i := 12) (N := some 42) (v := ?_) (a' := ?_) z36_14_ rfl rfl (an_ T_) (fun _ _ _ h => h) (Or.inl ⟨by rfl, ?_⟩) ?_ ?_
   rotate_left; · intro w'; go_simp; with_reducible rfl
   rotate_left; · simp only [Act.put, sa_, sb_, sc_, i64_w, i32_w]; rfl
   refine take_ (i := 14) (N := some 44) (v := ?_) (a' := ?_) z36_15_ rfl rfl (tk_ T_ W_) (fun _ _ _ h => h) (Or.inl ⟨by rfl, ?_⟩) hL ?_ ?_
   rotate_left
   ·rintro w' ⟨s0, s1, s2, s3, s4, s5, s6, s7, s8, s9, s10⟩
    go_simp
    with_reducible rfl
   rotate_left
   ·simp only [Act.put, sa_, sb_, sc_, i64_w, i32_w]
    rfl
   refine pure_ (i := 15) (N := some 45) (v := ?_) (a' := ?_) z36_16_ rfl rfl (an_ T_) (fun _ _ _ h => h) (Or.inl ⟨by rfl, ?_⟩) ?_ ?_
   rotate_left; · intro w'; go_simp; with_reducible rfl
   rotate_left; · simp only [Act.put, sa_, sb_, sc_, i64_w, i32_w]; rfl
   refine pure_ (i := 16) (N := some 46) (v := ?_) (a' := ?_) z36_17_ rfl rfl (an_ T_) (fun _ _ _ h => h) (Or.inl ⟨by rfl, ?_⟩) ?_ ?_
   rotate_left; · intro w'; go_simp; with_reducible rfl
   rotate_left; · simp only [Act.put, sa_, sb_, sc_, i64_w, i32_w]; rfl
   refine one_ (i := 17) (N := none) z36_18_ rfl rfl (on_ T_) (by decide) (fun K hK => ?_)
   have hs42 : w41.cell? ⟨g135, 0, none⟩ = some (.int .u64 0) := bq_ B135 0
   have hfs42 := blk_frozen B135.out 0
   have hns42_0 := NB133_135.out
   have hns42_1 := NB134_135.out
   have hns42_3 := NB140_135.out
   have hns42_4 := NB145_135.out
   have hns42_5 := NB150_135.out
   have hms42_0 := NB135_133.out
   have hms42_1 := NB135_134.out
   have hms42_3 := NB135_140.out
   have hms42_4 := NB135_145.out
   have hms42_5 := NB135_150.out
   have hs43 : w41.cell? ⟨g135, 1, none⟩ = some (.int .u64 0) := bq_ B135 1
   have hfs43 := blk_frozen B135.out 1
   have hns43_0 := NB133_135.out
   have hns43_1 := NB134_135.out
   have hns43_3 := NB140_135.out
   have hns43_4 := NB145_135.out
   have hns43_5 := NB150_135.out
   have hms43_0 := NB135_133.out
   have hms43_1 := NB135_134.out
   have hms43_3 := NB135_140.out
   have hms43_4 := NB135_145.out
   have hms43_5 := NB135_150.out
   refine skip_ (w1 := ?_) (by rfl) rfl ?_ ?_
   rotate_left
   ·go_simp
    rfl
   refine hK.out _ _ ⟨((cell_far (p := ⟨g135, _, none⟩) NB150_135.out _).trans (((cell_far (p := ⟨g135, _, none⟩) NB150_135.out _).trans (hL.1)))), ((cell_far (p := ⟨g135, _, none⟩) NB150_135.out _).trans (((cell_far (p := ⟨g135, _, none⟩) NB150_135.out _).trans (hL.2.1)))), ((cell_far (p := ⟨g135, _, none⟩) NB150_135.out _).trans (((cell_far (p := ⟨g135, _, none⟩) NB150_135.out _).trans (hL.2.2.1)))), ((cell_far (p := ⟨g135, _, none⟩) NB150_135.out _).trans (((cell_far (p := ⟨g135, _, none⟩) NB150_135.out _).trans (hL.2.2.2.1)))), ((cell_far (p := ⟨g135, _, none⟩) NB145_135.out _).trans (((cell_far (p := ⟨g135, _, none⟩) NB145_135.out _).trans (hL.2.2.2.2.1)))), ((cell_far (p := ⟨g135, _, none⟩) NB145_135.out _).trans (((cell_far (p := ⟨g135, _, none⟩) NB145_135.out _).trans (hL.2.2.2.2.2.1)))), ((cell_far (p := ⟨g135, _, none⟩) NB145_135.out _).trans (((cell_far (p := ⟨g135, _, none⟩) NB145_135.out _).trans (hL.2.2.2.2.2.2.1)))), ((cell_far (p := ⟨g135, _, none⟩) NB145_135.out _).trans (((cell_far (p := ⟨g135, _, none⟩) NB145_135.out _).trans (hL.2.2.2.2.2.2.2.1)))), ((cell_far (p := ⟨g135, _, none⟩) NB140_135.out _).trans (((cell_far (p := ⟨g135, _, none⟩) NB140_135.out _).trans (hL.2.2.2.2.2.2.2.2.1)))), ((cell_far (p := ⟨g135, _, none⟩) NB140_135.out _).trans (((cell_far (p := ⟨g135, _, none⟩) NB140_135.out _).trans (hL.2.2.2.2.2.2.2.2.2.1)))), ((cell_far (p := ⟨g135, _, none⟩) NB140_135.out _).trans (((cell_far (p := ⟨g135, _, none⟩) NB140_135.out _).trans (hL.2.2.2.2.2.2.2.2.2.2))))⟩ (fun hL => ?_)
   clear hK K
   refine done_ (done_of T_.out (by kernel_rfl)) ?_
   try go_wp2
   refine bodyPost_ret (results_cell_row rfl _ _ g135 36 #[.int .u64 (Int.tmod (IntKind.u64.wrap (t146 + t141)) t137), .int .u64 (Int.tmod (IntKind.u64.wrap (t147 + t142)) t137)] (0, 0) _ rfl (by refine blk_put (cs := #[.int .u64 (Int.tmod (IntKind.u64.wrap (t146 + t141)) t137), .int .u64 0]) ?_ 1 _ rfl; refine blk_put (cs := #[.int .u64 0, .int .u64 0]) ?_ 0 _ rfl; exact B135.out) Tryd.underlying36 rfl (by kernel_rfl)) rfl ?_
   exact ⟨by first | rfl | (simp [errW_none, errW_some] <;> rfl) | (simp [*, errW_none, errW_some] <;> rfl), by repeat (first | (with_reducible first | exact HB.out | apply below_alloc | apply pw_below_drewN | apply below_drew1 | refine below_set ?_ GE133.out | refine below_set ?_ GE134.out | refine below_set ?_ GE135.out | refine below_set ?_ GE140.out | refine below_set ?_ GE145.out | refine below_set ?_ GE150.out) | exact HB.out)⟩
 ·replace c5 := Bool.eq_false_iff.mpr c5
  subst c5
  have H1 : (some (0, 0)) = some (r1, r2) := by rw [if_neg (show ¬ (false = true) by decide)] at H; exact H
  clear H
  have H := H1
  clear H1
  simp only [Option.some.injEq, Prod.mk.injEq] at H
  obtain ⟨rfl, rfl⟩ := H
  go_enter Tryd.func36, Tryd.ntmps36
  go_wp2_with (first | ((with_reducible refine gate_dst (N := 4) rfl ?_); refine box_event ?hg (N := 4) ?hd (cs := #[.int .u64 a1_0, .int .u64 a1_1]) (t := 36) ?hr ?_; (case hd => rfl); (case hg => rfl); (case hr => first | (go_simp; done) | (go_simp; rfl)); intro g133 hg w44 hbox hb; have n0_ := Aside0.mk (below_step (by repeat (first | (with_reducible first | exact HB.out | apply below_alloc | apply pw_below_drewN | apply below_drew1) | exact HB.out)) hb); have n1_ := Aside0.mk (hbox); have n2_ := Aside0.mk ((by rw [hg]; exact (below_size (by repeat (first | (with_reducible first | exact HB.out | apply below_alloc | apply pw_below_drewN | apply below_drew1) | exact HB.out))) : w.heap.size ≤ g133)); have n3_ := Aside0.mk ((by rw [hg]; exact (below_size (by repeat (first | (with_reducible first | exact HB.out | apply below_alloc | apply pw_below_drewN | apply below_drew1) | exact HB.out))) : w.heap.size ≤ g133)); clear HB; have HB := n0_; have B133 := n1_; have GW133 := n2_; have GE133 := n3_; clear n0_ n1_ n2_ n3_; clear hb hbox hg) | ((with_reducible refine gate_dst (N := 5) rfl ?_); refine box_event ?hg (N := 5) ?hd (cs := #[.int .u64 a2_0, .int .u64 a2_1]) (t := 36) ?hr ?_; (case hd => rfl); (case hg => rfl); (case hr => first | (go_simp; done) | (go_simp; rfl)); intro g134 hg w45 hbox hb; have n0_ := Aside0.mk (blk_below (g := g133) (o := .cells #[.int .u64 a1_0, .int .u64 a1_1] 36 (0, 0)) (by exact B133.out) hb); have n1_ := Aside0.mk (below_step (by repeat (first | (with_reducible first | exact HB.out | apply below_alloc | apply pw_below_drewN | apply below_drew1 | refine below_set ?_ GE133.out) | exact HB.out)) hb); have n2_ := Aside0.mk (hbox); have n3_ := Aside0.mk ((by rw [hg]; exact (below_size (by repeat (first | (with_reducible first | exact HB.out | apply below_alloc | apply pw_below_drewN | apply below_drew1 | refine below_set ?_ GE133.out) | exact HB.out))) : w.heap.size ≤ g134)); have n4_ := Aside0.mk ((by rw [hg]; exact (below_size (by repeat (first | (with_reducible first | exact HB.out | apply below_alloc | apply pw_below_drewN | apply below_drew1 | refine below_set ?_ GE133.out) | exact HB.out))) : w.heap.size ≤ g134)); have n5_ := Aside0.mk ((by rw [hg]; exact Nat.ne_of_lt (blk_lt (g := g133) (o := .cells #[.int .u64 a1_0, .int .u64 a1_1] 36 (0, 0)) (by exact B133.out)) : g133 ≠ g134)); have n6_ := Aside0.mk ((by rw [hg]; exact Nat.ne_of_gt (blk_lt (g := g133) (o := .cells #[.int .u64 a1_0, .int .u64 a1_1] 36 (0, 0)) (by exact B133.out)) : g134 ≠ g133)); clear B133; clear HB; have B133 := n0_; have HB := n1_; have B134 := n2_; have GW134 := n3_; have GE134 := n4_; have NB133_134 := n5_; have NB134_133 := n6_; clear n0_ n1_ n2_ n3_ n4_ n5_ n6_; clear hb hbox hg) | ((with_reducible refine gate_dst (N := 6) rfl ?_); refine box_event ?hg (N := 6) ?hd (cs := #[.int .u64 0, .int .u64 0]) (t := 36) ?hr ?_; (case hd => rfl); (case hg => rfl); (case hr => first | (go_simp; done) | (go_simp; rfl)); intro g135 hg w46 hbox hb; have n0_ := Aside0.mk (blk_below (g := g133) (o := .cells #[.int .u64 a1_0, .int .u64 a1_1] 36 (0, 0)) (by exact B133.out) hb); have n1_ := Aside0.mk (blk_below (g := g134) (o := .cells #[.int .u64 a2_0, .int .u64 a2_1] 36 (0, 0)) (by exact B134.out) hb); have n2_ := Aside0.mk (below_step (by repeat (first | (with_reducible first | exact HB.out | apply below_alloc | apply pw_below_drewN | apply below_drew1 | refine below_set ?_ GE133.out | refine below_set ?_ GE134.out) | exact HB.out)) hb); have n3_ := Aside0.mk (hbox); have n4_ := Aside0.mk ((by rw [hg]; exact (below_size (by repeat (first | (with_reducible first | exact HB.out | apply below_alloc | apply pw_below_drewN | apply below_drew1 | refine below_set ?_ GE133.out | refine below_set ?_ GE134.out) | exact HB.out))) : w.heap.size ≤ g135)); have n5_ := Aside0.mk ((by rw [hg]; exact (below_size (by repeat (first | (with_reducible first | exact HB.out | apply below_alloc | apply pw_below_drewN | apply below_drew1 | refine below_set ?_ GE133.out | refine below_set ?_ GE134.out) | exact HB.out))) : w.heap.size ≤ g135)); have n6_ := Aside0.mk ((by rw [hg]; exact Nat.ne_of_lt (blk_lt (g := g133) (o := .cells #[.int .u64 a1_0, .int .u64 a1_1] 36 (0, 0)) (by exact B133.out)) : g133 ≠ g135)); have n7_ := Aside0.mk ((by rw [hg]; exact Nat.ne_of_gt (blk_lt (g := g133) (o := .cells #[.int .u64 a1_0, .int .u64 a1_1] 36 (0, 0)) (by exact B133.out)) : g135 ≠ g133)); have n8_ := Aside0.mk ((by rw [hg]; exact Nat.ne_of_lt (blk_lt (g := g134) (o := .cells #[.int .u64 a2_0, .int .u64 a2_1] 36 (0, 0)) (by exact B134.out)) : g134 ≠ g135)); have n9_ := Aside0.mk ((by rw [hg]; exact Nat.ne_of_gt (blk_lt (g := g134) (o := .cells #[.int .u64 a2_0, .int .u64 a2_1] 36 (0, 0)) (by exact B134.out)) : g135 ≠ g134)); clear B133; clear B134; clear HB; have B133 := n0_; have B134 := n1_; have HB := n2_; have B135 := n3_; have GW135 := n4_; have GE135 := n5_; have NB133_135 := n6_; have NB135_133 := n7_; have NB134_135 := n8_; have NB135_134 := n9_; clear n0_ n1_ n2_ n3_ n4_ n5_ n6_ n7_ n8_ n9_; clear hb hbox hg) | ((with_reducible refine gate_callee (f := 38) rfl ?_); refine goesL_ (some 11) rfl rfl Tryd.func38 (by kernel_rfl) rfl #[.int .i64 a0] rfl (by (try simp only [List.map_toArray, List.map_cons, List.map_nil]); first | done | rfl | (go_simp; done)) ?_; (with_reducible refine (field_Valid.calls a0 false _ A4.out).mono ?_); rintro e w' ⟨rfl, ⟨nd, rfl⟩⟩; refine ⟨_, rfl, ?_⟩; (try (rw [drewN_self w46]; generalize q_ : World.drewN w46 _ = w46; have n0_ : Aside0 (w46.heap[g133]? = some (.cells #[.int .u64 a1_0, .int .u64 a1_1] 36 (0, 0))) := ⟨by rw [← q_]; exact (by exact B133.out)⟩; have n1_ : Aside0 (w46.heap[g134]? = some (.cells #[.int .u64 a2_0, .int .u64 a2_1] 36 (0, 0))) := ⟨by rw [← q_]; exact (by exact B134.out)⟩; have n2_ : Aside0 (w46.heap[g135]? = some (.cells #[.int .u64 0, .int .u64 0] 36 (0, 0))) := ⟨by rw [← q_]; exact (by exact B135.out)⟩; have n3_ : Aside0 (Below w.heap.size w w46) := ⟨by rw [← q_]; exact (by repeat (first | (with_reducible first | exact HB.out | apply below_alloc | apply pw_below_drewN | apply below_drew1 | refine below_set ?_ GE133.out | refine below_set ?_ GE134.out | refine below_set ?_ GE135.out) | exact HB.out))⟩; clear B133 B134 B135 HB q_; have B133 := n0_; have B134 := n1_; have B135 := n2_; have HB := n3_; clear n0_ n1_ n2_ n3_)); have hnb47 := NB135_133.out; have hnc47 := NB133_135.out; have hnb48 := NB135_134.out; have hnc48 := NB134_135.out; have hcz49_0 : w46.cell? ⟨g135, 0, none⟩ = some (.int .u64 0) := bq_ B135 0; have hcz49_1 : w46.cell? ⟨g135, 1, none⟩ = some (.int .u64 0) := bq_ B135 1; have hfz49_0 := blk_frozen B135.out 0; have hfz49_1 := blk_frozen B135.out 1))
  refine bodyPost_ret (results_cell_row rfl _ _ g135 36 #[.int .u64 0, .int .u64 0] (0, 0) _ rfl (by refine blk_put (cs := #[.int .u64 0, .int .u64 0]) ?_ 1 _ rfl; refine blk_put (cs := #[.int .u64 0, .int .u64 0]) ?_ 0 _ rfl; exact B135.out) Tryd.underlying36 rfl (by kernel_rfl)) rfl ?_
  exact ⟨by first | rfl | (simp [errW_none, errW_some] <;> rfl) | (simp [*, errW_none, errW_some] <;> rfl), by repeat (first | (with_reducible first | exact HB.out | apply below_alloc | apply pw_below_drewN | apply below_drew1 | refine below_set ?_ GE133.out | refine below_set ?_ GE134.out | refine below_set ?_ GE135.out) | exact HB.out)⟩

end Go.Proofs.YtpnpmeogffodgaaDoor.Q
end
section
namespace Go.Proofs.YtpnpmeogffodgaaDoor.Q
open Go.RowKit Go.Proofs.YtpnpmeogffodgaaDoorW.PrintWords Go.Proofs.YtpnpmeogffodgaaDoorW.PrintLast Go.Proofs.YtpnpmeogffodgaaDoorW.PrintMore
set_option linter.unusedVariables false
set_option linter.unusedSimpArgs false
/-- A walk's state: the memory that lay when the caller began lies as it lay; of what lay when the call began all but the blocks of S lies as it lay. -/
def Stp (w0 w : World) (S : Nat → Prop) (W : World) : Prop := Below w0.heap.size w0 W ∧ Kept w W S
theorem stp_b {w0 w W : World} {S : Nat → Prop} (h : Stp w0 w S W) : Below w0.heap.size w0 W := h.1
theorem stp_k {w0 w W : World} {S : Nat → Prop} (h : Stp w0 w S W) : Kept w W S := h.2
theorem stp_below {w0 w W W1 : World} {S : Nat → Prop} (h : Stp w0 w S W) (hb : Below W.heap.size W W1) : Stp w0 w S W1 := ⟨below_step h.1 hb, h.2.below hb⟩
theorem new_ne {W : World} {h g : Nat} {o : Obj} (hb : W.heap[h]? = some o) (hg : g = W.heap.size) : h ≠ g := by
  have := blk_lt hb
  omega
theorem below_ne {W : World} {h g : Nat} {o : Obj} (hb : W.heap[h]? = some o) (hg : W.heap.size ≤ g) : h ≠ g := by
  have := blk_lt hb
  omega
theorem stp_new {w0 w W : World} {S : Nat → Prop} {g : Nat} (h : Stp w0 w S W) (hg : g = W.heap.size) : w0.heap.size ≤ g ∧ (S g ∨ w.heap.size ≤ g) := by
  subst hg
  exact ⟨h.1.size, .inr h.2.1⟩
theorem stp_set {w0 w W : World} {S : Nat → Prop} {g : Nat} (h : Stp w0 w S W) (hg : w0.heap.size ≤ g ∧ (S g ∨ w.heap.size ≤ g)) (j : Nat) (u : Value) : Stp w0 w S (W.setCell ⟨g, j, none⟩ u) := ⟨below_set h.1 hg.1, h.2.setCell (p := ⟨g, j, none⟩) hg.2 u⟩
theorem stp_drewN {w0 w W : World} {S : Nat → Prop} (h : Stp w0 w S W) (n : Nat) : Stp w0 w S (W.drewN n) := ⟨pw_below_drewN h.1 n, h.2⟩
theorem stp_drew {w0 w W : World} {S : Nat → Prop} (h : Stp w0 w S W) : Stp w0 w S W.drew := ⟨h.1.drew, h.2⟩
theorem stp_trans {w0 w W W1 : World} {S S2 : Nat → Prop} (h : Stp w0 w S W) (k : Stp w0 W S2 W1) (hs : ∀ g, S2 g → S g ∨ w.heap.size ≤ g) : Stp w0 w S W1 := ⟨k.1, h.2.then_ k.2 hs⟩
set_option maxHeartbeats 2000000 in
set_option maxRecDepth 100000 in
/-- The closure, at an even place. -/
theorem climber1_even (f i x0 x1 p0 p1 n0 n1 : Int) (gf gi gx : Nat) (w0 w : World) (hG : GL w0) (hS : Below w0.heap.size w0 w) (bf : w.heap[gf]? = some (.cells #[.int .i64 f] 3 (0, 0))) (bi : w.heap[gi]? = some (.cells #[.int .i64 i] 3 (0, 0))) (bx : w.heap[gx]? = some (.cells #[.int .u64 x0, .int .u64 x1] 36 (0, 0)))
    (nfi : gf ≠ gi) (hgf : w0.heap.size ≤ gf) (hgi : w0.heap.size ≤ gi) (hgx : w0.heap.size ≤ gx) (ho : (Go.bits .and .i64 i 1 == 1) = false) (h : sponge_Node.f 200 f x0 x1 p0 p1 = some (n0, n1)) :
    Calls Tryd.prog 64 #[.agg #[.int .u64 p0, .int .u64 p1], .pointer (some ⟨gx, 0, none⟩), .pointer (some ⟨gi, 0, none⟩), .pointer (some ⟨gf, 0, none⟩)] w fun e w' => e = .returned (.tuple #[.agg #[.int .u64 x0, .int .u64 x1, .int .u64 p0, .int .u64 p1], .agg #[.int .u64 n0, .int .u64 n1]]) ∧ Stp w0 w (fun k => k = gi ∨ k = gx) w'
      ∧ w'.heap[gf]? = some (.cells #[.int .i64 f] 3 (0, 0)) ∧ w'.heap[gi]? = some (.cells #[.int .i64 (i / 2)] 3 (0, 0)) ∧ w'.heap[gx]? = some (.cells #[.int .u64 n0, .int .u64 n1] 36 (0, 0)) := by
  have hu36 := Tryd.underlying36
  have hu48 := Tryd.underlying48
  have HRG := Aside0.mk hG
  have A := Aside0.mk h
  have B_gf := Aside0.mk bf
  have B_gi := Aside0.mk bi
  have B_gx := Aside0.mk bx
  have nfx : gf ≠ gx := blk_ne bf bx (by decide)
  have nix : gi ≠ gx := blk_ne bi bx (by decide)
  have N_gf_gi := Aside0.mk nfi
  have N_gi_gf := Aside0.mk nfi.symm
  have N_gf_gx := Aside0.mk nfx
  have N_gx_gf := Aside0.mk nfx.symm
  have N_gi_gx := Aside0.mk nix
  have N_gx_gi := Aside0.mk nix.symm
  generalize hSS : (fun k : Nat => k = gi ∨ k = gx) = S
  have G_gi : Aside0 (w0.heap.size ≤ gi ∧ (S gi ∨ w.heap.size ≤ gi)) := ⟨hgi, .inl (hSS ▸ .inl rfl)⟩
  have G_gx : Aside0 (w0.heap.size ≤ gx ∧ (S gx ∨ w.heap.size ≤ gx)) := ⟨hgx, .inl (hSS ▸ .inr rfl)⟩
  have HS : Aside0 (Stp w0 w S w) := ⟨hS, Kept.refl _ _⟩
  clear h hG hS bf bi bx nfi nfx nix hgf hgi hgx hSS
  have c_gf_0 : w.cell? ⟨gf, 0, none⟩ = some (.int .i64 f) := (blk_cell B_gf.out 0).trans rfl
  have f_gf_0 := blk_frozen B_gf.out 0
  have c_gi_0 : w.cell? ⟨gi, 0, none⟩ = some (.int .i64 i) := (blk_cell B_gi.out 0).trans rfl
  have f_gi_0 := blk_frozen B_gi.out 0
  have c_gx_0 : w.cell? ⟨gx, 0, none⟩ = some (.int .u64 x0) := (blk_cell B_gx.out 0).trans rfl
  have f_gx_0 := blk_frozen B_gx.out 0
  have c_gx_1 : w.cell? ⟨gx, 1, none⟩ = some (.int .u64 x1) := (blk_cell B_gx.out 1).trans rfl
  have f_gx_1 := blk_frozen B_gx.out 1
  have n_gf_gi := N_gf_gi.out
  have n_gf_gx := N_gf_gx.out
  have n_gi_gf := N_gi_gf.out
  have n_gi_gx := N_gi_gx.out
  have n_gx_gf := N_gx_gf.out
  have n_gx_gi := N_gx_gi.out
  go_enter Tryd.func64, Tryd.ntmps64
  go_wp2_with (first
    | ((with_reducible refine gate_dst (N := 4) rfl ?_); refine box_event ?hg (N := 4) ?hd (cs := #[.int .u64 p0, .int .u64 p1]) (t := 36) ?hr ?_; (case hd => rfl); (case hg => rfl); (case hr => first | (go_simp; done) | (go_simp; rfl)); intro gp xg w1 y_ hb; clear c_gf_0 f_gf_0 c_gi_0 f_gi_0 c_gx_0 f_gx_0 c_gx_1 f_gx_1; have N_gf_gp := Aside0.mk (new_ne B_gf.out xg); have N_gp_gf := Aside0.mk N_gf_gp.out.symm; have N_gi_gp := Aside0.mk (new_ne B_gi.out xg); have N_gp_gi := Aside0.mk N_gi_gp.out.symm; have N_gx_gp := Aside0.mk (new_ne B_gx.out xg); have N_gp_gx := Aside0.mk N_gx_gp.out.symm; have G_gp := Aside0.mk (stp_new HS.out xg); replace B_gf := Aside0.mk (show w1.heap[gf]? = some (.cells #[.int .i64 f] 3 (0, 0)) from blk_below B_gf.out hb); replace B_gi := Aside0.mk (show w1.heap[gi]? = some (.cells #[.int .i64 i] 3 (0, 0)) from blk_below B_gi.out hb); replace B_gx := Aside0.mk (show w1.heap[gx]? = some (.cells #[.int .u64 x0, .int .u64 x1] 36 (0, 0)) from blk_below B_gx.out hb); replace HS := Aside0.mk (show Stp w0 w S w1 from stp_below HS.out hb); have B_gp := Aside0.mk y_; clear xg y_ hb; skip)
    | ((with_reducible refine gate_dst (N := 5) rfl ?_); refine box_event ?hg (N := 5) ?hd (cs := #[.int .u64 0, .int .u64 0, .int .u64 0, .int .u64 0]) (t := 48) ?hr ?_; (case hd => rfl); (case hg => rfl); (case hr => first | (go_simp; done) | (go_simp; rfl)); intro g5 xg w2 y_ hb; skip; have N_gf_g5 := Aside0.mk (new_ne B_gf.out xg); have N_g5_gf := Aside0.mk N_gf_g5.out.symm; have N_gi_g5 := Aside0.mk (new_ne B_gi.out xg); have N_g5_gi := Aside0.mk N_gi_g5.out.symm; have N_gx_g5 := Aside0.mk (new_ne B_gx.out xg); have N_g5_gx := Aside0.mk N_gx_g5.out.symm; have N_gp_g5 := Aside0.mk (new_ne B_gp.out xg); have N_g5_gp := Aside0.mk N_gp_g5.out.symm; have G_g5 := Aside0.mk (stp_new HS.out xg); replace B_gf := Aside0.mk (show w2.heap[gf]? = some (.cells #[.int .i64 f] 3 (0, 0)) from blk_below B_gf.out hb); replace B_gi := Aside0.mk (show w2.heap[gi]? = some (.cells #[.int .i64 i] 3 (0, 0)) from blk_below B_gi.out hb); replace B_gx := Aside0.mk (show w2.heap[gx]? = some (.cells #[.int .u64 x0, .int .u64 x1] 36 (0, 0)) from blk_below B_gx.out hb); replace B_gp := Aside0.mk (show w2.heap[gp]? = some (.cells #[.int .u64 p0, .int .u64 p1] 36 (0, 0)) from blk_below B_gp.out hb); replace HS := Aside0.mk (show Stp w0 w S w2 from stp_below HS.out hb); have B_g5 := Aside0.mk y_; clear xg y_ hb; skip)
    | ((with_reducible refine gate_dst (N := 6) rfl ?_); refine box_event ?hg (N := 6) ?hd (cs := #[.int .u64 0, .int .u64 0]) (t := 36) ?hr ?_; (case hd => rfl); (case hg => rfl); (case hr => first | (go_simp; done) | (go_simp; rfl)); intro g6 xg w3 y_ hb; skip; have N_gf_g6 := Aside0.mk (new_ne B_gf.out xg); have N_g6_gf := Aside0.mk N_gf_g6.out.symm; have N_gi_g6 := Aside0.mk (new_ne B_gi.out xg); have N_g6_gi := Aside0.mk N_gi_g6.out.symm; have N_gx_g6 := Aside0.mk (new_ne B_gx.out xg); have N_g6_gx := Aside0.mk N_gx_g6.out.symm; have N_gp_g6 := Aside0.mk (new_ne B_gp.out xg); have N_g6_gp := Aside0.mk N_gp_g6.out.symm; have N_g5_g6 := Aside0.mk (new_ne B_g5.out xg); have N_g6_g5 := Aside0.mk N_g5_g6.out.symm; have G_g6 := Aside0.mk (stp_new HS.out xg); replace B_gf := Aside0.mk (show w3.heap[gf]? = some (.cells #[.int .i64 f] 3 (0, 0)) from blk_below B_gf.out hb); replace B_gi := Aside0.mk (show w3.heap[gi]? = some (.cells #[.int .i64 i] 3 (0, 0)) from blk_below B_gi.out hb); replace B_gx := Aside0.mk (show w3.heap[gx]? = some (.cells #[.int .u64 x0, .int .u64 x1] 36 (0, 0)) from blk_below B_gx.out hb); replace B_gp := Aside0.mk (show w3.heap[gp]? = some (.cells #[.int .u64 p0, .int .u64 p1] 36 (0, 0)) from blk_below B_gp.out hb); replace B_g5 := Aside0.mk (show w3.heap[g5]? = some (.cells #[.int .u64 0, .int .u64 0, .int .u64 0, .int .u64 0] 48 (0, 0)) from blk_below B_g5.out hb); replace HS := Aside0.mk (show Stp w0 w S w3 from stp_below HS.out hb); have B_g6 := Aside0.mk y_; clear xg y_ hb; have c_gx_0 : w3.cell? ⟨gx, 0, none⟩ = some (.int .u64 x0) := (blk_cell B_gx.out 0).trans rfl; have f_gx_0 := blk_frozen B_gx.out 0; have c_gx_1 : w3.cell? ⟨gx, 1, none⟩ = some (.int .u64 x1) := (blk_cell B_gx.out 1).trans rfl; have f_gx_1 := blk_frozen B_gx.out 1; have c_gp_0 : w3.cell? ⟨gp, 0, none⟩ = some (.int .u64 p0) := (blk_cell B_gp.out 0).trans rfl; have f_gp_0 := blk_frozen B_gp.out 0; have c_gp_1 : w3.cell? ⟨gp, 1, none⟩ = some (.int .u64 p1) := (blk_cell B_gp.out 1).trans rfl; have f_gp_1 := blk_frozen B_gp.out 1)
    | ((with_reducible refine gate_dst (N := 7) rfl ?_); refine box_event ?hg (N := 7) ?hd (cs := #[.int .u64 0, .int .u64 0, .int .u64 0, .int .u64 0]) (t := 48) ?hr ?_; (case hd => rfl); (case hg => rfl); (case hr => first | (go_simp; done) | (go_simp; rfl)); intro g7 xg w4 y_ hb; clear c_gx_0 f_gx_0 c_gx_1 f_gx_1 c_gp_0 f_gp_0 c_gp_1 f_gp_1; have N_gf_g7 := Aside0.mk (new_ne B_gf.out xg); have N_g7_gf := Aside0.mk N_gf_g7.out.symm; have N_gi_g7 := Aside0.mk (new_ne B_gi.out xg); have N_g7_gi := Aside0.mk N_gi_g7.out.symm; have N_gx_g7 := Aside0.mk (new_ne B_gx.out xg); have N_g7_gx := Aside0.mk N_gx_g7.out.symm; have N_gp_g7 := Aside0.mk (new_ne B_gp.out xg); have N_g7_gp := Aside0.mk N_gp_g7.out.symm; have N_g5_g7 := Aside0.mk (new_ne B_g5.out xg); have N_g7_g5 := Aside0.mk N_g5_g7.out.symm; have N_g6_g7 := Aside0.mk (new_ne B_g6.out xg); have N_g7_g6 := Aside0.mk N_g6_g7.out.symm; have G_g7 := Aside0.mk (stp_new HS.out xg); replace B_gf := Aside0.mk (show w4.heap[gf]? = some (.cells #[.int .i64 f] 3 (0, 0)) from blk_below B_gf.out hb); replace B_gi := Aside0.mk (show w4.heap[gi]? = some (.cells #[.int .i64 i] 3 (0, 0)) from blk_below B_gi.out hb); replace B_gx := Aside0.mk (show w4.heap[gx]? = some (.cells #[.int .u64 x0, .int .u64 x1] 36 (0, 0)) from blk_below B_gx.out hb); replace B_gp := Aside0.mk (show w4.heap[gp]? = some (.cells #[.int .u64 p0, .int .u64 p1] 36 (0, 0)) from blk_below B_gp.out hb); replace B_g5 := Aside0.mk (show w4.heap[g5]? = some (.cells #[.int .u64 0, .int .u64 0, .int .u64 0, .int .u64 0] 48 (0, 0)) from blk_below B_g5.out hb); replace B_g6 := Aside0.mk (show w4.heap[g6]? = some (.cells #[.int .u64 0, .int .u64 0] 36 (0, 0)) from blk_below B_g6.out hb); replace HS := Aside0.mk (show Stp w0 w S w4 from stp_below HS.out hb); have B_g7 := Aside0.mk y_; clear xg y_ hb; have c_g7_0 : w4.cell? ⟨g7, 0, none⟩ = some (.int .u64 0) := (blk_cell B_g7.out 0).trans rfl; have f_g7_0 := blk_frozen B_g7.out 0; have c_g7_1 : w4.cell? ⟨g7, 1, none⟩ = some (.int .u64 0) := (blk_cell B_g7.out 1).trans rfl; have f_g7_1 := blk_frozen B_g7.out 1; have c_g7_2 : w4.cell? ⟨g7, 2, none⟩ = some (.int .u64 0) := (blk_cell B_g7.out 2).trans rfl; have f_g7_2 := blk_frozen B_g7.out 2; have c_g7_3 : w4.cell? ⟨g7, 3, none⟩ = some (.int .u64 0) := (blk_cell B_g7.out 3).trans rfl; have f_g7_3 := blk_frozen B_g7.out 3)
    | ((with_reducible refine gate_store (t := 48) (p := 7) rfl ?_); refine store_event (t := 48) (p := 7) (v := .tmp 10) (w1 := ((((w4.setCell ⟨g7, 0, none⟩ (.int .u64 x0)).setCell ⟨g7, 1, none⟩ (.int .u64 x1)).setCell ⟨g7, 2, none⟩ (.int .u64 p0)).setCell ⟨g7, 3, none⟩ (.int .u64 p1))) ?hg ?ho ?hn ?hr ?_; (case ho => rfl); (case hg => rfl); (case hn => rfl); (case hr => first | (go_simp; done) | (go_simp; rfl)); intro w5 hw; clear c_g7_0 f_g7_0 c_g7_1 f_g7_1 c_g7_2 f_g7_2 c_g7_3 f_g7_3; replace B_gf := Aside0.mk (show w5.heap[gf]? = some (.cells #[.int .i64 f] 3 (0, 0)) from (by rw [hw]; (repeat (refine blk_far ?_ N_gf_g7.out _)); exact B_gf.out)); replace B_gi := Aside0.mk (show w5.heap[gi]? = some (.cells #[.int .i64 i] 3 (0, 0)) from (by rw [hw]; (repeat (refine blk_far ?_ N_gi_g7.out _)); exact B_gi.out)); replace B_gx := Aside0.mk (show w5.heap[gx]? = some (.cells #[.int .u64 x0, .int .u64 x1] 36 (0, 0)) from (by rw [hw]; (repeat (refine blk_far ?_ N_gx_g7.out _)); exact B_gx.out)); replace B_gp := Aside0.mk (show w5.heap[gp]? = some (.cells #[.int .u64 p0, .int .u64 p1] 36 (0, 0)) from (by rw [hw]; (repeat (refine blk_far ?_ N_gp_g7.out _)); exact B_gp.out)); replace B_g5 := Aside0.mk (show w5.heap[g5]? = some (.cells #[.int .u64 0, .int .u64 0, .int .u64 0, .int .u64 0] 48 (0, 0)) from (by rw [hw]; (repeat (refine blk_far ?_ N_g5_g7.out _)); exact B_g5.out)); replace B_g6 := Aside0.mk (show w5.heap[g6]? = some (.cells #[.int .u64 0, .int .u64 0] 36 (0, 0)) from (by rw [hw]; (repeat (refine blk_far ?_ N_g6_g7.out _)); exact B_g6.out)); replace B_g7 := Aside0.mk (show w5.heap[g7]? = some (.cells #[.int .u64 x0, .int .u64 x1, .int .u64 p0, .int .u64 p1] 48 (0, 0)) from (by rw [hw]; exact (blk_put (cs := #[.int .u64 x0, .int .u64 x1, .int .u64 p0, .int .u64 0]) (blk_put (cs := #[.int .u64 x0, .int .u64 x1, .int .u64 0, .int .u64 0]) (blk_put (cs := #[.int .u64 x0, .int .u64 0, .int .u64 0, .int .u64 0]) (blk_put (cs := #[.int .u64 0, .int .u64 0, .int .u64 0, .int .u64 0]) B_g7.out 0 (.int .u64 x0) rfl) 1 (.int .u64 x1) rfl) 2 (.int .u64 p0) rfl) 3 (.int .u64 p1) rfl))); replace HS := Aside0.mk (show Stp w0 w S w5 from (by rw [hw]; exact (stp_set (stp_set (stp_set (stp_set HS.out G_g7.out 0 (.int .u64 x0)) G_g7.out 1 (.int .u64 x1)) G_g7.out 2 (.int .u64 p0)) G_g7.out 3 (.int .u64 p1)))); clear hw; have c_gi_0 : w5.cell? ⟨gi, 0, none⟩ = some (.int .i64 i) := (blk_cell B_gi.out 0).trans rfl; have f_gi_0 := blk_frozen B_gi.out 0)
    | ((with_reducible refine gate_store (t := 3) (p := 2) rfl ?_); refine store_event (t := 3) (p := 2) (v := .tmp 18) (w1 := (w5.setCell ⟨gi, 0, none⟩ (.int .i64 (i / 2)))) ?hg ?ho ?hn ?hr ?_; (case ho => rfl); (case hg => rfl); (case hn => rfl); (case hr => first | (go_simp; done) | (go_simp; rfl)); intro w7 hw; clear c_gi_0 f_gi_0; replace B_gf := Aside0.mk (show w7.heap[gf]? = some (.cells #[.int .i64 f] 3 (0, 0)) from (by rw [hw]; (repeat (refine blk_far ?_ N_gf_gi.out _)); exact B_gf.out)); replace B_gi := Aside0.mk (show w7.heap[gi]? = some (.cells #[.int .i64 (i / 2)] 3 (0, 0)) from (by rw [hw]; exact (blk_put (cs := #[.int .i64 i]) B_gi.out 0 (.int .i64 (i / 2)) rfl))); replace B_gx := Aside0.mk (show w7.heap[gx]? = some (.cells #[.int .u64 x0, .int .u64 x1] 36 (0, 0)) from (by rw [hw]; (repeat (refine blk_far ?_ N_gx_gi.out _)); exact B_gx.out)); replace B_gp := Aside0.mk (show w7.heap[gp]? = some (.cells #[.int .u64 p0, .int .u64 p1] 36 (0, 0)) from (by rw [hw]; (repeat (refine blk_far ?_ N_gp_gi.out _)); exact B_gp.out)); replace B_g5 := Aside0.mk (show w7.heap[g5]? = some (.cells #[.int .u64 0, .int .u64 0, .int .u64 0, .int .u64 0] 48 (0, 0)) from (by rw [hw]; (repeat (refine blk_far ?_ N_g5_gi.out _)); exact B_g5.out)); replace B_g6 := Aside0.mk (show w7.heap[g6]? = some (.cells #[.int .u64 0, .int .u64 0] 36 (0, 0)) from (by rw [hw]; (repeat (refine blk_far ?_ N_g6_gi.out _)); exact B_g6.out)); replace B_g7 := Aside0.mk (show w7.heap[g7]? = some (.cells #[.int .u64 x0, .int .u64 x1, .int .u64 p0, .int .u64 p1] 48 (0, 0)) from (by rw [hw]; (repeat (refine blk_far ?_ N_g7_gi.out _)); exact B_g7.out)); replace HS := Aside0.mk (show Stp w0 w S w7 from (by rw [hw]; exact (stp_set HS.out G_gi.out 0 (.int .i64 (i / 2))))); clear hw; have c_gf_0 : w7.cell? ⟨gf, 0, none⟩ = some (.int .i64 f) := (blk_cell B_gf.out 0).trans rfl; have f_gf_0 := blk_frozen B_gf.out 0; have c_g7_0 : w7.cell? ⟨g7, 0, none⟩ = some (.int .u64 x0) := (blk_cell B_g7.out 0).trans rfl; have f_g7_0 := blk_frozen B_g7.out 0; have c_g7_1 : w7.cell? ⟨g7, 1, none⟩ = some (.int .u64 x1) := (blk_cell B_g7.out 1).trans rfl; have f_g7_1 := blk_frozen B_g7.out 1; have c_g7_2 : w7.cell? ⟨g7, 2, none⟩ = some (.int .u64 p0) := (blk_cell B_g7.out 2).trans rfl; have f_g7_2 := blk_frozen B_g7.out 2; have c_g7_3 : w7.cell? ⟨g7, 3, none⟩ = some (.int .u64 p1) := (blk_cell B_g7.out 3).trans rfl; have f_g7_3 := blk_frozen B_g7.out 3)
    | (go_at_call 36; (with_reducible refine (sponge_Node.calls 200 f x0 x1 p0 p1 n0 n1 _ (GL.below HRG.out (stp_b HS.out)) A.out).mono ?_); rintro e w8 ⟨rfl, hb⟩; clear c_gf_0 f_gf_0 c_g7_0 f_g7_0 c_g7_1 f_g7_1 c_g7_2 f_g7_2 c_g7_3 f_g7_3; replace B_gf := Aside0.mk (show w8.heap[gf]? = some (.cells #[.int .i64 f] 3 (0, 0)) from blk_below B_gf.out hb); replace B_gi := Aside0.mk (show w8.heap[gi]? = some (.cells #[.int .i64 (i / 2)] 3 (0, 0)) from blk_below B_gi.out hb); replace B_gx := Aside0.mk (show w8.heap[gx]? = some (.cells #[.int .u64 x0, .int .u64 x1] 36 (0, 0)) from blk_below B_gx.out hb); replace B_gp := Aside0.mk (show w8.heap[gp]? = some (.cells #[.int .u64 p0, .int .u64 p1] 36 (0, 0)) from blk_below B_gp.out hb); replace B_g5 := Aside0.mk (show w8.heap[g5]? = some (.cells #[.int .u64 0, .int .u64 0, .int .u64 0, .int .u64 0] 48 (0, 0)) from blk_below B_g5.out hb); replace B_g6 := Aside0.mk (show w8.heap[g6]? = some (.cells #[.int .u64 0, .int .u64 0] 36 (0, 0)) from blk_below B_g6.out hb); replace B_g7 := Aside0.mk (show w8.heap[g7]? = some (.cells #[.int .u64 x0, .int .u64 x1, .int .u64 p0, .int .u64 p1] 48 (0, 0)) from blk_below B_g7.out hb); replace HS := Aside0.mk (show Stp w0 w S w8 from stp_below HS.out hb); clear hb; have c_gx_0 : w8.cell? ⟨gx, 0, none⟩ = some (.int .u64 x0) := (blk_cell B_gx.out 0).trans rfl; have f_gx_0 := blk_frozen B_gx.out 0; have c_gx_1 : w8.cell? ⟨gx, 1, none⟩ = some (.int .u64 x1) := (blk_cell B_gx.out 1).trans rfl; have f_gx_1 := blk_frozen B_gx.out 1)
    | ((with_reducible refine gate_store (t := 36) (p := 1) rfl ?_); refine store_event (t := 36) (p := 1) (v := .tmp 24) (w1 := ((w8.setCell ⟨gx, 0, none⟩ (.int .u64 n0)).setCell ⟨gx, 1, none⟩ (.int .u64 n1))) ?hg ?ho ?hn ?hr ?_; (case ho => rfl); (case hg => rfl); (case hn => rfl); (case hr => first | (go_simp; done) | (go_simp; rfl)); intro w9 hw; clear c_gx_0 f_gx_0 c_gx_1 f_gx_1; replace B_gf := Aside0.mk (show w9.heap[gf]? = some (.cells #[.int .i64 f] 3 (0, 0)) from (by rw [hw]; (repeat (refine blk_far ?_ N_gf_gx.out _)); exact B_gf.out)); replace B_gi := Aside0.mk (show w9.heap[gi]? = some (.cells #[.int .i64 (i / 2)] 3 (0, 0)) from (by rw [hw]; (repeat (refine blk_far ?_ N_gi_gx.out _)); exact B_gi.out)); replace B_gx := Aside0.mk (show w9.heap[gx]? = some (.cells #[.int .u64 n0, .int .u64 n1] 36 (0, 0)) from (by rw [hw]; exact (blk_put (cs := #[.int .u64 n0, .int .u64 x1]) (blk_put (cs := #[.int .u64 x0, .int .u64 x1]) B_gx.out 0 (.int .u64 n0) rfl) 1 (.int .u64 n1) rfl))); replace B_gp := Aside0.mk (show w9.heap[gp]? = some (.cells #[.int .u64 p0, .int .u64 p1] 36 (0, 0)) from (by rw [hw]; (repeat (refine blk_far ?_ N_gp_gx.out _)); exact B_gp.out)); replace B_g5 := Aside0.mk (show w9.heap[g5]? = some (.cells #[.int .u64 0, .int .u64 0, .int .u64 0, .int .u64 0] 48 (0, 0)) from (by rw [hw]; (repeat (refine blk_far ?_ N_g5_gx.out _)); exact B_g5.out)); replace B_g6 := Aside0.mk (show w9.heap[g6]? = some (.cells #[.int .u64 0, .int .u64 0] 36 (0, 0)) from (by rw [hw]; (repeat (refine blk_far ?_ N_g6_gx.out _)); exact B_g6.out)); replace B_g7 := Aside0.mk (show w9.heap[g7]? = some (.cells #[.int .u64 x0, .int .u64 x1, .int .u64 p0, .int .u64 p1] 48 (0, 0)) from (by rw [hw]; (repeat (refine blk_far ?_ N_g7_gx.out _)); exact B_g7.out)); replace HS := Aside0.mk (show Stp w0 w S w9 from (by rw [hw]; exact (stp_set (stp_set HS.out G_gx.out 0 (.int .u64 n0)) G_gx.out 1 (.int .u64 n1)))); clear hw; skip))
  skip
  replace B_gf : Aside0 (w9.drew.heap[gf]? = some (.cells #[.int .i64 f] 3 (0, 0))) := ⟨B_gf.out⟩
  replace B_gi : Aside0 (w9.drew.heap[gi]? = some (.cells #[.int .i64 (i / 2)] 3 (0, 0))) := ⟨B_gi.out⟩
  replace B_gx : Aside0 (w9.drew.heap[gx]? = some (.cells #[.int .u64 n0, .int .u64 n1] 36 (0, 0))) := ⟨B_gx.out⟩
  replace B_gp : Aside0 (w9.drew.heap[gp]? = some (.cells #[.int .u64 p0, .int .u64 p1] 36 (0, 0))) := ⟨B_gp.out⟩
  replace B_g5 : Aside0 (w9.drew.heap[g5]? = some (.cells #[.int .u64 0, .int .u64 0, .int .u64 0, .int .u64 0] 48 (0, 0))) := ⟨B_g5.out⟩
  replace B_g6 : Aside0 (w9.drew.heap[g6]? = some (.cells #[.int .u64 0, .int .u64 0] 36 (0, 0))) := ⟨B_g6.out⟩
  replace B_g7 : Aside0 (w9.drew.heap[g7]? = some (.cells #[.int .u64 x0, .int .u64 x1, .int .u64 p0, .int .u64 p1] 48 (0, 0))) := ⟨B_g7.out⟩
  replace HS : Aside0 (Stp w0 w S w9.drew) := ⟨stp_drew HS.out⟩
  refine start_ (n := 4) (S := fun w' => w'.cell? ⟨g7, 0, none⟩ = some (.int .u64 x0) ∧ w'.cell? ⟨g7, 1, none⟩ = some (.int .u64 x1) ∧ w'.cell? ⟨g7, 2, none⟩ = some (.int .u64 p0) ∧ w'.cell? ⟨g7, 3, none⟩ = some (.int .u64 p1) ∧ w'.cell? ⟨gx, 0, none⟩ = some (.int .u64 n0) ∧ w'.cell? ⟨gx, 1, none⟩ = some (.int .u64 n1)) (ds := []) #[false, false, false, false] (by kernel_rfl) rfl rfl ⟨(blk_cell B_g7.out 0).trans rfl, (blk_cell B_g7.out 1).trans rfl, (blk_cell B_g7.out 2).trans rfl, (blk_cell B_g7.out 3).trans rfl, (blk_cell B_gx.out 0).trans rfl, (blk_cell B_gx.out 1).trans rfl⟩ (fun hHeld => ?_)
  generalize w9.drew = w10 at B_gf B_gi B_gx B_gp B_g5 B_g6 B_g7 HS hHeld ⊢
  refine take_ (i := 0) (N := some 25) (v := ?_) (a' := ?_) #[true, false, false, false] rfl rfl (by kernel_rfl) (fun _ _ _ h => h) (Or.inl ⟨by rfl, ?_⟩) hHeld ?_ ?_
  rotate_left
  · rintro w' ⟨s0, s1, s2, s3, s4, s5⟩
    go_simp
    with_reducible rfl
  rotate_left
  · simp only [Act.put, List.setIfInBounds_toArray, List.set_cons_zero, List.set_cons_succ, i64_w, i32_w]
    rfl
  refine take_ (i := 1) (N := some 26) (v := ?_) (a' := ?_) #[true, true, false, false] rfl rfl (by kernel_rfl) (fun _ _ _ h => h) (Or.inl ⟨by rfl, ?_⟩) hHeld ?_ ?_
  rotate_left
  · rintro w' ⟨s0, s1, s2, s3, s4, s5⟩
    go_simp
    with_reducible rfl
  rotate_left
  · simp only [Act.put, List.setIfInBounds_toArray, List.set_cons_zero, List.set_cons_succ, i64_w, i32_w]
    rfl
  have n_gf_gi := N_gf_gi.out
  have n_gf_gx := N_gf_gx.out
  have n_gf_gp := N_gf_gp.out
  have n_gf_g5 := N_gf_g5.out
  have n_gf_g6 := N_gf_g6.out
  have n_gf_g7 := N_gf_g7.out
  have n_gi_gf := N_gi_gf.out
  have n_gi_gx := N_gi_gx.out
  have n_gi_gp := N_gi_gp.out
  have n_gi_g5 := N_gi_g5.out
  have n_gi_g6 := N_gi_g6.out
  have n_gi_g7 := N_gi_g7.out
  have n_gx_gf := N_gx_gf.out
  have n_gx_gi := N_gx_gi.out
  have n_gx_gp := N_gx_gp.out
  have n_gx_g5 := N_gx_g5.out
  have n_gx_g6 := N_gx_g6.out
  have n_gx_g7 := N_gx_g7.out
  have n_gp_gf := N_gp_gf.out
  have n_gp_gi := N_gp_gi.out
  have n_gp_gx := N_gp_gx.out
  have n_gp_g5 := N_gp_g5.out
  have n_gp_g6 := N_gp_g6.out
  have n_gp_g7 := N_gp_g7.out
  have n_g5_gf := N_g5_gf.out
  have n_g5_gi := N_g5_gi.out
  have n_g5_gx := N_g5_gx.out
  have n_g5_gp := N_g5_gp.out
  have n_g5_g6 := N_g5_g6.out
  have n_g5_g7 := N_g5_g7.out
  have n_g6_gf := N_g6_gf.out
  have n_g6_gi := N_g6_gi.out
  have n_g6_gx := N_g6_gx.out
  have n_g6_gp := N_g6_gp.out
  have n_g6_g5 := N_g6_g5.out
  have n_g6_g7 := N_g6_g7.out
  have n_g7_gf := N_g7_gf.out
  have n_g7_gi := N_g7_gi.out
  have n_g7_gx := N_g7_gx.out
  have n_g7_gp := N_g7_gp.out
  have n_g7_g5 := N_g7_g5.out
  have n_g7_g6 := N_g7_g6.out
  refine one_ (i := 2) (N := none) #[true, true, true, false] rfl rfl (by kernel_rfl) (by decide) (fun K hK => ?_)
  have c_g5_0 : w10.cell? ⟨g5, 0, none⟩ = some (.int .u64 0) := (blk_cell B_g5.out 0).trans rfl
  have f_g5_0 := blk_frozen B_g5.out 0
  have c_g5_1 : w10.cell? ⟨g5, 1, none⟩ = some (.int .u64 0) := (blk_cell B_g5.out 1).trans rfl
  have f_g5_1 := blk_frozen B_g5.out 1
  have c_g5_2 : w10.cell? ⟨g5, 2, none⟩ = some (.int .u64 0) := (blk_cell B_g5.out 2).trans rfl
  have f_g5_2 := blk_frozen B_g5.out 2
  have c_g5_3 : w10.cell? ⟨g5, 3, none⟩ = some (.int .u64 0) := (blk_cell B_g5.out 3).trans rfl
  have f_g5_3 := blk_frozen B_g5.out 3
  refine skip_ (w1 := ?_) (by rfl) rfl ?_ ?_
  rotate_left
  · go_simp
    rfl
  refine hK.out _ _ ⟨(cell_far (p := ⟨g5, _, none⟩) N_g7_g5.out _).trans ((cell_far (p := ⟨g5, _, none⟩) N_g7_g5.out _).trans ((cell_far (p := ⟨g5, _, none⟩) N_g7_g5.out _).trans ((cell_far (p := ⟨g5, _, none⟩) N_g7_g5.out _).trans (hHeld.1)))), (cell_far (p := ⟨g5, _, none⟩) N_g7_g5.out _).trans ((cell_far (p := ⟨g5, _, none⟩) N_g7_g5.out _).trans ((cell_far (p := ⟨g5, _, none⟩) N_g7_g5.out _).trans ((cell_far (p := ⟨g5, _, none⟩) N_g7_g5.out _).trans (hHeld.2.1)))), (cell_far (p := ⟨g5, _, none⟩) N_g7_g5.out _).trans ((cell_far (p := ⟨g5, _, none⟩) N_g7_g5.out _).trans ((cell_far (p := ⟨g5, _, none⟩) N_g7_g5.out _).trans ((cell_far (p := ⟨g5, _, none⟩) N_g7_g5.out _).trans (hHeld.2.2.1)))), (cell_far (p := ⟨g5, _, none⟩) N_g7_g5.out _).trans ((cell_far (p := ⟨g5, _, none⟩) N_g7_g5.out _).trans ((cell_far (p := ⟨g5, _, none⟩) N_g7_g5.out _).trans ((cell_far (p := ⟨g5, _, none⟩) N_g7_g5.out _).trans (hHeld.2.2.2.1)))), (cell_far (p := ⟨g5, _, none⟩) N_gx_g5.out _).trans ((cell_far (p := ⟨g5, _, none⟩) N_gx_g5.out _).trans ((cell_far (p := ⟨g5, _, none⟩) N_gx_g5.out _).trans ((cell_far (p := ⟨g5, _, none⟩) N_gx_g5.out _).trans (hHeld.2.2.2.2.1)))), (cell_far (p := ⟨g5, _, none⟩) N_gx_g5.out _).trans ((cell_far (p := ⟨g5, _, none⟩) N_gx_g5.out _).trans ((cell_far (p := ⟨g5, _, none⟩) N_gx_g5.out _).trans ((cell_far (p := ⟨g5, _, none⟩) N_gx_g5.out _).trans (hHeld.2.2.2.2.2))))⟩ (fun hHeld => ?_)
  refine one_ (i := 3) (N := none) #[true, true, true, true] rfl rfl (by kernel_rfl) (by decide) (fun K hK => ?_)
  have c_g6_0 : w10.cell? ⟨g6, 0, none⟩ = some (.int .u64 0) := (blk_cell B_g6.out 0).trans rfl
  have f_g6_0 := blk_frozen B_g6.out 0
  have c_g6_1 : w10.cell? ⟨g6, 1, none⟩ = some (.int .u64 0) := (blk_cell B_g6.out 1).trans rfl
  have f_g6_1 := blk_frozen B_g6.out 1
  refine skip_ (w1 := ?_) (by rfl) rfl ?_ ?_
  rotate_left
  · go_simp
    rfl
  refine hK.out _ _ ⟨(cell_far (p := ⟨g6, _, none⟩) N_g7_g6.out _).trans ((cell_far (p := ⟨g6, _, none⟩) N_g7_g6.out _).trans (hHeld.1)), (cell_far (p := ⟨g6, _, none⟩) N_g7_g6.out _).trans ((cell_far (p := ⟨g6, _, none⟩) N_g7_g6.out _).trans (hHeld.2.1)), (cell_far (p := ⟨g6, _, none⟩) N_g7_g6.out _).trans ((cell_far (p := ⟨g6, _, none⟩) N_g7_g6.out _).trans (hHeld.2.2.1)), (cell_far (p := ⟨g6, _, none⟩) N_g7_g6.out _).trans ((cell_far (p := ⟨g6, _, none⟩) N_g7_g6.out _).trans (hHeld.2.2.2.1)), (cell_far (p := ⟨g6, _, none⟩) N_gx_g6.out _).trans ((cell_far (p := ⟨g6, _, none⟩) N_gx_g6.out _).trans (hHeld.2.2.2.2.1)), (cell_far (p := ⟨g6, _, none⟩) N_gx_g6.out _).trans ((cell_far (p := ⟨g6, _, none⟩) N_gx_g6.out _).trans (hHeld.2.2.2.2.2))⟩ (fun hHeld => ?_)
  refine done_ (by kernel_rfl) ?_
  try go_wp2
  refine bodyPost_ret (results_list (rs := [.cell 5 48, .cell 6 36]) rfl (by simp) (.cell g5 48 #[.int .u64 x0, .int .u64 x1, .int .u64 p0, .int .u64 p1] (0, 0) _ rfl (blk_far (blk_far (blk_put (cs := #[.int .u64 x0, .int .u64 x1, .int .u64 p0, .int .u64 0]) (blk_put (cs := #[.int .u64 x0, .int .u64 x1, .int .u64 0, .int .u64 0]) (blk_put (cs := #[.int .u64 x0, .int .u64 0, .int .u64 0, .int .u64 0]) (blk_put (cs := #[.int .u64 0, .int .u64 0, .int .u64 0, .int .u64 0]) B_g5.out 0 (.int .u64 x0) rfl) 1 (.int .u64 x1) rfl) 2 (.int .u64 p0) rfl) 3 (.int .u64 p1) rfl) N_g5_g6.out _) N_g5_g6.out _) Tryd.underlying48 rfl (by kernel_rfl) (.cell g6 36 #[.int .u64 n0, .int .u64 n1] (0, 0) _ rfl (blk_put (cs := #[.int .u64 n0, .int .u64 0]) (blk_put (cs := #[.int .u64 0, .int .u64 0]) (blk_far (blk_far (blk_far (blk_far B_g6.out N_g6_g5.out _) N_g6_g5.out _) N_g6_g5.out _) N_g6_g5.out _) 0 (.int .u64 n0) rfl) 1 (.int .u64 n1) rfl) Tryd.underlying36 rfl (by kernel_rfl) .nil))) rfl ?_
  exact ⟨rfl, (stp_set (stp_set (stp_set (stp_set (stp_set (stp_set HS.out G_g5.out 0 (.int .u64 x0)) G_g5.out 1 (.int .u64 x1)) G_g5.out 2 (.int .u64 p0)) G_g5.out 3 (.int .u64 p1)) G_g6.out 0 (.int .u64 n0)) G_g6.out 1 (.int .u64 n1)), (blk_far (blk_far (blk_far (blk_far (blk_far (blk_far B_gf.out N_gf_g5.out _) N_gf_g5.out _) N_gf_g5.out _) N_gf_g5.out _) N_gf_g6.out _) N_gf_g6.out _), (blk_far (blk_far (blk_far (blk_far (blk_far (blk_far B_gi.out N_gi_g5.out _) N_gi_g5.out _) N_gi_g5.out _) N_gi_g5.out _) N_gi_g6.out _) N_gi_g6.out _), (blk_far (blk_far (blk_far (blk_far (blk_far (blk_far B_gx.out N_gx_g5.out _) N_gx_g5.out _) N_gx_g5.out _) N_gx_g5.out _) N_gx_g6.out _) N_gx_g6.out _)⟩
set_option maxHeartbeats 2000000 in
set_option maxRecDepth 100000 in
/-- The closure, at an odd place. -/
theorem climber1_odd (f i x0 x1 p0 p1 n0 n1 : Int) (gf gi gx : Nat) (w0 w : World) (hG : GL w0) (hS : Below w0.heap.size w0 w) (bf : w.heap[gf]? = some (.cells #[.int .i64 f] 3 (0, 0))) (bi : w.heap[gi]? = some (.cells #[.int .i64 i] 3 (0, 0))) (bx : w.heap[gx]? = some (.cells #[.int .u64 x0, .int .u64 x1] 36 (0, 0)))
    (nfi : gf ≠ gi) (hgf : w0.heap.size ≤ gf) (hgi : w0.heap.size ≤ gi) (hgx : w0.heap.size ≤ gx) (ho : (Go.bits .and .i64 i 1 == 1) = true) (h : sponge_Node.f 200 f p0 p1 x0 x1 = some (n0, n1)) :
    Calls Tryd.prog 64 #[.agg #[.int .u64 p0, .int .u64 p1], .pointer (some ⟨gx, 0, none⟩), .pointer (some ⟨gi, 0, none⟩), .pointer (some ⟨gf, 0, none⟩)] w fun e w' => e = .returned (.tuple #[.agg #[.int .u64 p0, .int .u64 p1, .int .u64 x0, .int .u64 x1], .agg #[.int .u64 n0, .int .u64 n1]]) ∧ Stp w0 w (fun k => k = gi ∨ k = gx) w'
      ∧ w'.heap[gf]? = some (.cells #[.int .i64 f] 3 (0, 0)) ∧ w'.heap[gi]? = some (.cells #[.int .i64 (i / 2)] 3 (0, 0)) ∧ w'.heap[gx]? = some (.cells #[.int .u64 n0, .int .u64 n1] 36 (0, 0)) := by
  have hu36 := Tryd.underlying36
  have hu48 := Tryd.underlying48
  have HRG := Aside0.mk hG
  have A := Aside0.mk h
  have B_gf := Aside0.mk bf
  have B_gi := Aside0.mk bi
  have B_gx := Aside0.mk bx
  have nfx : gf ≠ gx := blk_ne bf bx (by decide)
  have nix : gi ≠ gx := blk_ne bi bx (by decide)
  have N_gf_gi := Aside0.mk nfi
  have N_gi_gf := Aside0.mk nfi.symm
  have N_gf_gx := Aside0.mk nfx
  have N_gx_gf := Aside0.mk nfx.symm
  have N_gi_gx := Aside0.mk nix
  have N_gx_gi := Aside0.mk nix.symm
  generalize hSS : (fun k : Nat => k = gi ∨ k = gx) = S
  have G_gi : Aside0 (w0.heap.size ≤ gi ∧ (S gi ∨ w.heap.size ≤ gi)) := ⟨hgi, .inl (hSS ▸ .inl rfl)⟩
  have G_gx : Aside0 (w0.heap.size ≤ gx ∧ (S gx ∨ w.heap.size ≤ gx)) := ⟨hgx, .inl (hSS ▸ .inr rfl)⟩
  have HS : Aside0 (Stp w0 w S w) := ⟨hS, Kept.refl _ _⟩
  clear h hG hS bf bi bx nfi nfx nix hgf hgi hgx hSS
  have c_gf_0 : w.cell? ⟨gf, 0, none⟩ = some (.int .i64 f) := (blk_cell B_gf.out 0).trans rfl
  have f_gf_0 := blk_frozen B_gf.out 0
  have c_gi_0 : w.cell? ⟨gi, 0, none⟩ = some (.int .i64 i) := (blk_cell B_gi.out 0).trans rfl
  have f_gi_0 := blk_frozen B_gi.out 0
  have c_gx_0 : w.cell? ⟨gx, 0, none⟩ = some (.int .u64 x0) := (blk_cell B_gx.out 0).trans rfl
  have f_gx_0 := blk_frozen B_gx.out 0
  have c_gx_1 : w.cell? ⟨gx, 1, none⟩ = some (.int .u64 x1) := (blk_cell B_gx.out 1).trans rfl
  have f_gx_1 := blk_frozen B_gx.out 1
  have n_gf_gi := N_gf_gi.out
  have n_gf_gx := N_gf_gx.out
  have n_gi_gf := N_gi_gf.out
  have n_gi_gx := N_gi_gx.out
  have n_gx_gf := N_gx_gf.out
  have n_gx_gi := N_gx_gi.out
  go_enter Tryd.func64, Tryd.ntmps64
  go_wp2_with (first
    | ((with_reducible refine gate_dst (N := 4) rfl ?_); refine box_event ?hg (N := 4) ?hd (cs := #[.int .u64 p0, .int .u64 p1]) (t := 36) ?hr ?_; (case hd => rfl); (case hg => rfl); (case hr => first | (go_simp; done) | (go_simp; rfl)); intro gp xg w1 y_ hb; clear c_gf_0 f_gf_0 c_gi_0 f_gi_0 c_gx_0 f_gx_0 c_gx_1 f_gx_1; have N_gf_gp := Aside0.mk (new_ne B_gf.out xg); have N_gp_gf := Aside0.mk N_gf_gp.out.symm; have N_gi_gp := Aside0.mk (new_ne B_gi.out xg); have N_gp_gi := Aside0.mk N_gi_gp.out.symm; have N_gx_gp := Aside0.mk (new_ne B_gx.out xg); have N_gp_gx := Aside0.mk N_gx_gp.out.symm; have G_gp := Aside0.mk (stp_new HS.out xg); replace B_gf := Aside0.mk (show w1.heap[gf]? = some (.cells #[.int .i64 f] 3 (0, 0)) from blk_below B_gf.out hb); replace B_gi := Aside0.mk (show w1.heap[gi]? = some (.cells #[.int .i64 i] 3 (0, 0)) from blk_below B_gi.out hb); replace B_gx := Aside0.mk (show w1.heap[gx]? = some (.cells #[.int .u64 x0, .int .u64 x1] 36 (0, 0)) from blk_below B_gx.out hb); replace HS := Aside0.mk (show Stp w0 w S w1 from stp_below HS.out hb); have B_gp := Aside0.mk y_; clear xg y_ hb; skip)
    | ((with_reducible refine gate_dst (N := 5) rfl ?_); refine box_event ?hg (N := 5) ?hd (cs := #[.int .u64 0, .int .u64 0, .int .u64 0, .int .u64 0]) (t := 48) ?hr ?_; (case hd => rfl); (case hg => rfl); (case hr => first | (go_simp; done) | (go_simp; rfl)); intro g5 xg w2 y_ hb; skip; have N_gf_g5 := Aside0.mk (new_ne B_gf.out xg); have N_g5_gf := Aside0.mk N_gf_g5.out.symm; have N_gi_g5 := Aside0.mk (new_ne B_gi.out xg); have N_g5_gi := Aside0.mk N_gi_g5.out.symm; have N_gx_g5 := Aside0.mk (new_ne B_gx.out xg); have N_g5_gx := Aside0.mk N_gx_g5.out.symm; have N_gp_g5 := Aside0.mk (new_ne B_gp.out xg); have N_g5_gp := Aside0.mk N_gp_g5.out.symm; have G_g5 := Aside0.mk (stp_new HS.out xg); replace B_gf := Aside0.mk (show w2.heap[gf]? = some (.cells #[.int .i64 f] 3 (0, 0)) from blk_below B_gf.out hb); replace B_gi := Aside0.mk (show w2.heap[gi]? = some (.cells #[.int .i64 i] 3 (0, 0)) from blk_below B_gi.out hb); replace B_gx := Aside0.mk (show w2.heap[gx]? = some (.cells #[.int .u64 x0, .int .u64 x1] 36 (0, 0)) from blk_below B_gx.out hb); replace B_gp := Aside0.mk (show w2.heap[gp]? = some (.cells #[.int .u64 p0, .int .u64 p1] 36 (0, 0)) from blk_below B_gp.out hb); replace HS := Aside0.mk (show Stp w0 w S w2 from stp_below HS.out hb); have B_g5 := Aside0.mk y_; clear xg y_ hb; skip)
    | ((with_reducible refine gate_dst (N := 6) rfl ?_); refine box_event ?hg (N := 6) ?hd (cs := #[.int .u64 0, .int .u64 0]) (t := 36) ?hr ?_; (case hd => rfl); (case hg => rfl); (case hr => first | (go_simp; done) | (go_simp; rfl)); intro g6 xg w3 y_ hb; skip; have N_gf_g6 := Aside0.mk (new_ne B_gf.out xg); have N_g6_gf := Aside0.mk N_gf_g6.out.symm; have N_gi_g6 := Aside0.mk (new_ne B_gi.out xg); have N_g6_gi := Aside0.mk N_gi_g6.out.symm; have N_gx_g6 := Aside0.mk (new_ne B_gx.out xg); have N_g6_gx := Aside0.mk N_gx_g6.out.symm; have N_gp_g6 := Aside0.mk (new_ne B_gp.out xg); have N_g6_gp := Aside0.mk N_gp_g6.out.symm; have N_g5_g6 := Aside0.mk (new_ne B_g5.out xg); have N_g6_g5 := Aside0.mk N_g5_g6.out.symm; have G_g6 := Aside0.mk (stp_new HS.out xg); replace B_gf := Aside0.mk (show w3.heap[gf]? = some (.cells #[.int .i64 f] 3 (0, 0)) from blk_below B_gf.out hb); replace B_gi := Aside0.mk (show w3.heap[gi]? = some (.cells #[.int .i64 i] 3 (0, 0)) from blk_below B_gi.out hb); replace B_gx := Aside0.mk (show w3.heap[gx]? = some (.cells #[.int .u64 x0, .int .u64 x1] 36 (0, 0)) from blk_below B_gx.out hb); replace B_gp := Aside0.mk (show w3.heap[gp]? = some (.cells #[.int .u64 p0, .int .u64 p1] 36 (0, 0)) from blk_below B_gp.out hb); replace B_g5 := Aside0.mk (show w3.heap[g5]? = some (.cells #[.int .u64 0, .int .u64 0, .int .u64 0, .int .u64 0] 48 (0, 0)) from blk_below B_g5.out hb); replace HS := Aside0.mk (show Stp w0 w S w3 from stp_below HS.out hb); have B_g6 := Aside0.mk y_; clear xg y_ hb; have c_gx_0 : w3.cell? ⟨gx, 0, none⟩ = some (.int .u64 x0) := (blk_cell B_gx.out 0).trans rfl; have f_gx_0 := blk_frozen B_gx.out 0; have c_gx_1 : w3.cell? ⟨gx, 1, none⟩ = some (.int .u64 x1) := (blk_cell B_gx.out 1).trans rfl; have f_gx_1 := blk_frozen B_gx.out 1; have c_gp_0 : w3.cell? ⟨gp, 0, none⟩ = some (.int .u64 p0) := (blk_cell B_gp.out 0).trans rfl; have f_gp_0 := blk_frozen B_gp.out 0; have c_gp_1 : w3.cell? ⟨gp, 1, none⟩ = some (.int .u64 p1) := (blk_cell B_gp.out 1).trans rfl; have f_gp_1 := blk_frozen B_gp.out 1)
    | ((with_reducible refine gate_dst (N := 7) rfl ?_); refine box_event ?hg (N := 7) ?hd (cs := #[.int .u64 0, .int .u64 0, .int .u64 0, .int .u64 0]) (t := 48) ?hr ?_; (case hd => rfl); (case hg => rfl); (case hr => first | (go_simp; done) | (go_simp; rfl)); intro g7 xg w4 y_ hb; clear c_gx_0 f_gx_0 c_gx_1 f_gx_1 c_gp_0 f_gp_0 c_gp_1 f_gp_1; have N_gf_g7 := Aside0.mk (new_ne B_gf.out xg); have N_g7_gf := Aside0.mk N_gf_g7.out.symm; have N_gi_g7 := Aside0.mk (new_ne B_gi.out xg); have N_g7_gi := Aside0.mk N_gi_g7.out.symm; have N_gx_g7 := Aside0.mk (new_ne B_gx.out xg); have N_g7_gx := Aside0.mk N_gx_g7.out.symm; have N_gp_g7 := Aside0.mk (new_ne B_gp.out xg); have N_g7_gp := Aside0.mk N_gp_g7.out.symm; have N_g5_g7 := Aside0.mk (new_ne B_g5.out xg); have N_g7_g5 := Aside0.mk N_g5_g7.out.symm; have N_g6_g7 := Aside0.mk (new_ne B_g6.out xg); have N_g7_g6 := Aside0.mk N_g6_g7.out.symm; have G_g7 := Aside0.mk (stp_new HS.out xg); replace B_gf := Aside0.mk (show w4.heap[gf]? = some (.cells #[.int .i64 f] 3 (0, 0)) from blk_below B_gf.out hb); replace B_gi := Aside0.mk (show w4.heap[gi]? = some (.cells #[.int .i64 i] 3 (0, 0)) from blk_below B_gi.out hb); replace B_gx := Aside0.mk (show w4.heap[gx]? = some (.cells #[.int .u64 x0, .int .u64 x1] 36 (0, 0)) from blk_below B_gx.out hb); replace B_gp := Aside0.mk (show w4.heap[gp]? = some (.cells #[.int .u64 p0, .int .u64 p1] 36 (0, 0)) from blk_below B_gp.out hb); replace B_g5 := Aside0.mk (show w4.heap[g5]? = some (.cells #[.int .u64 0, .int .u64 0, .int .u64 0, .int .u64 0] 48 (0, 0)) from blk_below B_g5.out hb); replace B_g6 := Aside0.mk (show w4.heap[g6]? = some (.cells #[.int .u64 0, .int .u64 0] 36 (0, 0)) from blk_below B_g6.out hb); replace HS := Aside0.mk (show Stp w0 w S w4 from stp_below HS.out hb); have B_g7 := Aside0.mk y_; clear xg y_ hb; have c_g7_0 : w4.cell? ⟨g7, 0, none⟩ = some (.int .u64 0) := (blk_cell B_g7.out 0).trans rfl; have f_g7_0 := blk_frozen B_g7.out 0; have c_g7_1 : w4.cell? ⟨g7, 1, none⟩ = some (.int .u64 0) := (blk_cell B_g7.out 1).trans rfl; have f_g7_1 := blk_frozen B_g7.out 1; have c_g7_2 : w4.cell? ⟨g7, 2, none⟩ = some (.int .u64 0) := (blk_cell B_g7.out 2).trans rfl; have f_g7_2 := blk_frozen B_g7.out 2; have c_g7_3 : w4.cell? ⟨g7, 3, none⟩ = some (.int .u64 0) := (blk_cell B_g7.out 3).trans rfl; have f_g7_3 := blk_frozen B_g7.out 3)
    | ((with_reducible refine gate_store (t := 48) (p := 7) rfl ?_); refine store_event (t := 48) (p := 7) (v := .tmp 10) (w1 := ((((w4.setCell ⟨g7, 0, none⟩ (.int .u64 x0)).setCell ⟨g7, 1, none⟩ (.int .u64 x1)).setCell ⟨g7, 2, none⟩ (.int .u64 p0)).setCell ⟨g7, 3, none⟩ (.int .u64 p1))) ?hg ?ho ?hn ?hr ?_; (case ho => rfl); (case hg => rfl); (case hn => rfl); (case hr => first | (go_simp; done) | (go_simp; rfl)); intro w5 hw; clear c_g7_0 f_g7_0 c_g7_1 f_g7_1 c_g7_2 f_g7_2 c_g7_3 f_g7_3; replace B_gf := Aside0.mk (show w5.heap[gf]? = some (.cells #[.int .i64 f] 3 (0, 0)) from (by rw [hw]; (repeat (refine blk_far ?_ N_gf_g7.out _)); exact B_gf.out)); replace B_gi := Aside0.mk (show w5.heap[gi]? = some (.cells #[.int .i64 i] 3 (0, 0)) from (by rw [hw]; (repeat (refine blk_far ?_ N_gi_g7.out _)); exact B_gi.out)); replace B_gx := Aside0.mk (show w5.heap[gx]? = some (.cells #[.int .u64 x0, .int .u64 x1] 36 (0, 0)) from (by rw [hw]; (repeat (refine blk_far ?_ N_gx_g7.out _)); exact B_gx.out)); replace B_gp := Aside0.mk (show w5.heap[gp]? = some (.cells #[.int .u64 p0, .int .u64 p1] 36 (0, 0)) from (by rw [hw]; (repeat (refine blk_far ?_ N_gp_g7.out _)); exact B_gp.out)); replace B_g5 := Aside0.mk (show w5.heap[g5]? = some (.cells #[.int .u64 0, .int .u64 0, .int .u64 0, .int .u64 0] 48 (0, 0)) from (by rw [hw]; (repeat (refine blk_far ?_ N_g5_g7.out _)); exact B_g5.out)); replace B_g6 := Aside0.mk (show w5.heap[g6]? = some (.cells #[.int .u64 0, .int .u64 0] 36 (0, 0)) from (by rw [hw]; (repeat (refine blk_far ?_ N_g6_g7.out _)); exact B_g6.out)); replace B_g7 := Aside0.mk (show w5.heap[g7]? = some (.cells #[.int .u64 x0, .int .u64 x1, .int .u64 p0, .int .u64 p1] 48 (0, 0)) from (by rw [hw]; exact (blk_put (cs := #[.int .u64 x0, .int .u64 x1, .int .u64 p0, .int .u64 0]) (blk_put (cs := #[.int .u64 x0, .int .u64 x1, .int .u64 0, .int .u64 0]) (blk_put (cs := #[.int .u64 x0, .int .u64 0, .int .u64 0, .int .u64 0]) (blk_put (cs := #[.int .u64 0, .int .u64 0, .int .u64 0, .int .u64 0]) B_g7.out 0 (.int .u64 x0) rfl) 1 (.int .u64 x1) rfl) 2 (.int .u64 p0) rfl) 3 (.int .u64 p1) rfl))); replace HS := Aside0.mk (show Stp w0 w S w5 from (by rw [hw]; exact (stp_set (stp_set (stp_set (stp_set HS.out G_g7.out 0 (.int .u64 x0)) G_g7.out 1 (.int .u64 x1)) G_g7.out 2 (.int .u64 p0)) G_g7.out 3 (.int .u64 p1)))); clear hw; have c_gi_0 : w5.cell? ⟨gi, 0, none⟩ = some (.int .i64 i) := (blk_cell B_gi.out 0).trans rfl; have f_gi_0 := blk_frozen B_gi.out 0; have c_gx_0 : w5.cell? ⟨gx, 0, none⟩ = some (.int .u64 x0) := (blk_cell B_gx.out 0).trans rfl; have f_gx_0 := blk_frozen B_gx.out 0; have c_gx_1 : w5.cell? ⟨gx, 1, none⟩ = some (.int .u64 x1) := (blk_cell B_gx.out 1).trans rfl; have f_gx_1 := blk_frozen B_gx.out 1; have c_gp_0 : w5.cell? ⟨gp, 0, none⟩ = some (.int .u64 p0) := (blk_cell B_gp.out 0).trans rfl; have f_gp_0 := blk_frozen B_gp.out 0; have c_gp_1 : w5.cell? ⟨gp, 1, none⟩ = some (.int .u64 p1) := (blk_cell B_gp.out 1).trans rfl; have f_gp_1 := blk_frozen B_gp.out 1; have c_g7_0 : w5.cell? ⟨g7, 0, none⟩ = some (.int .u64 x0) := (blk_cell B_g7.out 0).trans rfl; have f_g7_0 := blk_frozen B_g7.out 0; have c_g7_1 : w5.cell? ⟨g7, 1, none⟩ = some (.int .u64 x1) := (blk_cell B_g7.out 1).trans rfl; have f_g7_1 := blk_frozen B_g7.out 1; have c_g7_2 : w5.cell? ⟨g7, 2, none⟩ = some (.int .u64 p0) := (blk_cell B_g7.out 2).trans rfl; have f_g7_2 := blk_frozen B_g7.out 2; have c_g7_3 : w5.cell? ⟨g7, 3, none⟩ = some (.int .u64 p1) := (blk_cell B_g7.out 3).trans rfl; have f_g7_3 := blk_frozen B_g7.out 3)
    | ((with_reducible refine gate_store (t := 48) (p := 7) rfl ?_); refine store_event (t := 48) (p := 7) (v := .tmp 16) (w1 := ((((w5.setCell ⟨g7, 0, none⟩ (.int .u64 p0)).setCell ⟨g7, 1, none⟩ (.int .u64 p1)).setCell ⟨g7, 2, none⟩ (.int .u64 x0)).setCell ⟨g7, 3, none⟩ (.int .u64 x1))) ?hg ?ho ?hn ?hr ?_; (case ho => rfl); (case hg => rfl); (case hn => rfl); (case hr => first | (go_simp; done) | (go_simp; rfl)); intro w6 hw; clear c_gi_0 f_gi_0 c_gx_0 f_gx_0 c_gx_1 f_gx_1 c_gp_0 f_gp_0 c_gp_1 f_gp_1 c_g7_0 f_g7_0 c_g7_1 f_g7_1 c_g7_2 f_g7_2 c_g7_3 f_g7_3; replace B_gf := Aside0.mk (show w6.heap[gf]? = some (.cells #[.int .i64 f] 3 (0, 0)) from (by rw [hw]; (repeat (refine blk_far ?_ N_gf_g7.out _)); exact B_gf.out)); replace B_gi := Aside0.mk (show w6.heap[gi]? = some (.cells #[.int .i64 i] 3 (0, 0)) from (by rw [hw]; (repeat (refine blk_far ?_ N_gi_g7.out _)); exact B_gi.out)); replace B_gx := Aside0.mk (show w6.heap[gx]? = some (.cells #[.int .u64 x0, .int .u64 x1] 36 (0, 0)) from (by rw [hw]; (repeat (refine blk_far ?_ N_gx_g7.out _)); exact B_gx.out)); replace B_gp := Aside0.mk (show w6.heap[gp]? = some (.cells #[.int .u64 p0, .int .u64 p1] 36 (0, 0)) from (by rw [hw]; (repeat (refine blk_far ?_ N_gp_g7.out _)); exact B_gp.out)); replace B_g5 := Aside0.mk (show w6.heap[g5]? = some (.cells #[.int .u64 0, .int .u64 0, .int .u64 0, .int .u64 0] 48 (0, 0)) from (by rw [hw]; (repeat (refine blk_far ?_ N_g5_g7.out _)); exact B_g5.out)); replace B_g6 := Aside0.mk (show w6.heap[g6]? = some (.cells #[.int .u64 0, .int .u64 0] 36 (0, 0)) from (by rw [hw]; (repeat (refine blk_far ?_ N_g6_g7.out _)); exact B_g6.out)); replace B_g7 := Aside0.mk (show w6.heap[g7]? = some (.cells #[.int .u64 p0, .int .u64 p1, .int .u64 x0, .int .u64 x1] 48 (0, 0)) from (by rw [hw]; exact (blk_put (cs := #[.int .u64 p0, .int .u64 p1, .int .u64 x0, .int .u64 p1]) (blk_put (cs := #[.int .u64 p0, .int .u64 p1, .int .u64 p0, .int .u64 p1]) (blk_put (cs := #[.int .u64 p0, .int .u64 x1, .int .u64 p0, .int .u64 p1]) (blk_put (cs := #[.int .u64 x0, .int .u64 x1, .int .u64 p0, .int .u64 p1]) B_g7.out 0 (.int .u64 p0) rfl) 1 (.int .u64 p1) rfl) 2 (.int .u64 x0) rfl) 3 (.int .u64 x1) rfl))); replace HS := Aside0.mk (show Stp w0 w S w6 from (by rw [hw]; exact (stp_set (stp_set (stp_set (stp_set HS.out G_g7.out 0 (.int .u64 p0)) G_g7.out 1 (.int .u64 p1)) G_g7.out 2 (.int .u64 x0)) G_g7.out 3 (.int .u64 x1)))); clear hw; have c_gi_0 : w6.cell? ⟨gi, 0, none⟩ = some (.int .i64 i) := (blk_cell B_gi.out 0).trans rfl; have f_gi_0 := blk_frozen B_gi.out 0)
    | ((with_reducible refine gate_store (t := 3) (p := 2) rfl ?_); refine store_event (t := 3) (p := 2) (v := .tmp 18) (w1 := (w6.setCell ⟨gi, 0, none⟩ (.int .i64 (i / 2)))) ?hg ?ho ?hn ?hr ?_; (case ho => rfl); (case hg => rfl); (case hn => rfl); (case hr => first | (go_simp; done) | (go_simp; rfl)); intro w7 hw; clear c_gi_0 f_gi_0; replace B_gf := Aside0.mk (show w7.heap[gf]? = some (.cells #[.int .i64 f] 3 (0, 0)) from (by rw [hw]; (repeat (refine blk_far ?_ N_gf_gi.out _)); exact B_gf.out)); replace B_gi := Aside0.mk (show w7.heap[gi]? = some (.cells #[.int .i64 (i / 2)] 3 (0, 0)) from (by rw [hw]; exact (blk_put (cs := #[.int .i64 i]) B_gi.out 0 (.int .i64 (i / 2)) rfl))); replace B_gx := Aside0.mk (show w7.heap[gx]? = some (.cells #[.int .u64 x0, .int .u64 x1] 36 (0, 0)) from (by rw [hw]; (repeat (refine blk_far ?_ N_gx_gi.out _)); exact B_gx.out)); replace B_gp := Aside0.mk (show w7.heap[gp]? = some (.cells #[.int .u64 p0, .int .u64 p1] 36 (0, 0)) from (by rw [hw]; (repeat (refine blk_far ?_ N_gp_gi.out _)); exact B_gp.out)); replace B_g5 := Aside0.mk (show w7.heap[g5]? = some (.cells #[.int .u64 0, .int .u64 0, .int .u64 0, .int .u64 0] 48 (0, 0)) from (by rw [hw]; (repeat (refine blk_far ?_ N_g5_gi.out _)); exact B_g5.out)); replace B_g6 := Aside0.mk (show w7.heap[g6]? = some (.cells #[.int .u64 0, .int .u64 0] 36 (0, 0)) from (by rw [hw]; (repeat (refine blk_far ?_ N_g6_gi.out _)); exact B_g6.out)); replace B_g7 := Aside0.mk (show w7.heap[g7]? = some (.cells #[.int .u64 p0, .int .u64 p1, .int .u64 x0, .int .u64 x1] 48 (0, 0)) from (by rw [hw]; (repeat (refine blk_far ?_ N_g7_gi.out _)); exact B_g7.out)); replace HS := Aside0.mk (show Stp w0 w S w7 from (by rw [hw]; exact (stp_set HS.out G_gi.out 0 (.int .i64 (i / 2))))); clear hw; have c_gf_0 : w7.cell? ⟨gf, 0, none⟩ = some (.int .i64 f) := (blk_cell B_gf.out 0).trans rfl; have f_gf_0 := blk_frozen B_gf.out 0; have c_g7_0 : w7.cell? ⟨g7, 0, none⟩ = some (.int .u64 p0) := (blk_cell B_g7.out 0).trans rfl; have f_g7_0 := blk_frozen B_g7.out 0; have c_g7_1 : w7.cell? ⟨g7, 1, none⟩ = some (.int .u64 p1) := (blk_cell B_g7.out 1).trans rfl; have f_g7_1 := blk_frozen B_g7.out 1; have c_g7_2 : w7.cell? ⟨g7, 2, none⟩ = some (.int .u64 x0) := (blk_cell B_g7.out 2).trans rfl; have f_g7_2 := blk_frozen B_g7.out 2; have c_g7_3 : w7.cell? ⟨g7, 3, none⟩ = some (.int .u64 x1) := (blk_cell B_g7.out 3).trans rfl; have f_g7_3 := blk_frozen B_g7.out 3)
    | (go_at_call 36; (with_reducible refine (sponge_Node.calls 200 f p0 p1 x0 x1 n0 n1 _ (GL.below HRG.out (stp_b HS.out)) A.out).mono ?_); rintro e w8 ⟨rfl, hb⟩; clear c_gf_0 f_gf_0 c_g7_0 f_g7_0 c_g7_1 f_g7_1 c_g7_2 f_g7_2 c_g7_3 f_g7_3; replace B_gf := Aside0.mk (show w8.heap[gf]? = some (.cells #[.int .i64 f] 3 (0, 0)) from blk_below B_gf.out hb); replace B_gi := Aside0.mk (show w8.heap[gi]? = some (.cells #[.int .i64 (i / 2)] 3 (0, 0)) from blk_below B_gi.out hb); replace B_gx := Aside0.mk (show w8.heap[gx]? = some (.cells #[.int .u64 x0, .int .u64 x1] 36 (0, 0)) from blk_below B_gx.out hb); replace B_gp := Aside0.mk (show w8.heap[gp]? = some (.cells #[.int .u64 p0, .int .u64 p1] 36 (0, 0)) from blk_below B_gp.out hb); replace B_g5 := Aside0.mk (show w8.heap[g5]? = some (.cells #[.int .u64 0, .int .u64 0, .int .u64 0, .int .u64 0] 48 (0, 0)) from blk_below B_g5.out hb); replace B_g6 := Aside0.mk (show w8.heap[g6]? = some (.cells #[.int .u64 0, .int .u64 0] 36 (0, 0)) from blk_below B_g6.out hb); replace B_g7 := Aside0.mk (show w8.heap[g7]? = some (.cells #[.int .u64 p0, .int .u64 p1, .int .u64 x0, .int .u64 x1] 48 (0, 0)) from blk_below B_g7.out hb); replace HS := Aside0.mk (show Stp w0 w S w8 from stp_below HS.out hb); clear hb; have c_gx_0 : w8.cell? ⟨gx, 0, none⟩ = some (.int .u64 x0) := (blk_cell B_gx.out 0).trans rfl; have f_gx_0 := blk_frozen B_gx.out 0; have c_gx_1 : w8.cell? ⟨gx, 1, none⟩ = some (.int .u64 x1) := (blk_cell B_gx.out 1).trans rfl; have f_gx_1 := blk_frozen B_gx.out 1)
    | ((with_reducible refine gate_store (t := 36) (p := 1) rfl ?_); refine store_event (t := 36) (p := 1) (v := .tmp 24) (w1 := ((w8.setCell ⟨gx, 0, none⟩ (.int .u64 n0)).setCell ⟨gx, 1, none⟩ (.int .u64 n1))) ?hg ?ho ?hn ?hr ?_; (case ho => rfl); (case hg => rfl); (case hn => rfl); (case hr => first | (go_simp; done) | (go_simp; rfl)); intro w9 hw; clear c_gx_0 f_gx_0 c_gx_1 f_gx_1; replace B_gf := Aside0.mk (show w9.heap[gf]? = some (.cells #[.int .i64 f] 3 (0, 0)) from (by rw [hw]; (repeat (refine blk_far ?_ N_gf_gx.out _)); exact B_gf.out)); replace B_gi := Aside0.mk (show w9.heap[gi]? = some (.cells #[.int .i64 (i / 2)] 3 (0, 0)) from (by rw [hw]; (repeat (refine blk_far ?_ N_gi_gx.out _)); exact B_gi.out)); replace B_gx := Aside0.mk (show w9.heap[gx]? = some (.cells #[.int .u64 n0, .int .u64 n1] 36 (0, 0)) from (by rw [hw]; exact (blk_put (cs := #[.int .u64 n0, .int .u64 x1]) (blk_put (cs := #[.int .u64 x0, .int .u64 x1]) B_gx.out 0 (.int .u64 n0) rfl) 1 (.int .u64 n1) rfl))); replace B_gp := Aside0.mk (show w9.heap[gp]? = some (.cells #[.int .u64 p0, .int .u64 p1] 36 (0, 0)) from (by rw [hw]; (repeat (refine blk_far ?_ N_gp_gx.out _)); exact B_gp.out)); replace B_g5 := Aside0.mk (show w9.heap[g5]? = some (.cells #[.int .u64 0, .int .u64 0, .int .u64 0, .int .u64 0] 48 (0, 0)) from (by rw [hw]; (repeat (refine blk_far ?_ N_g5_gx.out _)); exact B_g5.out)); replace B_g6 := Aside0.mk (show w9.heap[g6]? = some (.cells #[.int .u64 0, .int .u64 0] 36 (0, 0)) from (by rw [hw]; (repeat (refine blk_far ?_ N_g6_gx.out _)); exact B_g6.out)); replace B_g7 := Aside0.mk (show w9.heap[g7]? = some (.cells #[.int .u64 p0, .int .u64 p1, .int .u64 x0, .int .u64 x1] 48 (0, 0)) from (by rw [hw]; (repeat (refine blk_far ?_ N_g7_gx.out _)); exact B_g7.out)); replace HS := Aside0.mk (show Stp w0 w S w9 from (by rw [hw]; exact (stp_set (stp_set HS.out G_gx.out 0 (.int .u64 n0)) G_gx.out 1 (.int .u64 n1)))); clear hw; skip))
  skip
  replace B_gf : Aside0 (w9.drew.heap[gf]? = some (.cells #[.int .i64 f] 3 (0, 0))) := ⟨B_gf.out⟩
  replace B_gi : Aside0 (w9.drew.heap[gi]? = some (.cells #[.int .i64 (i / 2)] 3 (0, 0))) := ⟨B_gi.out⟩
  replace B_gx : Aside0 (w9.drew.heap[gx]? = some (.cells #[.int .u64 n0, .int .u64 n1] 36 (0, 0))) := ⟨B_gx.out⟩
  replace B_gp : Aside0 (w9.drew.heap[gp]? = some (.cells #[.int .u64 p0, .int .u64 p1] 36 (0, 0))) := ⟨B_gp.out⟩
  replace B_g5 : Aside0 (w9.drew.heap[g5]? = some (.cells #[.int .u64 0, .int .u64 0, .int .u64 0, .int .u64 0] 48 (0, 0))) := ⟨B_g5.out⟩
  replace B_g6 : Aside0 (w9.drew.heap[g6]? = some (.cells #[.int .u64 0, .int .u64 0] 36 (0, 0))) := ⟨B_g6.out⟩
  replace B_g7 : Aside0 (w9.drew.heap[g7]? = some (.cells #[.int .u64 p0, .int .u64 p1, .int .u64 x0, .int .u64 x1] 48 (0, 0))) := ⟨B_g7.out⟩
  replace HS : Aside0 (Stp w0 w S w9.drew) := ⟨stp_drew HS.out⟩
  refine start_ (n := 4) (S := fun w' => w'.cell? ⟨g7, 0, none⟩ = some (.int .u64 p0) ∧ w'.cell? ⟨g7, 1, none⟩ = some (.int .u64 p1) ∧ w'.cell? ⟨g7, 2, none⟩ = some (.int .u64 x0) ∧ w'.cell? ⟨g7, 3, none⟩ = some (.int .u64 x1) ∧ w'.cell? ⟨gx, 0, none⟩ = some (.int .u64 n0) ∧ w'.cell? ⟨gx, 1, none⟩ = some (.int .u64 n1)) (ds := []) #[false, false, false, false] (by kernel_rfl) rfl rfl ⟨(blk_cell B_g7.out 0).trans rfl, (blk_cell B_g7.out 1).trans rfl, (blk_cell B_g7.out 2).trans rfl, (blk_cell B_g7.out 3).trans rfl, (blk_cell B_gx.out 0).trans rfl, (blk_cell B_gx.out 1).trans rfl⟩ (fun hHeld => ?_)
  generalize w9.drew = w10 at B_gf B_gi B_gx B_gp B_g5 B_g6 B_g7 HS hHeld ⊢
  refine take_ (i := 0) (N := some 25) (v := ?_) (a' := ?_) #[true, false, false, false] rfl rfl (by kernel_rfl) (fun _ _ _ h => h) (Or.inl ⟨by rfl, ?_⟩) hHeld ?_ ?_
  rotate_left
  · rintro w' ⟨s0, s1, s2, s3, s4, s5⟩
    go_simp
    with_reducible rfl
  rotate_left
  · simp only [Act.put, List.setIfInBounds_toArray, List.set_cons_zero, List.set_cons_succ, i64_w, i32_w]
    rfl
  refine take_ (i := 1) (N := some 26) (v := ?_) (a' := ?_) #[true, true, false, false] rfl rfl (by kernel_rfl) (fun _ _ _ h => h) (Or.inl ⟨by rfl, ?_⟩) hHeld ?_ ?_
  rotate_left
  · rintro w' ⟨s0, s1, s2, s3, s4, s5⟩
    go_simp
    with_reducible rfl
  rotate_left
  · simp only [Act.put, List.setIfInBounds_toArray, List.set_cons_zero, List.set_cons_succ, i64_w, i32_w]
    rfl
  have n_gf_gi := N_gf_gi.out
  have n_gf_gx := N_gf_gx.out
  have n_gf_gp := N_gf_gp.out
  have n_gf_g5 := N_gf_g5.out
  have n_gf_g6 := N_gf_g6.out
  have n_gf_g7 := N_gf_g7.out
  have n_gi_gf := N_gi_gf.out
  have n_gi_gx := N_gi_gx.out
  have n_gi_gp := N_gi_gp.out
  have n_gi_g5 := N_gi_g5.out
  have n_gi_g6 := N_gi_g6.out
  have n_gi_g7 := N_gi_g7.out
  have n_gx_gf := N_gx_gf.out
  have n_gx_gi := N_gx_gi.out
  have n_gx_gp := N_gx_gp.out
  have n_gx_g5 := N_gx_g5.out
  have n_gx_g6 := N_gx_g6.out
  have n_gx_g7 := N_gx_g7.out
  have n_gp_gf := N_gp_gf.out
  have n_gp_gi := N_gp_gi.out
  have n_gp_gx := N_gp_gx.out
  have n_gp_g5 := N_gp_g5.out
  have n_gp_g6 := N_gp_g6.out
  have n_gp_g7 := N_gp_g7.out
  have n_g5_gf := N_g5_gf.out
  have n_g5_gi := N_g5_gi.out
  have n_g5_gx := N_g5_gx.out
  have n_g5_gp := N_g5_gp.out
  have n_g5_g6 := N_g5_g6.out
  have n_g5_g7 := N_g5_g7.out
  have n_g6_gf := N_g6_gf.out
  have n_g6_gi := N_g6_gi.out
  have n_g6_gx := N_g6_gx.out
  have n_g6_gp := N_g6_gp.out
  have n_g6_g5 := N_g6_g5.out
  have n_g6_g7 := N_g6_g7.out
  have n_g7_gf := N_g7_gf.out
  have n_g7_gi := N_g7_gi.out
  have n_g7_gx := N_g7_gx.out
  have n_g7_gp := N_g7_gp.out
  have n_g7_g5 := N_g7_g5.out
  have n_g7_g6 := N_g7_g6.out
  refine one_ (i := 2) (N := none) #[true, true, true, false] rfl rfl (by kernel_rfl) (by decide) (fun K hK => ?_)
  have c_g5_0 : w10.cell? ⟨g5, 0, none⟩ = some (.int .u64 0) := (blk_cell B_g5.out 0).trans rfl
  have f_g5_0 := blk_frozen B_g5.out 0
  have c_g5_1 : w10.cell? ⟨g5, 1, none⟩ = some (.int .u64 0) := (blk_cell B_g5.out 1).trans rfl
  have f_g5_1 := blk_frozen B_g5.out 1
  have c_g5_2 : w10.cell? ⟨g5, 2, none⟩ = some (.int .u64 0) := (blk_cell B_g5.out 2).trans rfl
  have f_g5_2 := blk_frozen B_g5.out 2
  have c_g5_3 : w10.cell? ⟨g5, 3, none⟩ = some (.int .u64 0) := (blk_cell B_g5.out 3).trans rfl
  have f_g5_3 := blk_frozen B_g5.out 3
  refine skip_ (w1 := ?_) (by rfl) rfl ?_ ?_
  rotate_left
  · go_simp
    rfl
  refine hK.out _ _ ⟨(cell_far (p := ⟨g5, _, none⟩) N_g7_g5.out _).trans ((cell_far (p := ⟨g5, _, none⟩) N_g7_g5.out _).trans ((cell_far (p := ⟨g5, _, none⟩) N_g7_g5.out _).trans ((cell_far (p := ⟨g5, _, none⟩) N_g7_g5.out _).trans (hHeld.1)))), (cell_far (p := ⟨g5, _, none⟩) N_g7_g5.out _).trans ((cell_far (p := ⟨g5, _, none⟩) N_g7_g5.out _).trans ((cell_far (p := ⟨g5, _, none⟩) N_g7_g5.out _).trans ((cell_far (p := ⟨g5, _, none⟩) N_g7_g5.out _).trans (hHeld.2.1)))), (cell_far (p := ⟨g5, _, none⟩) N_g7_g5.out _).trans ((cell_far (p := ⟨g5, _, none⟩) N_g7_g5.out _).trans ((cell_far (p := ⟨g5, _, none⟩) N_g7_g5.out _).trans ((cell_far (p := ⟨g5, _, none⟩) N_g7_g5.out _).trans (hHeld.2.2.1)))), (cell_far (p := ⟨g5, _, none⟩) N_g7_g5.out _).trans ((cell_far (p := ⟨g5, _, none⟩) N_g7_g5.out _).trans ((cell_far (p := ⟨g5, _, none⟩) N_g7_g5.out _).trans ((cell_far (p := ⟨g5, _, none⟩) N_g7_g5.out _).trans (hHeld.2.2.2.1)))), (cell_far (p := ⟨g5, _, none⟩) N_gx_g5.out _).trans ((cell_far (p := ⟨g5, _, none⟩) N_gx_g5.out _).trans ((cell_far (p := ⟨g5, _, none⟩) N_gx_g5.out _).trans ((cell_far (p := ⟨g5, _, none⟩) N_gx_g5.out _).trans (hHeld.2.2.2.2.1)))), (cell_far (p := ⟨g5, _, none⟩) N_gx_g5.out _).trans ((cell_far (p := ⟨g5, _, none⟩) N_gx_g5.out _).trans ((cell_far (p := ⟨g5, _, none⟩) N_gx_g5.out _).trans ((cell_far (p := ⟨g5, _, none⟩) N_gx_g5.out _).trans (hHeld.2.2.2.2.2))))⟩ (fun hHeld => ?_)
  refine one_ (i := 3) (N := none) #[true, true, true, true] rfl rfl (by kernel_rfl) (by decide) (fun K hK => ?_)
  have c_g6_0 : w10.cell? ⟨g6, 0, none⟩ = some (.int .u64 0) := (blk_cell B_g6.out 0).trans rfl
  have f_g6_0 := blk_frozen B_g6.out 0
  have c_g6_1 : w10.cell? ⟨g6, 1, none⟩ = some (.int .u64 0) := (blk_cell B_g6.out 1).trans rfl
  have f_g6_1 := blk_frozen B_g6.out 1
  refine skip_ (w1 := ?_) (by rfl) rfl ?_ ?_
  rotate_left
  · go_simp
    rfl
  refine hK.out _ _ ⟨(cell_far (p := ⟨g6, _, none⟩) N_g7_g6.out _).trans ((cell_far (p := ⟨g6, _, none⟩) N_g7_g6.out _).trans (hHeld.1)), (cell_far (p := ⟨g6, _, none⟩) N_g7_g6.out _).trans ((cell_far (p := ⟨g6, _, none⟩) N_g7_g6.out _).trans (hHeld.2.1)), (cell_far (p := ⟨g6, _, none⟩) N_g7_g6.out _).trans ((cell_far (p := ⟨g6, _, none⟩) N_g7_g6.out _).trans (hHeld.2.2.1)), (cell_far (p := ⟨g6, _, none⟩) N_g7_g6.out _).trans ((cell_far (p := ⟨g6, _, none⟩) N_g7_g6.out _).trans (hHeld.2.2.2.1)), (cell_far (p := ⟨g6, _, none⟩) N_gx_g6.out _).trans ((cell_far (p := ⟨g6, _, none⟩) N_gx_g6.out _).trans (hHeld.2.2.2.2.1)), (cell_far (p := ⟨g6, _, none⟩) N_gx_g6.out _).trans ((cell_far (p := ⟨g6, _, none⟩) N_gx_g6.out _).trans (hHeld.2.2.2.2.2))⟩ (fun hHeld => ?_)
  refine done_ (by kernel_rfl) ?_
  try go_wp2
  refine bodyPost_ret (results_list (rs := [.cell 5 48, .cell 6 36]) rfl (by simp) (.cell g5 48 #[.int .u64 p0, .int .u64 p1, .int .u64 x0, .int .u64 x1] (0, 0) _ rfl (blk_far (blk_far (blk_put (cs := #[.int .u64 p0, .int .u64 p1, .int .u64 x0, .int .u64 0]) (blk_put (cs := #[.int .u64 p0, .int .u64 p1, .int .u64 0, .int .u64 0]) (blk_put (cs := #[.int .u64 p0, .int .u64 0, .int .u64 0, .int .u64 0]) (blk_put (cs := #[.int .u64 0, .int .u64 0, .int .u64 0, .int .u64 0]) B_g5.out 0 (.int .u64 p0) rfl) 1 (.int .u64 p1) rfl) 2 (.int .u64 x0) rfl) 3 (.int .u64 x1) rfl) N_g5_g6.out _) N_g5_g6.out _) Tryd.underlying48 rfl (by kernel_rfl) (.cell g6 36 #[.int .u64 n0, .int .u64 n1] (0, 0) _ rfl (blk_put (cs := #[.int .u64 n0, .int .u64 0]) (blk_put (cs := #[.int .u64 0, .int .u64 0]) (blk_far (blk_far (blk_far (blk_far B_g6.out N_g6_g5.out _) N_g6_g5.out _) N_g6_g5.out _) N_g6_g5.out _) 0 (.int .u64 n0) rfl) 1 (.int .u64 n1) rfl) Tryd.underlying36 rfl (by kernel_rfl) .nil))) rfl ?_
  exact ⟨rfl, (stp_set (stp_set (stp_set (stp_set (stp_set (stp_set HS.out G_g5.out 0 (.int .u64 p0)) G_g5.out 1 (.int .u64 p1)) G_g5.out 2 (.int .u64 x0)) G_g5.out 3 (.int .u64 x1)) G_g6.out 0 (.int .u64 n0)) G_g6.out 1 (.int .u64 n1)), (blk_far (blk_far (blk_far (blk_far (blk_far (blk_far B_gf.out N_gf_g5.out _) N_gf_g5.out _) N_gf_g5.out _) N_gf_g5.out _) N_gf_g6.out _) N_gf_g6.out _), (blk_far (blk_far (blk_far (blk_far (blk_far (blk_far B_gi.out N_gi_g5.out _) N_gi_g5.out _) N_gi_g5.out _) N_gi_g5.out _) N_gi_g6.out _) N_gi_g6.out _), (blk_far (blk_far (blk_far (blk_far (blk_far (blk_far B_gx.out N_gx_g5.out _) N_gx_g5.out _) N_gx_g5.out _) N_gx_g5.out _) N_gx_g6.out _) N_gx_g6.out _)⟩
set_option maxHeartbeats 2000000 in
theorem climber_calls (f i x0 x1 : Int) (w : World) : Calls Tryd.prog 51 #[.int .i64 f, .int .i64 i, .agg #[.int .u64 x0, .int .u64 x1]] w fun e w' => ∃ gf gi gx : Nat, e = .returned (.func (.func 64) #[] #[.pointer (some ⟨gx, 0, none⟩), .pointer (some ⟨gi, 0, none⟩), .pointer (some ⟨gf, 0, none⟩)]) ∧ w.heap.size ≤ gf ∧ w.heap.size ≤ gi ∧ w.heap.size ≤ gx ∧ gf ≠ gi
    ∧ w'.heap[gf]? = some (.cells #[.int .i64 f] 3 (0, 0)) ∧ w'.heap[gi]? = some (.cells #[.int .i64 i] 3 (0, 0)) ∧ w'.heap[gx]? = some (.cells #[.int .u64 x0, .int .u64 x1] 36 (0, 0)) ∧ Below w.heap.size w w' := by
  have hmf : ∀ (fn : Fn) (first cap : Array Value) (w : World), (Instr.makeFunc fn first cap).run Tryd.prog w = .ok (.func fn first cap) w := fun _ _ _ _ => rfl
  obtain ⟨w0, hw0⟩ : ∃ w0, w0 = w := ⟨_, rfl⟩
  generalize hSS : (fun _ : Nat => False) = S
  have HS : Aside0 (Stp w0 w S w) := ⟨by rw [hw0]; exact Below.refl _ _, Kept.refl _ _⟩
  have HW := Aside0.mk hw0
  clear hSS hw0
  go_enter Tryd.func51, Tryd.ntmps51
  go_wp2_with (first
    | ((with_reducible refine gate_dst (N := 3) rfl ?_); refine box_event ?hg (N := 3) ?hd (cs := #[.int .i64 f]) (t := 3) ?hr ?_; (case hd => rfl); (case hg => rfl); (case hr => first | (go_simp; done) | (go_simp; rfl)); intro gf xg w1 y_ hb; skip; have G_gf := Aside0.mk (stp_new HS.out xg); replace HS := Aside0.mk (show Stp w0 w S w1 from stp_below HS.out hb); have B_gf := Aside0.mk y_; clear xg y_ hb; skip)
    | ((with_reducible refine gate_dst (N := 4) rfl ?_); refine box_event ?hg (N := 4) ?hd (cs := #[.int .i64 i]) (t := 3) ?hr ?_; (case hd => rfl); (case hg => rfl); (case hr => first | (go_simp; done) | (go_simp; rfl)); intro gi xg w2 y_ hb; skip; have N_gf_gi := Aside0.mk (new_ne B_gf.out xg); have N_gi_gf := Aside0.mk N_gf_gi.out.symm; have G_gi := Aside0.mk (stp_new HS.out xg); replace B_gf := Aside0.mk (show w2.heap[gf]? = some (.cells #[.int .i64 f] 3 (0, 0)) from blk_below B_gf.out hb); replace HS := Aside0.mk (show Stp w0 w S w2 from stp_below HS.out hb); have B_gi := Aside0.mk y_; clear xg y_ hb; skip)
    | ((with_reducible refine gate_dst (N := 5) rfl ?_); refine box_event ?hg (N := 5) ?hd (cs := #[.int .u64 x0, .int .u64 x1]) (t := 36) ?hr ?_; (case hd => rfl); (case hg => rfl); (case hr => first | (go_simp; done) | (go_simp; rfl)); intro gx xg w3 y_ hb; skip; have N_gf_gx := Aside0.mk (new_ne B_gf.out xg); have N_gx_gf := Aside0.mk N_gf_gx.out.symm; have N_gi_gx := Aside0.mk (new_ne B_gi.out xg); have N_gx_gi := Aside0.mk N_gi_gx.out.symm; have G_gx := Aside0.mk (stp_new HS.out xg); replace B_gf := Aside0.mk (show w3.heap[gf]? = some (.cells #[.int .i64 f] 3 (0, 0)) from blk_below B_gf.out hb); replace B_gi := Aside0.mk (show w3.heap[gi]? = some (.cells #[.int .i64 i] 3 (0, 0)) from blk_below B_gi.out hb); replace HS := Aside0.mk (show Stp w0 w S w3 from stp_below HS.out hb); have B_gx := Aside0.mk y_; clear xg y_ hb; skip))
  obtain rfl := HW.out
  go_ret
  exact ⟨gf, gi, gx, rfl, G_gf.out.1, G_gi.out.1, G_gx.out.1, N_gf_gi.out, B_gf.out, B_gi.out, B_gx.out, stp_b HS.out⟩
/-- What a climb comes to. -/
def climbL (f : Int) : Int → Int → Int → List S36 → Option (Int × Int)
  | _, x0, x1, [] => some (x0, x1)
  | i, x0, x1, d :: l => (if (Go.bits .and .i64 i 1 == 1) = true then sponge_Node.f 200 f d.f0 d.f1 x0 x1 else sponge_Node.f 200 f x0 x1 d.f0 d.f1).bind fun n => climbL f (i / 2) n.1 n.2 l
def tree_climb.f (f i x0 x1 : Int) (l : List S36) : Option (Int × Int) := climbL f i x0 x1 l
theorem drop_rd (l : List S36) (j : Nat) (h : j < l.length) : l.drop j = rd_T36 l (j : Int) :: l.drop (j + 1) := by
  rw [List.drop_eq_getElem_cons h]
  simp [rd_T36, List.getD, h]
theorem stp_ge {w0 w W : World} {S : Nat → Prop} {g : Nat} (h : Stp w0 w S W) (hg : W.heap.size ≤ g) : w0.heap.size ≤ g ∧ (S g ∨ w.heap.size ≤ g) := ⟨Nat.le_trans h.1.size hg, .inr (Nat.le_trans h.2.1 hg)⟩
set_option maxHeartbeats 8000000 in
set_option maxRecDepth 100000 in
theorem tree_climb.calls (a0 a1 a2_0 a2_1 : Int) (A3 : Option Addr) (c3 : Nat) (l3 : List (S36)) (r1 r2 : Int) (w : World) (hr3 : Kd.C k36 w A3 l3.length l3) (hc3 : l3.length ≤ c3) (hrG : GL w) (h : tree_climb.f a0 a1 a2_0 a2_1 l3 = some (r1, r2)) :
    Calls Tryd.prog 48 #[.int .i64 a0, .int .i64 a1, .agg #[.int .u64 a2_0, .int .u64 a2_1], .slice A3 l3.length c3] w fun e w' => e = .returned (.agg #[.int .u64 r1, .int .u64 r2]) ∧ Below w.heap.size w w' := by
  have hu36 := Tryd.underlying36
  have HRG := Aside0.mk hrG
  have HR3 := Aside0.mk hr3
  have HC3 := Aside0.mk hc3
  have HL := Aside0.mk (Kd.C_max hr3)
  have H' : Aside0 (climbL a0 a1 a2_0 a2_1 (l3.drop 0) = some (r1, r2)) := ⟨h⟩
  clear hr3 hc3 hrG h
  obtain ⟨w0, hw0⟩ : ∃ w0, w0 = w := ⟨_, rfl⟩
  generalize hSS : (fun _ : Nat => False) = S
  have HS : Aside0 (Stp w0 w S w) := ⟨by rw [hw0]; exact Below.refl _ _, Kept.refl _ _⟩
  have HW := Aside0.mk hw0
  clear hSS hw0
  go_enter Tryd.func48, Tryd.ntmps48
  go_wp2_with (first
    | ((with_reducible refine gate_dst (N := 6) rfl ?_); refine box_event ?hg (N := 6) ?hd (cs := #[.int .u64 a2_0, .int .u64 a2_1]) (t := 36) ?hr ?_; (case hd => rfl); (case hg => rfl); (case hr => first | (go_simp; done) | (go_simp; rfl)); intro g6 xg w1 y_ hb; skip; have G_g6 := Aside0.mk (stp_new HS.out xg); replace HS := Aside0.mk (show Stp w0 w S w1 from stp_below HS.out hb); have B_g6 := Aside0.mk y_; clear xg y_ hb; skip)
    | ((with_reducible refine gate_dst (N := 8) rfl ?_); refine box_event ?hg (N := 8) ?hd (cs := #[.int .u64 0, .int .u64 0]) (t := 36) ?hr ?_; (case hd => rfl); (case hg => rfl); (case hr => first | (go_simp; done) | (go_simp; rfl)); intro g8 xg w2 y_ hb; skip; have N_g6_g8 := Aside0.mk (new_ne B_g6.out xg); have N_g8_g6 := Aside0.mk N_g6_g8.out.symm; have G_g8 := Aside0.mk (stp_new HS.out xg); replace B_g6 := Aside0.mk (show w2.heap[g6]? = some (.cells #[.int .u64 a2_0, .int .u64 a2_1] 36 (0, 0)) from blk_below B_g6.out hb); replace HS := Aside0.mk (show Stp w0 w S w2 from stp_below HS.out hb); have B_g8 := Aside0.mk y_; clear xg y_ hb; have c_g6_0 : w2.cell? ⟨g6, 0, none⟩ = some (.int .u64 a2_0) := (blk_cell B_g6.out 0).trans rfl; have f_g6_0 := blk_frozen B_g6.out 0; have c_g6_1 : w2.cell? ⟨g6, 1, none⟩ = some (.int .u64 a2_1) := (blk_cell B_g6.out 1).trans rfl; have f_g6_1 := blk_frozen B_g6.out 1)
    | (go_at_call 51; (with_reducible refine (climber_calls a0 a1 a2_0 a2_1 _).mono ?_); rintro e w3 ⟨gf, gi, gx, rfl, lf, li, lx, nfi, bf, bi, bx, hb⟩; clear c_g6_0 f_g6_0 c_g6_1 f_g6_1; have N_g6_gf := Aside0.mk (below_ne B_g6.out lf); have N_gf_g6 := Aside0.mk N_g6_gf.out.symm; have N_g8_gf := Aside0.mk (below_ne B_g8.out lf); have N_gf_g8 := Aside0.mk N_g8_gf.out.symm; have G_gf := Aside0.mk (stp_ge HS.out lf); have N_g6_gi := Aside0.mk (below_ne B_g6.out li); have N_gi_g6 := Aside0.mk N_g6_gi.out.symm; have N_g8_gi := Aside0.mk (below_ne B_g8.out li); have N_gi_g8 := Aside0.mk N_g8_gi.out.symm; have G_gi := Aside0.mk (stp_ge HS.out li); have N_g6_gx := Aside0.mk (below_ne B_g6.out lx); have N_gx_g6 := Aside0.mk N_g6_gx.out.symm; have N_g8_gx := Aside0.mk (below_ne B_g8.out lx); have N_gx_g8 := Aside0.mk N_g8_gx.out.symm; have G_gx := Aside0.mk (stp_ge HS.out lx); have N_gf_gi := Aside0.mk nfi; have N_gi_gf := Aside0.mk nfi.symm; have N_gf_gx := Aside0.mk (blk_ne bf bx (by decide)); have N_gx_gf := Aside0.mk (blk_ne bf bx (by decide)).symm; have N_gi_gx := Aside0.mk (blk_ne bi bx (by decide)); have N_gx_gi := Aside0.mk (blk_ne bi bx (by decide)).symm; replace B_g6 := Aside0.mk (show w3.heap[g6]? = some (.cells #[.int .u64 a2_0, .int .u64 a2_1] 36 (0, 0)) from blk_below B_g6.out hb); replace B_g8 := Aside0.mk (show w3.heap[g8]? = some (.cells #[.int .u64 0, .int .u64 0] 36 (0, 0)) from blk_below B_g8.out hb); replace HS := Aside0.mk (show Stp w0 w S w3 from stp_below HS.out hb); have B_gf := Aside0.mk bf; have B_gi := Aside0.mk bi; have B_gx := Aside0.mk bx; clear hb bf bi bx lf li lx nfi))
  go_loopg [18] (l3.length + 1) (fun kq v18 w' => ∃ (j : Nat) (i x0 x1 : Int), v18 = .int .i64 (j : Int) ∧ Aside0 (climbL a0 i x0 x1 (l3.drop j) = some (r1, r2)) ∧ Aside0 (kq + j = l3.length + 1) ∧ Aside0 (w'.heap[gf]? = some (.cells #[.int .i64 a0] 3 (0, 0))) ∧ Aside0 (w'.heap[gi]? = some (.cells #[.int .i64 i] 3 (0, 0))) ∧ Aside0 (w'.heap[gx]? = some (.cells #[.int .u64 x0, .int .u64 x1] 36 (0, 0))) ∧ Aside0 (w'.heap[g6]? = some (.cells #[.int .u64 x0, .int .u64 x1] 36 (0, 0))) ∧ Aside0 (w'.heap[g8]? = some (.cells #[.int .u64 0, .int .u64 0] 36 (0, 0))) ∧ Aside0 (Stp w0 w S w'))
  case atStart => exact ⟨0, a1, a2_0, a2_1, rfl, H', ⟨rfl⟩, B_gf, B_gi, B_gx, B_g6, B_g8, HS⟩
  case round =>
    clear H' HS B_gf B_gi B_gx B_g6 B_g8
    obtain ⟨j, i, x0, x1, rfl, HA, HK, B_gf, B_gi, B_gx, B_g6, B_g8, HS⟩ := hrel
    cases gk with
    | zero =>
      have hk := HK.out
      have hj : l3.length < j := by omega
      have c3b : decide (j < l3.length) = false := decide_eq_false (by omega)
      obtain ⟨rfl, rfl⟩ : x0 = r1 ∧ x1 = r2 := by have h1 := HA.out; rw [List.drop_eq_nil_of_le (by omega)] at h1; simpa [climbL] using h1
      clear HA
      have c_g6_0 : wr.cell? ⟨g6, 0, none⟩ = some (.int .u64 x0) := (blk_cell B_g6.out 0).trans rfl
      have f_g6_0 := blk_frozen B_g6.out 0
      have c_g6_1 : wr.cell? ⟨g6, 1, none⟩ = some (.int .u64 x1) := (blk_cell B_g6.out 1).trans rfl
      have f_g6_1 := blk_frozen B_g6.out 1
      have c_g8_0 : wr.cell? ⟨g8, 0, none⟩ = some (.int .u64 0) := (blk_cell B_g8.out 0).trans rfl
      have f_g8_0 := blk_frozen B_g8.out 0
      have c_g8_1 : wr.cell? ⟨g8, 1, none⟩ = some (.int .u64 0) := (blk_cell B_g8.out 1).trans rfl
      have f_g8_1 := blk_frozen B_g8.out 1
      go_wp2_with ((with_reducible refine gate_store (t := 36) (p := 8) rfl ?_); refine store_event (t := 36) (p := 8) (v := .tmp 29) (w1 := ((wr.setCell ⟨g8, 0, none⟩ (.int .u64 x0)).setCell ⟨g8, 1, none⟩ (.int .u64 x1))) ?hg ?ho ?hn ?hr ?_; (case ho => rfl); (case hg => rfl); (case hn => rfl); (case hr => first | (go_simp; done) | (go_simp; rfl)); intro w9 hw; clear c_g6_0 f_g6_0 c_g6_1 f_g6_1 c_g8_0 f_g8_0 c_g8_1 f_g8_1; replace B_gf := Aside0.mk (show w9.heap[gf]? = some (.cells #[.int .i64 a0] 3 (0, 0)) from (by rw [hw]; (repeat (refine blk_far ?_ N_gf_g8.out _)); exact B_gf.out)); replace B_gi := Aside0.mk (show w9.heap[gi]? = some (.cells #[.int .i64 i] 3 (0, 0)) from (by rw [hw]; (repeat (refine blk_far ?_ N_gi_g8.out _)); exact B_gi.out)); replace B_gx := Aside0.mk (show w9.heap[gx]? = some (.cells #[.int .u64 x0, .int .u64 x1] 36 (0, 0)) from (by rw [hw]; (repeat (refine blk_far ?_ N_gx_g8.out _)); exact B_gx.out)); replace B_g6 := Aside0.mk (show w9.heap[g6]? = some (.cells #[.int .u64 x0, .int .u64 x1] 36 (0, 0)) from (by rw [hw]; (repeat (refine blk_far ?_ N_g6_g8.out _)); exact B_g6.out)); replace B_g8 := Aside0.mk (show w9.heap[g8]? = some (.cells #[.int .u64 x0, .int .u64 x1] 36 (0, 0)) from (by rw [hw]; exact (blk_put (cs := #[.int .u64 x0, .int .u64 0]) (blk_put (cs := #[.int .u64 0, .int .u64 0]) B_g8.out 0 (.int .u64 x0) rfl) 1 (.int .u64 x1) rfl))); replace HS := Aside0.mk (show Stp w0 w S w9 from (by rw [hw]; exact (stp_set (stp_set HS.out G_g8.out 0 (.int .u64 x0)) G_g8.out 1 (.int .u64 x1)))); clear hw; skip)
      refine bodyPost_ret (results_cell_row rfl _ _ g8 36 #[.int .u64 x0, .int .u64 x1] (0, 0) _ rfl B_g8.out Tryd.underlying36 rfl (by kernel_rfl)) rfl ?_
      obtain rfl := HW.out
      exact ⟨rfl, stp_b HS.out⟩
    | succ k1 =>
      by_cases c3 : j < l3.length
      · have c3b : decide (j < l3.length) = true := decide_eq_true c3
        have H := HA.out
        clear HA
        rw [drop_rd l3 j c3] at H
        simp only [climbL] at H
        obtain ⟨⟨n0, n1⟩, A0, H⟩ := Option.bind_eq_some_iff.mp H
        have H' := Aside0.mk H
        clear H
        have p2 : 0 ≤ (j : Int) := by omega
        have q2 : (j : Int) < (l3.length : Int) := by omega
        have hadd : wrap64 ((j : Int) + 1) = ((j + 1 : Nat) : Int) := by have := HL.out; unfold wrap64; omega
        clear c3
        obtain ⟨ad, ea, hx0, hx1⟩ := at_T36 HR3.out (j : Int) p2 q2
        cases ea
        simp only [Int.toNat_natCast] at hx0 hx1
        have hw0 := HW.out
        replace hx0 := ((hw0 ▸ stp_b HS.out : Below w.heap.size w wr).cell (World.block_lt_of_cell? w _ hx0)).trans hx0
        replace hx1 := ((hw0 ▸ stp_b HS.out : Below w.heap.size w wr).cell (World.block_lt_of_cell? w _ hx1)).trans hx1
        clear hw0
        replace p2 := eq_true p2
        replace q2 := eq_true q2
        generalize rd_T36 l3 (j : Int) = dd at *
        cases ho : (Go.bits .and .i64 i 1 == 1) with
        | true =>
          rw [if_pos ho] at A0
          have A := Aside0.mk A0
          have HO := Aside0.mk ho
          clear A0 ho
          go_wp2_with (first
            | ((with_reducible refine gate_dst (N := 11) rfl ?_); refine box_event ?hg (N := 11) ?hd (cs := #[.int .u64 0, .int .u64 0]) (t := 36) ?hr ?_; (case hd => rfl); (case hg => rfl); (case hr => first | (go_simp; done) | (go_simp; rfl)); intro gq xg w4 y_ hb; skip; have N_gf_gq := Aside0.mk (new_ne B_gf.out xg); have N_gq_gf := Aside0.mk N_gf_gq.out.symm; have N_gi_gq := Aside0.mk (new_ne B_gi.out xg); have N_gq_gi := Aside0.mk N_gi_gq.out.symm; have N_gx_gq := Aside0.mk (new_ne B_gx.out xg); have N_gq_gx := Aside0.mk N_gx_gq.out.symm; have N_g6_gq := Aside0.mk (new_ne B_g6.out xg); have N_gq_g6 := Aside0.mk N_g6_gq.out.symm; have N_g8_gq := Aside0.mk (new_ne B_g8.out xg); have N_gq_g8 := Aside0.mk N_g8_gq.out.symm; have G_gq := Aside0.mk (stp_new HS.out xg); replace B_gf := Aside0.mk (show w4.heap[gf]? = some (.cells #[.int .i64 a0] 3 (0, 0)) from blk_below B_gf.out hb); replace B_gi := Aside0.mk (show w4.heap[gi]? = some (.cells #[.int .i64 i] 3 (0, 0)) from blk_below B_gi.out hb); replace B_gx := Aside0.mk (show w4.heap[gx]? = some (.cells #[.int .u64 x0, .int .u64 x1] 36 (0, 0)) from blk_below B_gx.out hb); replace B_g6 := Aside0.mk (show w4.heap[g6]? = some (.cells #[.int .u64 x0, .int .u64 x1] 36 (0, 0)) from blk_below B_g6.out hb); replace B_g8 := Aside0.mk (show w4.heap[g8]? = some (.cells #[.int .u64 0, .int .u64 0] 36 (0, 0)) from blk_below B_g8.out hb); replace HS := Aside0.mk (show Stp w0 w S w4 from stp_below HS.out hb); have B_gq := Aside0.mk y_; clear xg y_ hb; have c_gq_0 : w4.cell? ⟨gq, 0, none⟩ = some (.int .u64 0) := (blk_cell B_gq.out 0).trans rfl; have f_gq_0 := blk_frozen B_gq.out 0; have c_gq_1 : w4.cell? ⟨gq, 1, none⟩ = some (.int .u64 0) := (blk_cell B_gq.out 1).trans rfl; have f_gq_1 := blk_frozen B_gq.out 1)
            | ((with_reducible refine gate_store (t := 36) (p := 11) rfl ?_); refine store_event (t := 36) (p := 11) (v := .tmp 21) (w1 := ((w4.setCell ⟨gq, 0, none⟩ (.int .u64 dd.f0)).setCell ⟨gq, 1, none⟩ (.int .u64 dd.f1))) ?hg ?ho ?hn ?hr ?_; (case ho => rfl); (case hg => rfl); (case hn => rfl); (case hr => first | (go_simp; done) | (go_simp; rfl)); intro w5 hw; clear c_gq_0 f_gq_0 c_gq_1 f_gq_1; replace B_gf := Aside0.mk (show w5.heap[gf]? = some (.cells #[.int .i64 a0] 3 (0, 0)) from (by rw [hw]; (repeat (refine blk_far ?_ N_gf_gq.out _)); exact B_gf.out)); replace B_gi := Aside0.mk (show w5.heap[gi]? = some (.cells #[.int .i64 i] 3 (0, 0)) from (by rw [hw]; (repeat (refine blk_far ?_ N_gi_gq.out _)); exact B_gi.out)); replace B_gx := Aside0.mk (show w5.heap[gx]? = some (.cells #[.int .u64 x0, .int .u64 x1] 36 (0, 0)) from (by rw [hw]; (repeat (refine blk_far ?_ N_gx_gq.out _)); exact B_gx.out)); replace B_g6 := Aside0.mk (show w5.heap[g6]? = some (.cells #[.int .u64 x0, .int .u64 x1] 36 (0, 0)) from (by rw [hw]; (repeat (refine blk_far ?_ N_g6_gq.out _)); exact B_g6.out)); replace B_g8 := Aside0.mk (show w5.heap[g8]? = some (.cells #[.int .u64 0, .int .u64 0] 36 (0, 0)) from (by rw [hw]; (repeat (refine blk_far ?_ N_g8_gq.out _)); exact B_g8.out)); replace B_gq := Aside0.mk (show w5.heap[gq]? = some (.cells #[.int .u64 dd.f0, .int .u64 dd.f1] 36 (0, 0)) from (by rw [hw]; exact (blk_put (cs := #[.int .u64 dd.f0, .int .u64 0]) (blk_put (cs := #[.int .u64 0, .int .u64 0]) B_gq.out 0 (.int .u64 dd.f0) rfl) 1 (.int .u64 dd.f1) rfl))); replace HS := Aside0.mk (show Stp w0 w S w5 from (by rw [hw]; exact (stp_set (stp_set HS.out G_gq.out 0 (.int .u64 dd.f0)) G_gq.out 1 (.int .u64 dd.f1)))); clear hw; have c_gq_0 : w5.cell? ⟨gq, 0, none⟩ = some (.int .u64 dd.f0) := (blk_cell B_gq.out 0).trans rfl; have f_gq_0 := blk_frozen B_gq.out 0; have c_gq_1 : w5.cell? ⟨gq, 1, none⟩ = some (.int .u64 dd.f1) := (blk_cell B_gq.out 1).trans rfl; have f_gq_1 := blk_frozen B_gq.out 1)
            | (go_at_call 64; (with_reducible refine (climber1_odd a0 i x0 x1 dd.f0 dd.f1 n0 n1 gf gi gx w0 _ (HW.out ▸ HRG.out) (stp_b HS.out) B_gf.out B_gi.out B_gx.out N_gf_gi.out G_gf.out.1 G_gi.out.1 G_gx.out.1 HO.out A.out).mono ?_); rintro e w6 ⟨rfl, hs, bf, bi, bx⟩; clear c_gq_0 f_gq_0 c_gq_1 f_gq_1; replace B_gf := Aside0.mk (show w6.heap[gf]? = some (.cells #[.int .i64 a0] 3 (0, 0)) from bf); replace B_gi := Aside0.mk (show w6.heap[gi]? = some (.cells #[.int .i64 (i / 2)] 3 (0, 0)) from bi); replace B_gx := Aside0.mk (show w6.heap[gx]? = some (.cells #[.int .u64 n0, .int .u64 n1] 36 (0, 0)) from bx); replace B_g6 := Aside0.mk (show w6.heap[g6]? = some (.cells #[.int .u64 x0, .int .u64 x1] 36 (0, 0)) from blk_kept B_g6.out (stp_k hs) (fun h_ => h_.elim N_g6_gi.out N_g6_gx.out)); replace B_g8 := Aside0.mk (show w6.heap[g8]? = some (.cells #[.int .u64 0, .int .u64 0] 36 (0, 0)) from blk_kept B_g8.out (stp_k hs) (fun h_ => h_.elim N_g8_gi.out N_g8_gx.out)); replace B_gq := Aside0.mk (show w6.heap[gq]? = some (.cells #[.int .u64 dd.f0, .int .u64 dd.f1] 36 (0, 0)) from blk_kept B_gq.out (stp_k hs) (fun h_ => h_.elim N_gq_gi.out N_gq_gx.out)); replace HS := Aside0.mk (show Stp w0 w S w6 from stp_trans HS.out hs (fun g_ h_ => h_.elim (fun e_ => e_ ▸ G_gi.out.2) (fun e_ => e_ ▸ G_gx.out.2))); clear hs bf bi bx; have c_g6_0 : w6.cell? ⟨g6, 0, none⟩ = some (.int .u64 x0) := (blk_cell B_g6.out 0).trans rfl; have f_g6_0 := blk_frozen B_g6.out 0; have c_g6_1 : w6.cell? ⟨g6, 1, none⟩ = some (.int .u64 x1) := (blk_cell B_g6.out 1).trans rfl; have f_g6_1 := blk_frozen B_g6.out 1)
            | ((with_reducible refine gate_store (t := 36) (p := 6) rfl ?_); refine store_event (t := 36) (p := 6) (v := .tmp 27) (w1 := ((w6.setCell ⟨g6, 0, none⟩ (.int .u64 n0)).setCell ⟨g6, 1, none⟩ (.int .u64 n1))) ?hg ?ho ?hn ?hr ?_; (case ho => rfl); (case hg => rfl); (case hn => rfl); (case hr => first | (go_simp; done) | (go_simp; rfl)); intro w7 hw; clear c_g6_0 f_g6_0 c_g6_1 f_g6_1; replace B_gf := Aside0.mk (show w7.heap[gf]? = some (.cells #[.int .i64 a0] 3 (0, 0)) from (by rw [hw]; (repeat (refine blk_far ?_ N_gf_g6.out _)); exact B_gf.out)); replace B_gi := Aside0.mk (show w7.heap[gi]? = some (.cells #[.int .i64 (i / 2)] 3 (0, 0)) from (by rw [hw]; (repeat (refine blk_far ?_ N_gi_g6.out _)); exact B_gi.out)); replace B_gx := Aside0.mk (show w7.heap[gx]? = some (.cells #[.int .u64 n0, .int .u64 n1] 36 (0, 0)) from (by rw [hw]; (repeat (refine blk_far ?_ N_gx_g6.out _)); exact B_gx.out)); replace B_g6 := Aside0.mk (show w7.heap[g6]? = some (.cells #[.int .u64 n0, .int .u64 n1] 36 (0, 0)) from (by rw [hw]; exact (blk_put (cs := #[.int .u64 n0, .int .u64 x1]) (blk_put (cs := #[.int .u64 x0, .int .u64 x1]) B_g6.out 0 (.int .u64 n0) rfl) 1 (.int .u64 n1) rfl))); replace B_g8 := Aside0.mk (show w7.heap[g8]? = some (.cells #[.int .u64 0, .int .u64 0] 36 (0, 0)) from (by rw [hw]; (repeat (refine blk_far ?_ N_g8_g6.out _)); exact B_g8.out)); replace B_gq := Aside0.mk (show w7.heap[gq]? = some (.cells #[.int .u64 dd.f0, .int .u64 dd.f1] 36 (0, 0)) from (by rw [hw]; (repeat (refine blk_far ?_ N_gq_g6.out _)); exact B_gq.out)); replace HS := Aside0.mk (show Stp w0 w S w7 from (by rw [hw]; exact (stp_set (stp_set HS.out G_g6.out 0 (.int .u64 n0)) G_g6.out 1 (.int .u64 n1)))); clear hw; skip))
          go_roundg k1
          case measure => omega
          case rel => exact ⟨j + 1, i / 2, n0, n1, by rw [hadd], H', ⟨by have := HK.out; omega⟩, B_gf, B_gi, B_gx, B_g6, B_g8, HS⟩
        | false =>
          rw [if_neg (by rw [ho]; decide)] at A0
          have A := Aside0.mk A0
          have HO := Aside0.mk ho
          clear A0 ho
          go_wp2_with (first
            | ((with_reducible refine gate_dst (N := 11) rfl ?_); refine box_event ?hg (N := 11) ?hd (cs := #[.int .u64 0, .int .u64 0]) (t := 36) ?hr ?_; (case hd => rfl); (case hg => rfl); (case hr => first | (go_simp; done) | (go_simp; rfl)); intro gq xg w4 y_ hb; skip; have N_gf_gq := Aside0.mk (new_ne B_gf.out xg); have N_gq_gf := Aside0.mk N_gf_gq.out.symm; have N_gi_gq := Aside0.mk (new_ne B_gi.out xg); have N_gq_gi := Aside0.mk N_gi_gq.out.symm; have N_gx_gq := Aside0.mk (new_ne B_gx.out xg); have N_gq_gx := Aside0.mk N_gx_gq.out.symm; have N_g6_gq := Aside0.mk (new_ne B_g6.out xg); have N_gq_g6 := Aside0.mk N_g6_gq.out.symm; have N_g8_gq := Aside0.mk (new_ne B_g8.out xg); have N_gq_g8 := Aside0.mk N_g8_gq.out.symm; have G_gq := Aside0.mk (stp_new HS.out xg); replace B_gf := Aside0.mk (show w4.heap[gf]? = some (.cells #[.int .i64 a0] 3 (0, 0)) from blk_below B_gf.out hb); replace B_gi := Aside0.mk (show w4.heap[gi]? = some (.cells #[.int .i64 i] 3 (0, 0)) from blk_below B_gi.out hb); replace B_gx := Aside0.mk (show w4.heap[gx]? = some (.cells #[.int .u64 x0, .int .u64 x1] 36 (0, 0)) from blk_below B_gx.out hb); replace B_g6 := Aside0.mk (show w4.heap[g6]? = some (.cells #[.int .u64 x0, .int .u64 x1] 36 (0, 0)) from blk_below B_g6.out hb); replace B_g8 := Aside0.mk (show w4.heap[g8]? = some (.cells #[.int .u64 0, .int .u64 0] 36 (0, 0)) from blk_below B_g8.out hb); replace HS := Aside0.mk (show Stp w0 w S w4 from stp_below HS.out hb); have B_gq := Aside0.mk y_; clear xg y_ hb; have c_gq_0 : w4.cell? ⟨gq, 0, none⟩ = some (.int .u64 0) := (blk_cell B_gq.out 0).trans rfl; have f_gq_0 := blk_frozen B_gq.out 0; have c_gq_1 : w4.cell? ⟨gq, 1, none⟩ = some (.int .u64 0) := (blk_cell B_gq.out 1).trans rfl; have f_gq_1 := blk_frozen B_gq.out 1)
            | ((with_reducible refine gate_store (t := 36) (p := 11) rfl ?_); refine store_event (t := 36) (p := 11) (v := .tmp 21) (w1 := ((w4.setCell ⟨gq, 0, none⟩ (.int .u64 dd.f0)).setCell ⟨gq, 1, none⟩ (.int .u64 dd.f1))) ?hg ?ho ?hn ?hr ?_; (case ho => rfl); (case hg => rfl); (case hn => rfl); (case hr => first | (go_simp; done) | (go_simp; rfl)); intro w5 hw; clear c_gq_0 f_gq_0 c_gq_1 f_gq_1; replace B_gf := Aside0.mk (show w5.heap[gf]? = some (.cells #[.int .i64 a0] 3 (0, 0)) from (by rw [hw]; (repeat (refine blk_far ?_ N_gf_gq.out _)); exact B_gf.out)); replace B_gi := Aside0.mk (show w5.heap[gi]? = some (.cells #[.int .i64 i] 3 (0, 0)) from (by rw [hw]; (repeat (refine blk_far ?_ N_gi_gq.out _)); exact B_gi.out)); replace B_gx := Aside0.mk (show w5.heap[gx]? = some (.cells #[.int .u64 x0, .int .u64 x1] 36 (0, 0)) from (by rw [hw]; (repeat (refine blk_far ?_ N_gx_gq.out _)); exact B_gx.out)); replace B_g6 := Aside0.mk (show w5.heap[g6]? = some (.cells #[.int .u64 x0, .int .u64 x1] 36 (0, 0)) from (by rw [hw]; (repeat (refine blk_far ?_ N_g6_gq.out _)); exact B_g6.out)); replace B_g8 := Aside0.mk (show w5.heap[g8]? = some (.cells #[.int .u64 0, .int .u64 0] 36 (0, 0)) from (by rw [hw]; (repeat (refine blk_far ?_ N_g8_gq.out _)); exact B_g8.out)); replace B_gq := Aside0.mk (show w5.heap[gq]? = some (.cells #[.int .u64 dd.f0, .int .u64 dd.f1] 36 (0, 0)) from (by rw [hw]; exact (blk_put (cs := #[.int .u64 dd.f0, .int .u64 0]) (blk_put (cs := #[.int .u64 0, .int .u64 0]) B_gq.out 0 (.int .u64 dd.f0) rfl) 1 (.int .u64 dd.f1) rfl))); replace HS := Aside0.mk (show Stp w0 w S w5 from (by rw [hw]; exact (stp_set (stp_set HS.out G_gq.out 0 (.int .u64 dd.f0)) G_gq.out 1 (.int .u64 dd.f1)))); clear hw; have c_gq_0 : w5.cell? ⟨gq, 0, none⟩ = some (.int .u64 dd.f0) := (blk_cell B_gq.out 0).trans rfl; have f_gq_0 := blk_frozen B_gq.out 0; have c_gq_1 : w5.cell? ⟨gq, 1, none⟩ = some (.int .u64 dd.f1) := (blk_cell B_gq.out 1).trans rfl; have f_gq_1 := blk_frozen B_gq.out 1)
            | (go_at_call 64; (with_reducible refine (climber1_even a0 i x0 x1 dd.f0 dd.f1 n0 n1 gf gi gx w0 _ (HW.out ▸ HRG.out) (stp_b HS.out) B_gf.out B_gi.out B_gx.out N_gf_gi.out G_gf.out.1 G_gi.out.1 G_gx.out.1 HO.out A.out).mono ?_); rintro e w6 ⟨rfl, hs, bf, bi, bx⟩; clear c_gq_0 f_gq_0 c_gq_1 f_gq_1; replace B_gf := Aside0.mk (show w6.heap[gf]? = some (.cells #[.int .i64 a0] 3 (0, 0)) from bf); replace B_gi := Aside0.mk (show w6.heap[gi]? = some (.cells #[.int .i64 (i / 2)] 3 (0, 0)) from bi); replace B_gx := Aside0.mk (show w6.heap[gx]? = some (.cells #[.int .u64 n0, .int .u64 n1] 36 (0, 0)) from bx); replace B_g6 := Aside0.mk (show w6.heap[g6]? = some (.cells #[.int .u64 x0, .int .u64 x1] 36 (0, 0)) from blk_kept B_g6.out (stp_k hs) (fun h_ => h_.elim N_g6_gi.out N_g6_gx.out)); replace B_g8 := Aside0.mk (show w6.heap[g8]? = some (.cells #[.int .u64 0, .int .u64 0] 36 (0, 0)) from blk_kept B_g8.out (stp_k hs) (fun h_ => h_.elim N_g8_gi.out N_g8_gx.out)); replace B_gq := Aside0.mk (show w6.heap[gq]? = some (.cells #[.int .u64 dd.f0, .int .u64 dd.f1] 36 (0, 0)) from blk_kept B_gq.out (stp_k hs) (fun h_ => h_.elim N_gq_gi.out N_gq_gx.out)); replace HS := Aside0.mk (show Stp w0 w S w6 from stp_trans HS.out hs (fun g_ h_ => h_.elim (fun e_ => e_ ▸ G_gi.out.2) (fun e_ => e_ ▸ G_gx.out.2))); clear hs bf bi bx; have c_g6_0 : w6.cell? ⟨g6, 0, none⟩ = some (.int .u64 x0) := (blk_cell B_g6.out 0).trans rfl; have f_g6_0 := blk_frozen B_g6.out 0; have c_g6_1 : w6.cell? ⟨g6, 1, none⟩ = some (.int .u64 x1) := (blk_cell B_g6.out 1).trans rfl; have f_g6_1 := blk_frozen B_g6.out 1)
            | ((with_reducible refine gate_store (t := 36) (p := 6) rfl ?_); refine store_event (t := 36) (p := 6) (v := .tmp 27) (w1 := ((w6.setCell ⟨g6, 0, none⟩ (.int .u64 n0)).setCell ⟨g6, 1, none⟩ (.int .u64 n1))) ?hg ?ho ?hn ?hr ?_; (case ho => rfl); (case hg => rfl); (case hn => rfl); (case hr => first | (go_simp; done) | (go_simp; rfl)); intro w7 hw; clear c_g6_0 f_g6_0 c_g6_1 f_g6_1; replace B_gf := Aside0.mk (show w7.heap[gf]? = some (.cells #[.int .i64 a0] 3 (0, 0)) from (by rw [hw]; (repeat (refine blk_far ?_ N_gf_g6.out _)); exact B_gf.out)); replace B_gi := Aside0.mk (show w7.heap[gi]? = some (.cells #[.int .i64 (i / 2)] 3 (0, 0)) from (by rw [hw]; (repeat (refine blk_far ?_ N_gi_g6.out _)); exact B_gi.out)); replace B_gx := Aside0.mk (show w7.heap[gx]? = some (.cells #[.int .u64 n0, .int .u64 n1] 36 (0, 0)) from (by rw [hw]; (repeat (refine blk_far ?_ N_gx_g6.out _)); exact B_gx.out)); replace B_g6 := Aside0.mk (show w7.heap[g6]? = some (.cells #[.int .u64 n0, .int .u64 n1] 36 (0, 0)) from (by rw [hw]; exact (blk_put (cs := #[.int .u64 n0, .int .u64 x1]) (blk_put (cs := #[.int .u64 x0, .int .u64 x1]) B_g6.out 0 (.int .u64 n0) rfl) 1 (.int .u64 n1) rfl))); replace B_g8 := Aside0.mk (show w7.heap[g8]? = some (.cells #[.int .u64 0, .int .u64 0] 36 (0, 0)) from (by rw [hw]; (repeat (refine blk_far ?_ N_g8_g6.out _)); exact B_g8.out)); replace B_gq := Aside0.mk (show w7.heap[gq]? = some (.cells #[.int .u64 dd.f0, .int .u64 dd.f1] 36 (0, 0)) from (by rw [hw]; (repeat (refine blk_far ?_ N_gq_g6.out _)); exact B_gq.out)); replace HS := Aside0.mk (show Stp w0 w S w7 from (by rw [hw]; exact (stp_set (stp_set HS.out G_g6.out 0 (.int .u64 n0)) G_g6.out 1 (.int .u64 n1)))); clear hw; skip))
          go_roundg k1
          case measure => omega
          case rel => exact ⟨j + 1, i / 2, n0, n1, by rw [hadd], H', ⟨by have := HK.out; omega⟩, B_gf, B_gi, B_gx, B_g6, B_g8, HS⟩
      · have c3b : decide (j < l3.length) = false := decide_eq_false c3
        obtain ⟨rfl, rfl⟩ : x0 = r1 ∧ x1 = r2 := by have h1 := HA.out; rw [List.drop_eq_nil_of_le (by omega)] at h1; simpa [climbL] using h1
        clear HA
        have c_g6_0 : wr.cell? ⟨g6, 0, none⟩ = some (.int .u64 x0) := (blk_cell B_g6.out 0).trans rfl
        have f_g6_0 := blk_frozen B_g6.out 0
        have c_g6_1 : wr.cell? ⟨g6, 1, none⟩ = some (.int .u64 x1) := (blk_cell B_g6.out 1).trans rfl
        have f_g6_1 := blk_frozen B_g6.out 1
        have c_g8_0 : wr.cell? ⟨g8, 0, none⟩ = some (.int .u64 0) := (blk_cell B_g8.out 0).trans rfl
        have f_g8_0 := blk_frozen B_g8.out 0
        have c_g8_1 : wr.cell? ⟨g8, 1, none⟩ = some (.int .u64 0) := (blk_cell B_g8.out 1).trans rfl
        have f_g8_1 := blk_frozen B_g8.out 1
        go_wp2_with ((with_reducible refine gate_store (t := 36) (p := 8) rfl ?_); refine store_event (t := 36) (p := 8) (v := .tmp 29) (w1 := ((wr.setCell ⟨g8, 0, none⟩ (.int .u64 x0)).setCell ⟨g8, 1, none⟩ (.int .u64 x1))) ?hg ?ho ?hn ?hr ?_; (case ho => rfl); (case hg => rfl); (case hn => rfl); (case hr => first | (go_simp; done) | (go_simp; rfl)); intro w9 hw; clear c_g6_0 f_g6_0 c_g6_1 f_g6_1 c_g8_0 f_g8_0 c_g8_1 f_g8_1; replace B_gf := Aside0.mk (show w9.heap[gf]? = some (.cells #[.int .i64 a0] 3 (0, 0)) from (by rw [hw]; (repeat (refine blk_far ?_ N_gf_g8.out _)); exact B_gf.out)); replace B_gi := Aside0.mk (show w9.heap[gi]? = some (.cells #[.int .i64 i] 3 (0, 0)) from (by rw [hw]; (repeat (refine blk_far ?_ N_gi_g8.out _)); exact B_gi.out)); replace B_gx := Aside0.mk (show w9.heap[gx]? = some (.cells #[.int .u64 x0, .int .u64 x1] 36 (0, 0)) from (by rw [hw]; (repeat (refine blk_far ?_ N_gx_g8.out _)); exact B_gx.out)); replace B_g6 := Aside0.mk (show w9.heap[g6]? = some (.cells #[.int .u64 x0, .int .u64 x1] 36 (0, 0)) from (by rw [hw]; (repeat (refine blk_far ?_ N_g6_g8.out _)); exact B_g6.out)); replace B_g8 := Aside0.mk (show w9.heap[g8]? = some (.cells #[.int .u64 x0, .int .u64 x1] 36 (0, 0)) from (by rw [hw]; exact (blk_put (cs := #[.int .u64 x0, .int .u64 0]) (blk_put (cs := #[.int .u64 0, .int .u64 0]) B_g8.out 0 (.int .u64 x0) rfl) 1 (.int .u64 x1) rfl))); replace HS := Aside0.mk (show Stp w0 w S w9 from (by rw [hw]; exact (stp_set (stp_set HS.out G_g8.out 0 (.int .u64 x0)) G_g8.out 1 (.int .u64 x1)))); clear hw; skip)
        refine bodyPost_ret (results_cell_row rfl _ _ g8 36 #[.int .u64 x0, .int .u64 x1] (0, 0) _ rfl B_g8.out Tryd.underlying36 rfl (by kernel_rfl)) rfl ?_
        obtain rfl := HW.out
        exact ⟨rfl, stp_b HS.out⟩
end Go.Proofs.YtpnpmeogffodgaaDoor.Q
end
section
namespace Go.Proofs.YtpnpmeogffodgaaDoor.Q
open Go.RowKit Go.Proofs.YtpnpmeogffodgaaDoorW.PrintWords Go.Proofs.YtpnpmeogffodgaaDoorW.PrintLast Go.Proofs.YtpnpmeogffodgaaDoorW.PrintMore
set_option linter.unusedVariables false
set_option linter.unusedSimpArgs false
/-- The place of the one bit of a power of two. -/
def lgI (n : Int) : Int := if n = 1 then 0 else if n = 2 then 1 else if n = 4 then 2 else if n = 8 then 3 else if n = 16 then 4 else if n = 32 then 5 else if n = 64 then 6 else if n = 128 then 7 else if n = 256 then 8 else if n = 512 then 9 else if n = 1024 then 10 else if n = 2048 then 11 else if n = 4096 then 12 else if n = 8192 then 13 else if n = 16384 then 14 else if n = 32768 then 15 else if n = 65536 then 16 else if n = 131072 then 17 else if n = 262144 then 18 else -1
theorem and_nat (n : Nat) (h : n < 1000000) (h1 : 1 ≤ n) : Go.bits .and .i64 (n : Int) (wrap64 ((n : Int) - 1)) = ((n &&& (n - 1) : Nat) : Int) := by
  have e : wrap64 ((n : Int) - 1) = ((n - 1 : Nat) : Int) := by unfold wrap64; omega
  rw [e]
  have h3 : n &&& (n - 1) ≤ n := Nat.and_le_left
  have hh : ∀ m : Nat, m < 1000000 → (BitVec.ofInt 64 (m : Int)).toNat = m := fun m hm => by
    rw [BitVec.ofInt_natCast, BitVec.toNat_ofNat]; exact Nat.mod_eq_of_lt (by omega)
  show IntKind.i64.wrap ((BitVec.ofInt 64 (n : Int) &&& BitVec.ofInt 64 ((n - 1 : Nat) : Int)).toNat : Int) = _
  rw [BitVec.toNat_and, hh n h, hh (n - 1) (by omega), IntKind.wrap_i64]
  omega
theorem pow_of_and : ∀ n : Nat, 0 < n → n &&& (n - 1) = 0 → ∃ k, n = 2 ^ k := by
  intro n
  induction n using Nat.strongRecOn with
  | ind n ih =>
    intro h0 h
    have hd := congrArg (· / 2) h
    simp only [Nat.and_div_two] at hd
    rcases Nat.mod_two_eq_zero_or_one n with e | e
    · have e1 : (n - 1) / 2 = n / 2 - 1 := by omega
      rw [e1] at hd
      obtain ⟨k, hk⟩ := ih (n / 2) (by omega) (by omega) (by simpa using hd)
      exact ⟨k + 1, by rw [Nat.pow_succ, ← hk]; omega⟩
    · have e1 : (n - 1) / 2 = n / 2 := by omega
      rw [e1, Nat.and_self] at hd
      exact ⟨0, by omega⟩
theorem tz64_calls (n : Int) (k idx : Nat) (w : World) (hx0 : (n == 0) = false)
    (key : IntKind.u64.wrap (Go.bits BinOp.and IntKind.u64 n (IntKind.u64.wrap (-n)) * 285870213051353865) / 288230376151711744 = (idx : Int))
    (hi : idx < 64) (hk : k < 64) (hcell : w.cell? ⟨1, idx, none⟩ = some (.int .u8 (k : Int))) :
    Calls Tryd.prog 69 #[.int .u64 n] w fun e w' => e = .returned (.int .i64 (k : Int)) ∧ w' = w := by
  have hu := Tryd.underlying100
  have hi2 : ((idx : Int) < 64) = True := eq_true (by omega)
  have hi3 : (0 ≤ (idx : Int)) = True := eq_true (by omega)
  go_enter Tryd.func69, Tryd.ntmps69
  go_wp2_with (simp only [key])
  go_ret
  exact ⟨rfl, rfl⟩
theorem tz_calls (n : Int) (k idx : Nat) (w : World) (hx0 : (n == 0) = false)
    (key : IntKind.u64.wrap (Go.bits BinOp.and IntKind.u64 n (IntKind.u64.wrap (-n)) * 285870213051353865) / 288230376151711744 = (idx : Int))
    (hi : idx < 64) (hk : k < 64) (hcell : w.cell? ⟨1, idx, none⟩ = some (.int .u8 (k : Int))) :
    Calls Tryd.prog 57 #[.int .u64 n] w fun e w' => e = .returned (.int .i64 (k : Int)) ∧ w' = w := by
  have C := Aside0.mk (tz64_calls n k idx w hx0 key hi hk hcell)
  clear key hcell hx0
  go_enter Tryd.func57, Tryd.ntmps57
  go_wp2_with (go_at_call 69; refine C.out.mono ?_; rintro e w' ⟨rfl, hw'⟩; rw [hw'])
  go_ret
  exact ⟨rfl, rfl⟩
/-- The nineteen powers of two. -/
theorem keys : ∀ k : Fin 19, IntKind.u64.wrap (Go.bits BinOp.and IntKind.u64 (2 ^ (k : Nat) : Nat) (IntKind.u64.wrap (-((2 ^ (k : Nat) : Nat) : Int))) * 285870213051353865) / 288230376151711744 = (((2 ^ (k : Nat) * 285870213051353865 % 18446744073709551616) / 288230376151711744 : Nat) : Int) ∧ (2 ^ (k : Nat) * 285870213051353865 % 18446744073709551616) / 288230376151711744 < 64 ∧ db64.getD ((2 ^ (k : Nat) * 285870213051353865 % 18446744073709551616) / 288230376151711744) 0 = ((k : Nat) : Int) ∧ lgI (2 ^ (k : Nat) : Nat) = ((k : Nat) : Int) := by decide +kernel
theorem tz_pow (k : Nat) (hk : k < 19) (w : World) (hG : GL w) : Calls Tryd.prog 57 #[.int .u64 ((2 ^ k : Nat) : Int)] w fun e w' => e = .returned (.int .i64 (k : Int)) ∧ w' = w := by
  obtain ⟨h1, h2, h3, _⟩ := keys ⟨k, hk⟩
  refine tz_calls _ k _ w ?_ h1 h2 (by omega) ?_
  · have := Nat.pow_pos (n := k) (show 0 < 2 by decide)
    exact beq_eq_false_iff_ne.mpr (by omega)
  · rw [hG.d64 _ h2, h3]
def tree_height.f (n : Int) : Option Int := some (if n < 1 then -1 else lgI n)
theorem lgI_none (n : Int) (h : ∀ k : Nat, k < 19 → n ≠ ((2 ^ k : Nat) : Int)) : lgI n = -1 := by
  have a0 : n ≠ 1 := h 0 (by omega)
  have a1 : n ≠ 2 := h 1 (by omega)
  have a2 : n ≠ 4 := h 2 (by omega)
  have a3 : n ≠ 8 := h 3 (by omega)
  have a4 : n ≠ 16 := h 4 (by omega)
  have a5 : n ≠ 32 := h 5 (by omega)
  have a6 : n ≠ 64 := h 6 (by omega)
  have a7 : n ≠ 128 := h 7 (by omega)
  have a8 : n ≠ 256 := h 8 (by omega)
  have a9 : n ≠ 512 := h 9 (by omega)
  have a10 : n ≠ 1024 := h 10 (by omega)
  have a11 : n ≠ 2048 := h 11 (by omega)
  have a12 : n ≠ 4096 := h 12 (by omega)
  have a13 : n ≠ 8192 := h 13 (by omega)
  have a14 : n ≠ 16384 := h 14 (by omega)
  have a15 : n ≠ 32768 := h 15 (by omega)
  have a16 : n ≠ 65536 := h 16 (by omega)
  have a17 : n ≠ 131072 := h 17 (by omega)
  have a18 : n ≠ 262144 := h 18 (by omega)
  unfold lgI
  rw [if_neg a0, if_neg a1, if_neg a2, if_neg a3, if_neg a4, if_neg a5, if_neg a6, if_neg a7, if_neg a8, if_neg a9, if_neg a10, if_neg a11, if_neg a12, if_neg a13, if_neg a14, if_neg a15, if_neg a16, if_neg a17, if_neg a18]
theorem height_no (n : Int) (w : World) (h : n < 1 ∨ 262144 < n ∨ (1 ≤ n ∧ n ≤ 262144 ∧ Go.bits .and .i64 n (wrap64 (n - 1)) ≠ 0)) : Calls Tryd.prog 37 #[.int .i64 n] w fun e w' => e = .returned (.int .i64 (-1)) ∧ w' = w := by
  rcases h with h | h | ⟨h1, h2, h3⟩
  · have c0 : decide (n < 1) = true := decide_eq_true h
    clear h
    go_enter Tryd.func37, Tryd.ntmps37
    go_wp2
    go_ret
    exact ⟨rfl, rfl⟩
  · have c0 : decide (n < 1) = false := decide_eq_false (by omega)
    have c1 : decide (262144 < n) = true := decide_eq_true h
    clear h
    go_enter Tryd.func37, Tryd.ntmps37
    go_wp2
    go_ret
    exact ⟨rfl, rfl⟩
  · have c0 : decide (n < 1) = false := decide_eq_false (by omega)
    have c1 : decide (262144 < n) = false := decide_eq_false (by omega)
    have c2 : (Go.bits .and .i64 n (wrap64 (n - 1)) == 0) = false := beq_eq_false_iff_ne.mpr h3
    clear h1 h2 h3
    go_enter Tryd.func37, Tryd.ntmps37
    go_wp2
    go_ret
    exact ⟨rfl, rfl⟩
theorem height_yes (n : Int) (k : Nat) (w : World) (c0 : decide (n < 1) = false) (c1 : decide (262144 < n) = false) (c2 : (Go.bits .and .i64 n (wrap64 (n - 1)) == 0) = true) (hw : IntKind.u64.wrap n = n)
    (C : Aside0 (Calls Tryd.prog 57 #[.int .u64 n] w fun e w' => e = .returned (.int .i64 (k : Int)) ∧ w' = w)) : Calls Tryd.prog 37 #[.int .i64 n] w fun e w' => e = .returned (.int .i64 (k : Int)) ∧ w' = w := by
  go_enter Tryd.func37, Tryd.ntmps37
  go_wp2_with (first | (simp only [hw]; done) | (go_at_call 57; (try simp only [hw]); refine C.out.mono ?_; rintro e w' ⟨rfl, hw'⟩; rw [hw']))
  go_ret
  exact ⟨rfl, rfl⟩
theorem height_pow (k : Nat) (hk : k < 19) (w : World) (hG : GL w) : Calls Tryd.prog 37 #[.int .i64 ((2 ^ k : Nat) : Int)] w fun e w' => e = .returned (.int .i64 (k : Int)) ∧ w' = w := by
  have hp := Nat.pow_pos (n := k) (show 0 < 2 by decide)
  have hq : 2 ^ k ≤ 2 ^ 18 := Nat.pow_le_pow_right (by decide) (by omega)
  have e3 : ((2 ^ k : Nat) &&& (2 ^ k - 1)) = 0 := by rw [Nat.and_two_pow_sub_one_eq_mod, Nat.mod_self]
  have e4 := and_nat (2 ^ k) (by omega) hp
  rw [e3] at e4
  refine height_yes _ k w (decide_eq_false (by omega)) (decide_eq_false (by omega)) (by rw [e4]; rfl) ?_ ⟨tz_pow k hk w hG⟩
  rw [IntKind.wrap_u64]
  omega
theorem tree_height.calls (a0 : Int) (r : Int) (w : World) (hrG : GL w) (h : tree_height.f a0 = some r) : Calls Tryd.prog 37 #[.int .i64 a0] w fun e w' => e = .returned (.int .i64 r) ∧ Below w.heap.size w w' := by
  have fin : ∀ {x : Int}, x = r → (Calls Tryd.prog 37 #[.int .i64 a0] w fun e w' => e = .returned (.int .i64 x) ∧ w' = w) → Calls Tryd.prog 37 #[.int .i64 a0] w fun e w' => e = .returned (.int .i64 r) ∧ Below w.heap.size w w' := by
    intro x e c
    subst e
    refine c.mono ?_
    rintro e w' ⟨rfl, rfl⟩
    exact ⟨rfl, Below.refl _ _⟩
  obtain rfl := Option.some.inj h
  clear h
  by_cases h0 : a0 < 1
  · exact fin (by rw [if_pos h0]) (height_no a0 w (.inl h0))
  · rw [if_neg h0] at fin ⊢
    by_cases hp : ∃ k : Nat, k < 19 ∧ a0 = ((2 ^ k : Nat) : Int)
    · obtain ⟨k, hk, rfl⟩ := hp
      exact fin (keys ⟨k, hk⟩).2.2.2.symm (height_pow k hk w hrG)
    · have hn : lgI a0 = -1 := lgI_none a0 fun k hk e => hp ⟨k, hk, e⟩
      refine fin hn.symm (height_no a0 w ?_)
      by_cases h1 : 262144 < a0
      · exact .inr (.inl h1)
      · refine .inr (.inr ⟨by omega, by omega, fun hz => ?_⟩)
        obtain ⟨n, rfl⟩ := Int.eq_ofNat_of_zero_le (show 0 ≤ a0 by omega)
        rw [and_nat n (by omega) (by omega)] at hz
        obtain ⟨k, hk⟩ := pow_of_and n (by omega) (by omega)
        subst hk
        refine hp ⟨k, ?_, rfl⟩
        rcases Nat.lt_or_ge k 19 with h | h
        · exact h
        · have := Nat.pow_le_pow_right (show 0 < 2 by decide) h
          omega
end Go.Proofs.YtpnpmeogffodgaaDoor.Q
end
section
namespace Go.Proofs.YtpnpmeogffodgaaDoor.Q
open Go.RowKit Go.Proofs.YtpnpmeogffodgaaDoorW.PrintWords Go.Proofs.YtpnpmeogffodgaaDoorW.PrintLast Go.Proofs.YtpnpmeogffodgaaDoorW.PrintMore
attribute [local go_sem] max2_int min2_int max_two min_two max_three min_three max_four min_four run_store_fnV run_store_fnc run_store_nfn   -- for this text's walks alone
set_option linter.unusedVariables false
set_option linter.unusedSimpArgs false

attribute [local go_sem high] eqA36
abbrev z26_0_ : Array Bool := #[false, false, false, false, false, false, false, false, false, false, false, false, false, false]
abbrev z26_1_ : Array Bool := #[true, false, false, false, false, false, false, false, false, false, false, false, false, false]
abbrev z26_2_ : Array Bool := #[true, true, false, false, false, false, false, false, false, false, false, false, false, false]
abbrev z26_3_ : Array Bool := #[true, true, false, true, false, false, false, false, false, false, false, false, false, false]
abbrev z26_4_ : Array Bool := #[true, true, false, true, false, true, false, false, false, false, false, false, false, false]
abbrev z26_5_ : Array Bool := #[true, true, false, true, false, true, true, false, false, false, false, false, false, false]
abbrev z26_6_ : Array Bool := #[true, true, false, true, false, true, true, true, false, false, false, false, false, false]
abbrev z26_7_ : Array Bool := #[true, true, false, true, false, true, true, true, true, false, false, false, false, false]
abbrev z26_8_ : Array Bool := #[true, true, false, true, false, true, true, true, true, true, false, false, false, false]
abbrev z26_9_ : Array Bool := #[true, true, false, true, false, true, true, true, true, true, true, false, false, false]
abbrev z26_10_ : Array Bool := #[true, true, true, true, false, true, true, true, true, true, true, false, false, false]
abbrev z26_11_ : Array Bool := #[true, true, true, true, false, true, true, true, true, true, true, true, false, false]
abbrev z26_12_ : Array Bool := #[true, true, true, true, true, true, true, true, true, true, true, true, false, false]
abbrev z26_13_ : Array Bool := #[true, true, true, true, true, true, true, true, true, true, true, true, true, false]
abbrev z26_14_ : Array Bool := #[true, true, true, true, true, true, true, true, true, true, true, true, true, true]
/-! ### tree_Check: function 26 -/
def tree_Check.f (a0 : Int) (l1 : List (S36)) (a2 : Int) (a3_0 : Int) (a3_1 : Int) (l4 : List (S36)) : Option (Bool) := (tree_height.f (l1.length : Int)).bind fun t188 => (if t188 < 0 then (some false) else ((tree_opens.f a0 a2 a3_0 a3_1 l4).bind fun t189 => (if t189 = true then ((tree_proper.f a0 l1).bind fun t190 => (if t190 = true then (if (wrap64 (t188 + (l4.length : Int))) > 18 then (some false) else (if (shr .i64 a2 (l4.length : Int)) ≥ (l1.length : Int) then (some false) else ((tree_climb.f a0 a2 a3_0 a3_1 l4).bind fun bt191 => (if 0 ≤ (shr .i64 a2 (l4.length : Int)) then (if (shr .i64 a2 (l4.length : Int)) < (l1.length : Int) then (some (bt191.1 == ((rd_T36 l1 (shr .i64 a2 (l4.length : Int))).f0) && (bt191.2 == ((rd_T36 l1 (shr .i64 a2 (l4.length : Int))).f1)))) else (none)) else (none))))) else (some false))) else (some false))))
def tree_Check.T4 : Bool × List (List Nat × List Nat) := (true, [([], []), ([], []), ([], []), ([], []), ([0, 1, 2, 3], [0, 1, 2, 3]), ([], []), ([], []), ([], []), ([7], [7]), ([6, 8], [6, 8]), ([5, 9], [5, 9]), ([10], [10]), ([4, 11], [4, 11]), ([12, 4, 0, 1, 2, 3, 4, 5, 6, 7, 8, 9, 10, 11, 12], [12])])
def tree_Check.B4 : List Nat := [0, 0, 0, 0, 15, 0, 0, 0, 128, 448, 992, 2016, 4095, 8191]
theorem tree_Check.tab4 : rtab .any (opsOf Tryd.f26 4) = tree_Check.T4 := by kernel_rfl
theorem tree_Check.bits4 : waitsOk tree_Check.T4.2 tree_Check.B4 = true := by kernel_rfl
set_option maxHeartbeats 8000000 in
set_option maxRecDepth 100000 in
theorem tree_Check.calls (a0 : Int) (A1 : Option Addr) (c1 : Nat) (l1 : List (S36)) (a2 : Int) (a3_0 : Int) (a3_1 : Int) (A4 : Option Addr) (c4 : Nat) (l4 : List (S36)) (r : Bool) (w : World) (hr1 : Kd.C k36 w A1 l1.length l1) (hc1 : l1.length ≤ c1) (hr4 : Kd.C k36 w A4 l4.length l4) (hc4 : l4.length ≤ c4) (hrG : GL w) (h : tree_Check.f a0 l1 a2 a3_0 a3_1 l4 = some r) :
  Calls Tryd.prog 26 #[.int .i64 a0, .slice A1 l1.length c1, .int .i64 a2, .agg #[.int .u64 a3_0, .int .u64 a3_1], .slice A4 l4.length c4] w fun e w' => e = .returned (.bool r) ∧ Below w.heap.size w w' := by
 have hu36 := Tryd.underlying36
 have HRG := Aside0.mk hrG
 clear hrG
 have HR1 := Aside0.mk hr1
 have HC1 := Aside0.mk hc1
 clear hr1 hc1
 have HR4 := Aside0.mk hr4
 have HC4 := Aside0.mk hc4
 clear hr4 hc4
 have HB := Aside0.mk (Below.refl w.heap.size w)
 have H : ((tree_height.f (l1.length : Int)).bind fun t188 => (if t188 < 0 then (some false) else ((tree_opens.f a0 a2 a3_0 a3_1 l4).bind fun t189 => (if t189 = true then ((tree_proper.f a0 l1).bind fun t190 => (if t190 = true then (if (wrap64 (t188 + (l4.length : Int))) > 18 then (some false) else (if (shr .i64 a2 (l4.length : Int)) ≥ (l1.length : Int) then (some false) else ((tree_climb.f a0 a2 a3_0 a3_1 l4).bind fun bt191 => (if 0 ≤ (shr .i64 a2 (l4.length : Int)) then (if (shr .i64 a2 (l4.length : Int)) < (l1.length : Int) then (some (bt191.1 == ((rd_T36 l1 (shr .i64 a2 (l4.length : Int))).f0) && (bt191.2 == ((rd_T36 l1 (shr .i64 a2 (l4.length : Int))).f1)))) else (none)) else (none))))) else (some false))) else (some false))))) = some r := h
 clear h
 replace H := Option.bind_eq_some_iff.mp H
 obtain ⟨t188, A60, H⟩ := H
 have A6 := Aside0.mk A60
 clear A60
 by_cases c7 : t188 < 0
 ·rw [if_pos c7] at H
  have c7b0 : decide (t188 < 0) = true := decide_eq_true c7
  clear c7
  obtain rfl := Option.some.inj H
  go_enter Tryd.func26, Tryd.ntmps26
  go_wp2_with (first | ((with_reducible refine gate_dst (N := 8) rfl ?_); (try (refine gate_guard (by rfl) ?_; dsimp only)); refine box_event ?hg (N := 8) ?hd (cs := #[.int .u64 a3_0, .int .u64 a3_1]) (t := 36) ?hr ?_; (case hd => rfl); (case hg => rfl); (case hr => first | (go_simp; done) | (go_simp; rfl)); intro g187 hg w8 hbox hb; have n0_ := Aside0.mk (below_step (by repeat (first | (with_reducible first | exact HB.out | apply below_alloc | apply pw_below_drewN | apply below_drew1) | exact HB.out)) hb); have n1_ := Aside0.mk (hbox); have n2_ := Aside0.mk ((by rw [hg]; exact (below_size (by repeat (first | (with_reducible first | exact HB.out | apply below_alloc | apply pw_below_drewN | apply below_drew1) | exact HB.out))) : w.heap.size ≤ g187)); have n3_ := Aside0.mk ((by rw [hg]; exact (below_size (by repeat (first | (with_reducible first | exact HB.out | apply below_alloc | apply pw_below_drewN | apply below_drew1) | exact HB.out))) : w.heap.size ≤ g187)); clear HB; have HB := n0_; have B187 := n1_; have GW187 := n2_; have GE187 := n3_; clear n0_ n1_ n2_ n3_; clear hb hbox hg) | ((with_reducible refine gate_callee (f := 37) rfl ?_); refine goesL_ (some 14) rfl rfl Tryd.func37 (by kernel_rfl) rfl #[.int .i64 (l1.length : Int)] rfl (by (try simp only [List.map_toArray, List.map_cons, List.map_nil]); first | done | rfl | (go_simp; done)) ?_; (with_reducible refine (tree_height.calls (l1.length : Int) t188 _ ?side1 A6.out).mono ?_); (case side1 => repeat (first | exact (GL.below HRG.out HB.out) | (with_reducible refine GL.alloc ?_ _) | (with_reducible refine GL.drewN ?_ _) | (with_reducible refine GL.drew ?_))); rintro e w9 ⟨rfl, hb⟩; refine ⟨_, rfl, ?_⟩; have n0_ := Aside0.mk (blk_below (g := g187) (o := .cells #[.int .u64 a3_0, .int .u64 a3_1] 36 (0, 0)) (by exact B187.out) hb); have n1_ := Aside0.mk (below_step (by repeat (first | (with_reducible first | exact HB.out | apply below_alloc | apply pw_below_drewN | apply below_drew1 | refine below_set ?_ GE187.out) | exact HB.out)) hb); clear B187; clear HB; have B187 := n0_; have HB := n1_; clear n0_ n1_; (try clear hb); (try clear hb2); (try clear hk); (try clear hi)))
  go_ret
  exact ⟨by first | rfl | (simp [errW_none, errW_some] <;> rfl) | (simp [*, errW_none, errW_some] <;> rfl), by repeat (first | (with_reducible first | exact HB.out | apply below_alloc | apply pw_below_drewN | apply below_drew1 | refine below_set ?_ GE187.out) | exact HB.out)⟩
 ·rw [if_neg c7] at H
  have c7b0 : decide (t188 < 0) = false := decide_eq_false c7
  clear c7
  replace H := Option.bind_eq_some_iff.mp H
  obtain ⟨t189, A100, H⟩ := H
  have A10 := Aside0.mk A100
  clear A100
  by_cases c11 : t189 = true
  ·subst c11
   have H1 : ((tree_proper.f a0 l1).bind fun t190 => (if t190 = true then (if (wrap64 (t188 + (l4.length : Int))) > 18 then (some false) else (if (shr .i64 a2 (l4.length : Int)) ≥ (l1.length : Int) then (some false) else ((tree_climb.f a0 a2 a3_0 a3_1 l4).bind fun bt191 => (if 0 ≤ (shr .i64 a2 (l4.length : Int)) then (if (shr .i64 a2 (l4.length : Int)) < (l1.length : Int) then (some (bt191.1 == ((rd_T36 l1 (shr .i64 a2 (l4.length : Int))).f0) && (bt191.2 == ((rd_T36 l1 (shr .i64 a2 (l4.length : Int))).f1)))) else (none)) else (none))))) else (some false))) = some r := by rw [if_pos rfl] at H; exact H
   clear H
   have H := H1
   clear H1
   replace H := Option.bind_eq_some_iff.mp H
   obtain ⟨t190, A120, H⟩ := H
   have A12 := Aside0.mk A120
   clear A120
   by_cases c13 : t190 = true
   ·subst c13
    have H1 : (if (wrap64 (t188 + (l4.length : Int))) > 18 then (some false) else (if (shr .i64 a2 (l4.length : Int)) ≥ (l1.length : Int) then (some false) else ((tree_climb.f a0 a2 a3_0 a3_1 l4).bind fun bt191 => (if 0 ≤ (shr .i64 a2 (l4.length : Int)) then (if (shr .i64 a2 (l4.length : Int)) < (l1.length : Int) then (some (bt191.1 == ((rd_T36 l1 (shr .i64 a2 (l4.length : Int))).f0) && (bt191.2 == ((rd_T36 l1 (shr .i64 a2 (l4.length : Int))).f1)))) else (none)) else (none))))) = some r := by rw [if_pos rfl] at H; exact H
    clear H
    have H := H1
    clear H1
    by_cases c14 : (wrap64 (t188 + (l4.length : Int))) > 18
    ·rw [if_pos c14] at H
     have c14b0 : decide (18 < (wrap64 (t188 + (l4.length : Int)))) = true := decide_eq_true c14
     clear c14
     obtain rfl := Option.some.inj H
     go_enter Tryd.func26, Tryd.ntmps26
     go_wp2_with (first | ((with_reducible refine gate_dst (N := 8) rfl ?_); (try (refine gate_guard (by rfl) ?_; dsimp only)); refine box_event ?hg (N := 8) ?hd (cs := #[.int .u64 a3_0, .int .u64 a3_1]) (t := 36) ?hr ?_; (case hd => rfl); (case hg => rfl); (case hr => first | (go_simp; done) | (go_simp; rfl)); intro g187 hg w15 hbox hb; have n0_ := Aside0.mk (below_step (by repeat (first | (with_reducible first | exact HB.out | apply below_alloc | apply pw_below_drewN | apply below_drew1) | exact HB.out)) hb); have n1_ := Aside0.mk (hbox); have n2_ := Aside0.mk ((by rw [hg]; exact (below_size (by repeat (first | (with_reducible first | exact HB.out | apply below_alloc | apply pw_below_drewN | apply below_drew1) | exact HB.out))) : w.heap.size ≤ g187)); have n3_ := Aside0.mk ((by rw [hg]; exact (below_size (by repeat (first | (with_reducible first | exact HB.out | apply below_alloc | apply pw_below_drewN | apply below_drew1) | exact HB.out))) : w.heap.size ≤ g187)); clear HB; have HB := n0_; have B187 := n1_; have GW187 := n2_; have GE187 := n3_; clear n0_ n1_ n2_ n3_; clear hb hbox hg) | ((with_reducible refine gate_callee (f := 37) rfl ?_); refine goesL_ (some 14) rfl rfl Tryd.func37 (by kernel_rfl) rfl #[.int .i64 (l1.length : Int)] rfl (by (try simp only [List.map_toArray, List.map_cons, List.map_nil]); first | done | rfl | (go_simp; done)) ?_; (with_reducible refine (tree_height.calls (l1.length : Int) t188 _ ?side1 A6.out).mono ?_); (case side1 => repeat (first | exact (GL.below HRG.out HB.out) | (with_reducible refine GL.alloc ?_ _) | (with_reducible refine GL.drewN ?_ _) | (with_reducible refine GL.drew ?_))); rintro e w16 ⟨rfl, hb⟩; refine ⟨_, rfl, ?_⟩; have n0_ := Aside0.mk (blk_below (g := g187) (o := .cells #[.int .u64 a3_0, .int .u64 a3_1] 36 (0, 0)) (by exact B187.out) hb); have n1_ := Aside0.mk (below_step (by repeat (first | (with_reducible first | exact HB.out | apply below_alloc | apply pw_below_drewN | apply below_drew1 | refine below_set ?_ GE187.out) | exact HB.out)) hb); clear B187; clear HB; have B187 := n0_; have HB := n1_; clear n0_ n1_; (try clear hb); (try clear hb2); (try clear hk); (try clear hi); have hcz17_0 : w16.cell? ⟨g187, 0, none⟩ = some (.int .u64 a3_0) := bq_ B187 0; have hcz17_1 : w16.cell? ⟨g187, 1, none⟩ = some (.int .u64 a3_1) := bq_ B187 1; have hfz17_0 := blk_frozen B187.out 0; have hfz17_1 := blk_frozen B187.out 1) | (go_at_call 47; (with_reducible refine (tree_opens.calls a0 a2 a3_0 a3_1 _ _ l4 true _ ?side1 ?side2 ?side3 A10.out).mono ?_); (case side1 => repeat (first | exact (Kd.C_below HR4.out HB.out) | (with_reducible refine Kd.C_alloc ?_ _) | (with_reducible refine Kd.C_drewN ?_ _) | (with_reducible refine Kd.C_drew ?_))); (case side2 => exact HC4.out); (case side3 => repeat (first | exact (GL.below HRG.out HB.out) | (with_reducible refine GL.alloc ?_ _) | (with_reducible refine GL.drewN ?_ _) | (with_reducible refine GL.drew ?_))); rintro e w18 ⟨rfl, hb⟩; have n0_ := Aside0.mk (blk_below (g := g187) (o := .cells #[.int .u64 a3_0, .int .u64 a3_1] 36 (0, 0)) (by exact B187.out) hb); have n1_ := Aside0.mk (below_step (by repeat (first | (with_reducible first | exact HB.out | apply below_alloc | apply pw_below_drewN | apply below_drew1 | refine below_set ?_ GE187.out) | exact HB.out)) hb); clear B187; clear HB; have B187 := n0_; have HB := n1_; clear n0_ n1_; (try clear hb); (try clear hb2); (try clear hk); (try clear hi)) | (go_at_call 39; (with_reducible refine (tree_proper.calls a0 _ _ l1 true _ ?side1 ?side2 ?side3 A12.out).mono ?_); (case side1 => repeat (first | exact (Kd.C_below HR1.out HB.out) | (with_reducible refine Kd.C_alloc ?_ _) | (with_reducible refine Kd.C_drewN ?_ _) | (with_reducible refine Kd.C_drew ?_))); (case side2 => exact HC1.out); (case side3 => repeat (first | exact (GL.below HRG.out HB.out) | (with_reducible refine GL.alloc ?_ _) | (with_reducible refine GL.drewN ?_ _) | (with_reducible refine GL.drew ?_))); rintro e w19 ⟨rfl, hb⟩; have n0_ := Aside0.mk (blk_below (g := g187) (o := .cells #[.int .u64 a3_0, .int .u64 a3_1] 36 (0, 0)) (by exact B187.out) hb); have n1_ := Aside0.mk (below_step (by repeat (first | (with_reducible first | exact HB.out | apply below_alloc | apply pw_below_drewN | apply below_drew1 | refine below_set ?_ GE187.out) | exact HB.out)) hb); clear B187; clear HB; have B187 := n0_; have HB := n1_; clear n0_ n1_; (try clear hb); (try clear hb2); (try clear hk); (try clear hi)))
     go_ret
     exact ⟨by first | rfl | (simp [errW_none, errW_some] <;> rfl) | (simp [*, errW_none, errW_some] <;> rfl), by repeat (first | (with_reducible first | exact HB.out | apply below_alloc | apply pw_below_drewN | apply below_drew1 | refine below_set ?_ GE187.out) | exact HB.out)⟩
    ·rw [if_neg c14] at H
     have c14b0 : decide (18 < (wrap64 (t188 + (l4.length : Int)))) = false := decide_eq_false c14
     clear c14
     obtain ⟨ji20, hji20⟩ : ∃ j_ : Int, (shr .i64 a2 (l4.length : Int)) = j_ := ⟨_, rfl⟩
     replace H : (if (ji20) ≥ (l1.length : Int) then (some false) else ((tree_climb.f a0 a2 a3_0 a3_1 l4).bind fun bt191 => (if 0 ≤ (ji20) then (if (ji20) < (l1.length : Int) then (some (bt191.1 == ((rd_T36 l1 (ji20)).f0) && (bt191.2 == ((rd_T36 l1 (ji20)).f1)))) else (none)) else (none)))) = some r := by first | (rw [hji20] at H; exact H) | (simp only [hji20] at H ⊢; exact H)
     (try rw [hji20] at A6)
     (try rw [hji20] at A10)
     (try rw [hji20] at A12)
     have hji20_ : (a2 / 2 ^ min (l4.length : Int).toNat 64) = ji20 := hji20
     have hji20z : (l4.length : Int) ≤ 64 → (a2 / 2 ^ (l4.length : Int).toNat) = ji20 := shr_small hji20
     have hji20p : (a2 / 2 ^ min l4.length 64) = ji20 := hji20_
     have hji20q : (l4.length : Int) ≤ 64 → (a2 / 2 ^ l4.length) = ji20 := hji20z
     by_cases c21 : (ji20) ≥ (l1.length : Int)
     ·rw [if_pos c21] at H
      have c21b0 : decide ((l1.length : Int) ≤ (ji20)) = true := decide_eq_true c21
      clear c21
      obtain rfl := Option.some.inj H
      go_enter Tryd.func26, Tryd.ntmps26
      go_wp2_with (first | ((with_reducible refine gate_dst (N := 8) rfl ?_); (try (refine gate_guard (by rfl) ?_; dsimp only)); refine box_event ?hg (N := 8) ?hd (cs := #[.int .u64 a3_0, .int .u64 a3_1]) (t := 36) ?hr ?_; (case hd => rfl); (case hg => rfl); (case hr => first | (go_simp; done) | (go_simp; rfl)); intro g187 hg w22 hbox hb; have n0_ := Aside0.mk (below_step (by repeat (first | (with_reducible first | exact HB.out | apply below_alloc | apply pw_below_drewN | apply below_drew1) | exact HB.out)) hb); have n1_ := Aside0.mk (hbox); have n2_ := Aside0.mk ((by rw [hg]; exact (below_size (by repeat (first | (with_reducible first | exact HB.out | apply below_alloc | apply pw_below_drewN | apply below_drew1) | exact HB.out))) : w.heap.size ≤ g187)); have n3_ := Aside0.mk ((by rw [hg]; exact (below_size (by repeat (first | (with_reducible first | exact HB.out | apply below_alloc | apply pw_below_drewN | apply below_drew1) | exact HB.out))) : w.heap.size ≤ g187)); clear HB; have HB := n0_; have B187 := n1_; have GW187 := n2_; have GE187 := n3_; clear n0_ n1_ n2_ n3_; clear hb hbox hg) | ((with_reducible refine gate_callee (f := 37) rfl ?_); refine goesL_ (some 14) rfl rfl Tryd.func37 (by kernel_rfl) rfl #[.int .i64 (l1.length : Int)] rfl (by (try simp only [List.map_toArray, List.map_cons, List.map_nil]); first | done | rfl | (go_simp; done)) ?_; (with_reducible refine (tree_height.calls (l1.length : Int) t188 _ ?side1 A6.out).mono ?_); (case side1 => repeat (first | exact (GL.below HRG.out HB.out) | (with_reducible refine GL.alloc ?_ _) | (with_reducible refine GL.drewN ?_ _) | (with_reducible refine GL.drew ?_))); rintro e w23 ⟨rfl, hb⟩; refine ⟨_, rfl, ?_⟩; have n0_ := Aside0.mk (blk_below (g := g187) (o := .cells #[.int .u64 a3_0, .int .u64 a3_1] 36 (0, 0)) (by exact B187.out) hb); have n1_ := Aside0.mk (below_step (by repeat (first | (with_reducible first | exact HB.out | apply below_alloc | apply pw_below_drewN | apply below_drew1 | refine below_set ?_ GE187.out) | exact HB.out)) hb); clear B187; clear HB; have B187 := n0_; have HB := n1_; clear n0_ n1_; (try clear hb); (try clear hb2); (try clear hk); (try clear hi); have hcz24_0 : w23.cell? ⟨g187, 0, none⟩ = some (.int .u64 a3_0) := bq_ B187 0; have hcz24_1 : w23.cell? ⟨g187, 1, none⟩ = some (.int .u64 a3_1) := bq_ B187 1; have hfz24_0 := blk_frozen B187.out 0; have hfz24_1 := blk_frozen B187.out 1) | (go_at_call 47; (with_reducible refine (tree_opens.calls a0 a2 a3_0 a3_1 _ _ l4 true _ ?side1 ?side2 ?side3 A10.out).mono ?_); (case side1 => repeat (first | exact (Kd.C_below HR4.out HB.out) | (with_reducible refine Kd.C_alloc ?_ _) | (with_reducible refine Kd.C_drewN ?_ _) | (with_reducible refine Kd.C_drew ?_))); (case side2 => exact HC4.out); (case side3 => repeat (first | exact (GL.below HRG.out HB.out) | (with_reducible refine GL.alloc ?_ _) | (with_reducible refine GL.drewN ?_ _) | (with_reducible refine GL.drew ?_))); rintro e w25 ⟨rfl, hb⟩; have n0_ := Aside0.mk (blk_below (g := g187) (o := .cells #[.int .u64 a3_0, .int .u64 a3_1] 36 (0, 0)) (by exact B187.out) hb); have n1_ := Aside0.mk (below_step (by repeat (first | (with_reducible first | exact HB.out | apply below_alloc | apply pw_below_drewN | apply below_drew1 | refine below_set ?_ GE187.out) | exact HB.out)) hb); clear B187; clear HB; have B187 := n0_; have HB := n1_; clear n0_ n1_; (try clear hb); (try clear hb2); (try clear hk); (try clear hi)) | (go_at_call 39; (with_reducible refine (tree_proper.calls a0 _ _ l1 true _ ?side1 ?side2 ?side3 A12.out).mono ?_); (case side1 => repeat (first | exact (Kd.C_below HR1.out HB.out) | (with_reducible refine Kd.C_alloc ?_ _) | (with_reducible refine Kd.C_drewN ?_ _) | (with_reducible refine Kd.C_drew ?_))); (case side2 => exact HC1.out); (case side3 => repeat (first | exact (GL.below HRG.out HB.out) | (with_reducible refine GL.alloc ?_ _) | (with_reducible refine GL.drewN ?_ _) | (with_reducible refine GL.drew ?_))); rintro e w26 ⟨rfl, hb⟩; have n0_ := Aside0.mk (blk_below (g := g187) (o := .cells #[.int .u64 a3_0, .int .u64 a3_1] 36 (0, 0)) (by exact B187.out) hb); have n1_ := Aside0.mk (below_step (by repeat (first | (with_reducible first | exact HB.out | apply below_alloc | apply pw_below_drewN | apply below_drew1 | refine below_set ?_ GE187.out) | exact HB.out)) hb); clear B187; clear HB; have B187 := n0_; have HB := n1_; clear n0_ n1_; (try clear hb); (try clear hb2); (try clear hk); (try clear hi)))
      go_ret
      exact ⟨by first | rfl | (simp [errW_none, errW_some] <;> rfl) | (simp only [← hji20]; first | rfl | (simp [errW_none, errW_some] <;> rfl)) | (simp [*, errW_none, errW_some] <;> rfl), by repeat (first | (with_reducible first | exact HB.out | apply below_alloc | apply pw_below_drewN | apply below_drew1 | refine below_set ?_ GE187.out) | exact HB.out)⟩
     ·rw [if_neg c21] at H
      have c21b0 : decide ((l1.length : Int) ≤ (ji20)) = false := decide_eq_false c21
      clear c21
      replace H := Option.bind_eq_some_iff.mp H
      obtain ⟨⟨t191, t192⟩, A270, H⟩ := H
      replace H : (if 0 ≤ (ji20) then (if (ji20) < (l1.length : Int) then (some (t191 == ((rd_T36 l1 (ji20)).f0) && (t192 == ((rd_T36 l1 (ji20)).f1)))) else (none)) else (none)) = some r := H
      have A27 := Aside0.mk A270
      clear A270
      by_cases c28 : 0 ≤ (ji20)
      ·rw [if_pos c28] at H
       have c28b0 : decide (0 ≤ (ji20)) = true := decide_eq_true c28
       clear c28
       by_cases c29 : (ji20) < (l1.length : Int)
       ·rw [if_pos c29] at H
        have c29b0 : decide ((ji20) < (l1.length : Int)) = true := decide_eq_true c29
        clear c29
        obtain rfl := Option.some.inj H
        go_enter Tryd.func26, Tryd.ntmps26
        try go_wp2_with (first | ((with_reducible refine gate_dst (N := 8) rfl ?_); (try (refine gate_guard (by rfl) ?_; dsimp only)); refine box_event ?hg (N := 8) ?hd (cs := #[.int .u64 a3_0, .int .u64 a3_1]) (t := 36) ?hr ?_; (case hd => rfl); (case hg => rfl); (case hr => first | (go_simp; done) | (go_simp; rfl)); intro g187 hg w30 hbox hb; have n0_ := Aside0.mk (below_step (by repeat (first | (with_reducible first | exact HB.out | apply below_alloc | apply pw_below_drewN | apply below_drew1) | exact HB.out)) hb); have n1_ := Aside0.mk (hbox); have n2_ := Aside0.mk ((by rw [hg]; exact (below_size (by repeat (first | (with_reducible first | exact HB.out | apply below_alloc | apply pw_below_drewN | apply below_drew1) | exact HB.out))) : w.heap.size ≤ g187)); have n3_ := Aside0.mk ((by rw [hg]; exact (below_size (by repeat (first | (with_reducible first | exact HB.out | apply below_alloc | apply pw_below_drewN | apply below_drew1) | exact HB.out))) : w.heap.size ≤ g187)); clear HB; have HB := n0_; have B187 := n1_; have GW187 := n2_; have GE187 := n3_; clear n0_ n1_ n2_ n3_; clear hb hbox hg) | ((with_reducible refine gate_callee (f := 37) rfl ?_); refine goesL_ (some 14) rfl rfl Tryd.func37 (by kernel_rfl) rfl #[.int .i64 (l1.length : Int)] rfl (by (try simp only [List.map_toArray, List.map_cons, List.map_nil]); first | done | rfl | (go_simp; done)) ?_; (with_reducible refine (tree_height.calls (l1.length : Int) t188 _ ?side1 A6.out).mono ?_); (case side1 => repeat (first | exact (GL.below HRG.out HB.out) | (with_reducible refine GL.alloc ?_ _) | (with_reducible refine GL.drewN ?_ _) | (with_reducible refine GL.drew ?_))); rintro e w31 ⟨rfl, hb⟩; refine ⟨_, rfl, ?_⟩; have n0_ := Aside0.mk (blk_below (g := g187) (o := .cells #[.int .u64 a3_0, .int .u64 a3_1] 36 (0, 0)) (by exact B187.out) hb); have n1_ := Aside0.mk (below_step (by repeat (first | (with_reducible first | exact HB.out | apply below_alloc | apply pw_below_drewN | apply below_drew1 | refine below_set ?_ GE187.out) | exact HB.out)) hb); clear B187; clear HB; have B187 := n0_; have HB := n1_; clear n0_ n1_; (try clear hb); (try clear hb2); (try clear hk); (try clear hi); have hcz32_0 : w31.cell? ⟨g187, 0, none⟩ = some (.int .u64 a3_0) := bq_ B187 0; have hcz32_1 : w31.cell? ⟨g187, 1, none⟩ = some (.int .u64 a3_1) := bq_ B187 1; have hfz32_0 := blk_frozen B187.out 0; have hfz32_1 := blk_frozen B187.out 1) | (go_at_call 47; (with_reducible refine (tree_opens.calls a0 a2 a3_0 a3_1 _ _ l4 true _ ?side1 ?side2 ?side3 A10.out).mono ?_); (case side1 => repeat (first | exact (Kd.C_below HR4.out HB.out) | (with_reducible refine Kd.C_alloc ?_ _) | (with_reducible refine Kd.C_drewN ?_ _) | (with_reducible refine Kd.C_drew ?_))); (case side2 => exact HC4.out); (case side3 => repeat (first | exact (GL.below HRG.out HB.out) | (with_reducible refine GL.alloc ?_ _) | (with_reducible refine GL.drewN ?_ _) | (with_reducible refine GL.drew ?_))); rintro e w33 ⟨rfl, hb⟩; have n0_ := Aside0.mk (blk_below (g := g187) (o := .cells #[.int .u64 a3_0, .int .u64 a3_1] 36 (0, 0)) (by exact B187.out) hb); have n1_ := Aside0.mk (below_step (by repeat (first | (with_reducible first | exact HB.out | apply below_alloc | apply pw_below_drewN | apply below_drew1 | refine below_set ?_ GE187.out) | exact HB.out)) hb); clear B187; clear HB; have B187 := n0_; have HB := n1_; clear n0_ n1_; (try clear hb); (try clear hb2); (try clear hk); (try clear hi)) | (go_at_call 39; (with_reducible refine (tree_proper.calls a0 _ _ l1 true _ ?side1 ?side2 ?side3 A12.out).mono ?_); (case side1 => repeat (first | exact (Kd.C_below HR1.out HB.out) | (with_reducible refine Kd.C_alloc ?_ _) | (with_reducible refine Kd.C_drewN ?_ _) | (with_reducible refine Kd.C_drew ?_))); (case side2 => exact HC1.out); (case side3 => repeat (first | exact (GL.below HRG.out HB.out) | (with_reducible refine GL.alloc ?_ _) | (with_reducible refine GL.drewN ?_ _) | (with_reducible refine GL.drew ?_))); rintro e w34 ⟨rfl, hb⟩; have n0_ := Aside0.mk (blk_below (g := g187) (o := .cells #[.int .u64 a3_0, .int .u64 a3_1] 36 (0, 0)) (by exact B187.out) hb); have n1_ := Aside0.mk (below_step (by repeat (first | (with_reducible first | exact HB.out | apply below_alloc | apply pw_below_drewN | apply below_drew1 | refine below_set ?_ GE187.out) | exact HB.out)) hb); clear B187; clear HB; have B187 := n0_; have HB := n1_; clear n0_ n1_; (try clear hb); (try clear hb2); (try clear hk); (try clear hi)))
        have n0_ := Aside0.mk (blk_drew B187.out)
        have n1_ := Aside0.mk (below_drew1 HB.out)
        clear B187
        clear HB
        have B187 := n0_
        have HB := n1_
        clear n0_ n1_
        have p193 : 0 ≤ ((ji20) : Int) := of_decide_eq_true (by first | (with_reducible assumption) | assumption)
        have q193 : (ji20) < (l1.length : Int) := of_decide_eq_true (by first | (with_reducible assumption) | assumption)
        obtain ⟨ad193, e193, hx193_0, hx193_1⟩ := at_T36 HR1.out (ji20) p193 q193
        have hw193_1 := hx193_1
        have hw193_0 := hx193_0
        cases e193
        replace hx193_0 := (HB.out.cell (World.block_lt_of_cell? w _ hx193_0)).trans hx193_0
        replace hx193_1 := (HB.out.cell (World.block_lt_of_cell? w _ hx193_1)).trans hx193_1
        replace p193 := eq_true p193
        replace q193 := eq_true q193
        refine start_ (n := 14) (S := fun w' => w'.cell? ⟨g187, 0, none⟩ = some (.int .u64 a3_0) ∧ w'.cell? ⟨g187, 1, none⟩ = some (.int .u64 a3_1) ∧ w'.cell? (ad193.add (((ji20)).toNat * 2)) = some (.int .u64 ((rd_T36 l1 (ji20)).f0)) ∧ w'.cell? ⟨(ad193.add (((ji20)).toNat * 2)).block, (ad193.add (((ji20)).toNat * 2)).off + 1, none⟩ = some (.int .u64 ((rd_T36 l1 (ji20)).f1))) (ds := []) z26_0_ (by kernel_rfl) rfl rfl ⟨bq_ B187 0, bq_ B187 1, ((HB.out.cell (World.block_lt_of_cell? w _ hw193_0)).trans hw193_0), ((HB.out.cell (World.block_lt_of_cell? w _ hw193_1)).trans hw193_1)⟩ (fun hL => ?_); refine with_tabW tree_Check.tab4 tree_Check.bits4 (fun T_ W_ => ?_)
        generalize w34.drew = w35 at B187 HB hx193_0 hx193_1 hL ⊢
        refine pure_ (i := 0) (N := some 47) (v := ?_) (a' := ?_) z26_1_ rfl rfl (an_ T_) (fun _ _ _ h => h) (Or.inl ⟨by rfl, ?_⟩) ?_ ?_
        rotate_left; · intro w'; go_simp; with_reducible rfl
        rotate_left; · simp only [Act.put, sa_, sb_, sc_, i64_w, i32_w]; rfl
        refine pure_ (i := 1) (N := some 48) (v := ?_) (a' := ?_) z26_2_ rfl rfl (an_ T_) (fun _ _ _ h => h) (Or.inl ⟨by rfl, ?_⟩) ?_ ?_
        rotate_left; · intro w'; go_simp; with_reducible rfl
        rotate_left; · simp only [Act.put, sa_, sb_, sc_, i64_w, i32_w]; rfl
        refine pure_ (i := 3) (N := some 50) (v := ?_) (a' := ?_) z26_3_ rfl rfl (an_ T_) (fun _ _ _ h => h) (Or.inl ⟨by rfl, ?_⟩) ?_ ?_
        rotate_left; · intro w'; go_simp; with_reducible rfl
        rotate_left; · simp only [Act.put, sa_, sb_, sc_, i64_w, i32_w]; rfl
        refine pure_ (i := 5) (N := some 52) (v := ?_) (a' := ?_) z26_4_ rfl rfl (an_ T_) (fun _ _ _ h => h) (Or.inl ⟨by rfl, ?_⟩) ?_ ?_
        rotate_left; · intro w'; go_simp; with_reducible rfl
        rotate_left; · simp only [Act.put, sa_, sb_, sc_, i64_w, i32_w]; rfl
        refine pure_ (i := 6) (N := some 53) (v := ?_) (a' := ?_) z26_5_ rfl rfl (an_ T_) (fun _ _ _ h => h) (Or.inl ⟨by rfl, ?_⟩) ?_ ?_
        rotate_left; · intro w'; go_simp; with_reducible rfl
        rotate_left; · simp only [Act.put, sa_, sb_, sc_, i64_w, i32_w]; rfl
        refine pure_ (i := 7) (N := some 54) (v := ?_) (a' := ?_) z26_6_ rfl rfl (an_ T_) (fun _ _ _ h => h) (Or.inl ⟨by rfl, ?_⟩) ?_ ?_
        rotate_left; · intro w'; go_simp; with_reducible rfl
        rotate_left; · simp only [Act.put, sa_, sb_, sc_, i64_w, i32_w]; rfl
        refine pure_ (i := 8) (N := some 55) (v := ?_) (a' := ?_) z26_7_ rfl rfl (an_ T_) (fun _ _ _ h => h) (Or.inl ⟨by rfl, ?_⟩) ?_ ?_
        rotate_left; · intro w'; go_simp; with_reducible rfl
        rotate_left; · simp only [Act.put, sa_, sb_, sc_, i64_w, i32_w]; rfl
        refine pure_ (i := 9) (N := some 56) (v := ?_) (a' := ?_) z26_8_ rfl rfl (an_ T_) (fun _ _ _ h => h) (Or.inl ⟨by rfl, ?_⟩) ?_ ?_
        rotate_left; · intro w'; go_simp; with_reducible rfl
        rotate_left; · simp only [Act.put, sa_, sb_, sc_, i64_w, i32_w]; rfl
        refine pure_ (i := 10) (N := some 57) (v := ?_) (a' := ?_) z26_9_ rfl rfl (an_ T_) (fun _ _ _ h => h) (Or.inl ⟨by rfl, ?_⟩) ?_ ?_
        rotate_left; · intro w'; go_simp; with_reducible rfl
        rotate_left; · simp only [Act.put, sa_, sb_, sc_, i64_w, i32_w]; rfl
        refine take_ (i := 2) (N := some 49) (v := ?_) (a' := ?_) z26_10_ rfl rfl (tk_ T_ W_) (fun _ _ _ h => h) (Or.inl ⟨by rfl, ?_⟩) hL ?_ ?_
        rotate_left
        ·rintro w' ⟨s0, s1, s2, s3⟩
         go_simp
         with_reducible rfl
        rotate_left
        ·simp only [Act.put, sa_, sb_, sc_, i64_w, i32_w]
         rfl
        refine take_ (i := 11) (N := some 58) (v := ?_) (a' := ?_) z26_11_ rfl rfl (tk_ T_ W_) (fun _ _ _ h => h) (Or.inl ⟨by rfl, ?_⟩) hL ?_ ?_
        rotate_left
        ·rintro w' ⟨s0, s1, s2, s3⟩
         go_simp
         with_reducible rfl
        rotate_left
        ·simp only [Act.put, sa_, sb_, sc_, i64_w, i32_w]
         rfl
        refine one_ (i := 4) (N := some 51) z26_12_ rfl rfl (on_ T_) (by decide) (fun K hK => ?_)
        refine goes_ Tryd.func48 (by kernel_rfl) rfl #[.int .i64 a0, .int .i64 a2, .agg #[.int .u64 a3_0, .int .u64 a3_1], .slice A4 l4.length c4] (by rfl) rfl rfl (by (try simp only [List.map_toArray, List.map_cons, List.map_nil]); first | done | rfl | (go_simp; done)) ?_
        with_reducible refine (tree_climb.calls a0 a2 a3_0 a3_1 _ _ l4 t191 t192 _ ?side1 ?side2 ?side3 A27.out).mono ?_
        (case side1 => repeat (first | exact (Kd.C_below HR4.out HB.out) | (with_reducible refine Kd.C_alloc ?_ _) | (with_reducible refine Kd.C_drewN ?_ _) | (with_reducible refine Kd.C_drew ?_)))
        (case side2 => exact HC4.out)
        (case side3 => repeat (first | exact (GL.below HRG.out HB.out) | (with_reducible refine GL.alloc ?_ _) | (with_reducible refine GL.drewN ?_ _) | (with_reducible refine GL.drew ?_)))
        rintro e w36 ⟨rfl, hb⟩
        refine ⟨_, rfl, ?_⟩
        have n0_ := Aside0.mk (blk_below (g := g187) (o := .cells #[.int .u64 a3_0, .int .u64 a3_1] 36 (0, 0)) (by exact B187.out) hb)
        have n1_ := Aside0.mk (below_step (by repeat (first | (with_reducible first | exact HB.out | apply below_alloc | apply pw_below_drewN | apply below_drew1 | refine below_set ?_ GE187.out) | exact HB.out)) hb)
        clear B187
        clear HB
        have B187 := n0_
        have HB := n1_
        clear n0_ n1_
        (try clear hb)
        (try clear hb2)
        (try clear hk)
        (try clear hi)
        refine hK.out _ _ ⟨bq_ B187 0, bq_ B187 1, ((HB.out.cell (World.block_lt_of_cell? w _ hw193_0)).trans hw193_0), ((HB.out.cell (World.block_lt_of_cell? w _ hw193_1)).trans hw193_1)⟩ (fun hL => ?_)
        clear hK K
        refine norm_ (a' := ?_) ?_ ?_
        rotate_left
        ·show Act.put _ (some 51) _ = _
         simp only [Act.put, sa_, sb_, sc_, i64_w, i32_w]
         rfl
        refine pure_ (i := 12) (N := some 59) (v := ?_) (a' := ?_) z26_13_ rfl rfl (an_ T_) (fun _ _ _ h => h) (Or.inl ⟨by rfl, ?_⟩) ?_ ?_
        rotate_left; · intro w'; go_simp; with_reducible rfl
        rotate_left; · simp only [Act.put, sa_, sb_, sc_, i64_w, i32_w]; rfl
        refine pure_ (i := 13) (N := some 10) (v := ?_) (a' := ?_) z26_14_ rfl rfl (an_ T_) (fun _ _ _ h => h) (Or.inl ⟨by rfl, ?_⟩) ?_ ?_
        rotate_left; · intro w'; go_simp; with_reducible rfl
        rotate_left; · simp only [Act.put, sa_, sb_, sc_, i64_w, i32_w]; rfl
        refine done_ (done_of T_.out (by kernel_rfl)) ?_
        try go_wp2
        go_ret
        exact ⟨by first | rfl | (simp [errW_none, errW_some] <;> rfl) | (simp only [← hji20]; first | rfl | (simp [errW_none, errW_some] <;> rfl)) | (simp [*, errW_none, errW_some] <;> rfl), by repeat (first | (with_reducible first | exact HB.out | apply below_alloc | apply pw_below_drewN | apply below_drew1 | refine below_set ?_ GE187.out) | exact HB.out)⟩
       ·rw [if_neg c29] at H
        exact absurd H (by simp)
      ·rw [if_neg c28] at H
       exact absurd H (by simp)
   ·replace c13 := Bool.eq_false_iff.mpr c13
    subst c13
    have H1 : (some false) = some r := by rw [if_neg (show ¬ (false = true) by decide)] at H; exact H
    clear H
    have H := H1
    clear H1
    obtain rfl := Option.some.inj H
    go_enter Tryd.func26, Tryd.ntmps26
    go_wp2_with (first | ((with_reducible refine gate_dst (N := 8) rfl ?_); (try (refine gate_guard (by rfl) ?_; dsimp only)); refine box_event ?hg (N := 8) ?hd (cs := #[.int .u64 a3_0, .int .u64 a3_1]) (t := 36) ?hr ?_; (case hd => rfl); (case hg => rfl); (case hr => first | (go_simp; done) | (go_simp; rfl)); intro g187 hg w37 hbox hb; have n0_ := Aside0.mk (below_step (by repeat (first | (with_reducible first | exact HB.out | apply below_alloc | apply pw_below_drewN | apply below_drew1) | exact HB.out)) hb); have n1_ := Aside0.mk (hbox); have n2_ := Aside0.mk ((by rw [hg]; exact (below_size (by repeat (first | (with_reducible first | exact HB.out | apply below_alloc | apply pw_below_drewN | apply below_drew1) | exact HB.out))) : w.heap.size ≤ g187)); have n3_ := Aside0.mk ((by rw [hg]; exact (below_size (by repeat (first | (with_reducible first | exact HB.out | apply below_alloc | apply pw_below_drewN | apply below_drew1) | exact HB.out))) : w.heap.size ≤ g187)); clear HB; have HB := n0_; have B187 := n1_; have GW187 := n2_; have GE187 := n3_; clear n0_ n1_ n2_ n3_; clear hb hbox hg) | ((with_reducible refine gate_callee (f := 37) rfl ?_); refine goesL_ (some 14) rfl rfl Tryd.func37 (by kernel_rfl) rfl #[.int .i64 (l1.length : Int)] rfl (by (try simp only [List.map_toArray, List.map_cons, List.map_nil]); first | done | rfl | (go_simp; done)) ?_; (with_reducible refine (tree_height.calls (l1.length : Int) t188 _ ?side1 A6.out).mono ?_); (case side1 => repeat (first | exact (GL.below HRG.out HB.out) | (with_reducible refine GL.alloc ?_ _) | (with_reducible refine GL.drewN ?_ _) | (with_reducible refine GL.drew ?_))); rintro e w38 ⟨rfl, hb⟩; refine ⟨_, rfl, ?_⟩; have n0_ := Aside0.mk (blk_below (g := g187) (o := .cells #[.int .u64 a3_0, .int .u64 a3_1] 36 (0, 0)) (by exact B187.out) hb); have n1_ := Aside0.mk (below_step (by repeat (first | (with_reducible first | exact HB.out | apply below_alloc | apply pw_below_drewN | apply below_drew1 | refine below_set ?_ GE187.out) | exact HB.out)) hb); clear B187; clear HB; have B187 := n0_; have HB := n1_; clear n0_ n1_; (try clear hb); (try clear hb2); (try clear hk); (try clear hi); have hcz39_0 : w38.cell? ⟨g187, 0, none⟩ = some (.int .u64 a3_0) := bq_ B187 0; have hcz39_1 : w38.cell? ⟨g187, 1, none⟩ = some (.int .u64 a3_1) := bq_ B187 1; have hfz39_0 := blk_frozen B187.out 0; have hfz39_1 := blk_frozen B187.out 1) | (go_at_call 47; (with_reducible refine (tree_opens.calls a0 a2 a3_0 a3_1 _ _ l4 true _ ?side1 ?side2 ?side3 A10.out).mono ?_); (case side1 => repeat (first | exact (Kd.C_below HR4.out HB.out) | (with_reducible refine Kd.C_alloc ?_ _) | (with_reducible refine Kd.C_drewN ?_ _) | (with_reducible refine Kd.C_drew ?_))); (case side2 => exact HC4.out); (case side3 => repeat (first | exact (GL.below HRG.out HB.out) | (with_reducible refine GL.alloc ?_ _) | (with_reducible refine GL.drewN ?_ _) | (with_reducible refine GL.drew ?_))); rintro e w40 ⟨rfl, hb⟩; have n0_ := Aside0.mk (blk_below (g := g187) (o := .cells #[.int .u64 a3_0, .int .u64 a3_1] 36 (0, 0)) (by exact B187.out) hb); have n1_ := Aside0.mk (below_step (by repeat (first | (with_reducible first | exact HB.out | apply below_alloc | apply pw_below_drewN | apply below_drew1 | refine below_set ?_ GE187.out) | exact HB.out)) hb); clear B187; clear HB; have B187 := n0_; have HB := n1_; clear n0_ n1_; (try clear hb); (try clear hb2); (try clear hk); (try clear hi)) | (go_at_call 39; (with_reducible refine (tree_proper.calls a0 _ _ l1 false _ ?side1 ?side2 ?side3 A12.out).mono ?_); (case side1 => repeat (first | exact (Kd.C_below HR1.out HB.out) | (with_reducible refine Kd.C_alloc ?_ _) | (with_reducible refine Kd.C_drewN ?_ _) | (with_reducible refine Kd.C_drew ?_))); (case side2 => exact HC1.out); (case side3 => repeat (first | exact (GL.below HRG.out HB.out) | (with_reducible refine GL.alloc ?_ _) | (with_reducible refine GL.drewN ?_ _) | (with_reducible refine GL.drew ?_))); rintro e w41 ⟨rfl, hb⟩; have n0_ := Aside0.mk (blk_below (g := g187) (o := .cells #[.int .u64 a3_0, .int .u64 a3_1] 36 (0, 0)) (by exact B187.out) hb); have n1_ := Aside0.mk (below_step (by repeat (first | (with_reducible first | exact HB.out | apply below_alloc | apply pw_below_drewN | apply below_drew1 | refine below_set ?_ GE187.out) | exact HB.out)) hb); clear B187; clear HB; have B187 := n0_; have HB := n1_; clear n0_ n1_; (try clear hb); (try clear hb2); (try clear hk); (try clear hi)))
    go_ret
    exact ⟨by first | rfl | (simp [errW_none, errW_some] <;> rfl) | (simp [*, errW_none, errW_some] <;> rfl), by repeat (first | (with_reducible first | exact HB.out | apply below_alloc | apply pw_below_drewN | apply below_drew1 | refine below_set ?_ GE187.out) | exact HB.out)⟩
  ·replace c11 := Bool.eq_false_iff.mpr c11
   subst c11
   have H1 : (some false) = some r := by rw [if_neg (show ¬ (false = true) by decide)] at H; exact H
   clear H
   have H := H1
   clear H1
   obtain rfl := Option.some.inj H
   go_enter Tryd.func26, Tryd.ntmps26
   go_wp2_with (first | ((with_reducible refine gate_dst (N := 8) rfl ?_); (try (refine gate_guard (by rfl) ?_; dsimp only)); refine box_event ?hg (N := 8) ?hd (cs := #[.int .u64 a3_0, .int .u64 a3_1]) (t := 36) ?hr ?_; (case hd => rfl); (case hg => rfl); (case hr => first | (go_simp; done) | (go_simp; rfl)); intro g187 hg w42 hbox hb; have n0_ := Aside0.mk (below_step (by repeat (first | (with_reducible first | exact HB.out | apply below_alloc | apply pw_below_drewN | apply below_drew1) | exact HB.out)) hb); have n1_ := Aside0.mk (hbox); have n2_ := Aside0.mk ((by rw [hg]; exact (below_size (by repeat (first | (with_reducible first | exact HB.out | apply below_alloc | apply pw_below_drewN | apply below_drew1) | exact HB.out))) : w.heap.size ≤ g187)); have n3_ := Aside0.mk ((by rw [hg]; exact (below_size (by repeat (first | (with_reducible first | exact HB.out | apply below_alloc | apply pw_below_drewN | apply below_drew1) | exact HB.out))) : w.heap.size ≤ g187)); clear HB; have HB := n0_; have B187 := n1_; have GW187 := n2_; have GE187 := n3_; clear n0_ n1_ n2_ n3_; clear hb hbox hg) | ((with_reducible refine gate_callee (f := 37) rfl ?_); refine goesL_ (some 14) rfl rfl Tryd.func37 (by kernel_rfl) rfl #[.int .i64 (l1.length : Int)] rfl (by (try simp only [List.map_toArray, List.map_cons, List.map_nil]); first | done | rfl | (go_simp; done)) ?_; (with_reducible refine (tree_height.calls (l1.length : Int) t188 _ ?side1 A6.out).mono ?_); (case side1 => repeat (first | exact (GL.below HRG.out HB.out) | (with_reducible refine GL.alloc ?_ _) | (with_reducible refine GL.drewN ?_ _) | (with_reducible refine GL.drew ?_))); rintro e w43 ⟨rfl, hb⟩; refine ⟨_, rfl, ?_⟩; have n0_ := Aside0.mk (blk_below (g := g187) (o := .cells #[.int .u64 a3_0, .int .u64 a3_1] 36 (0, 0)) (by exact B187.out) hb); have n1_ := Aside0.mk (below_step (by repeat (first | (with_reducible first | exact HB.out | apply below_alloc | apply pw_below_drewN | apply below_drew1 | refine below_set ?_ GE187.out) | exact HB.out)) hb); clear B187; clear HB; have B187 := n0_; have HB := n1_; clear n0_ n1_; (try clear hb); (try clear hb2); (try clear hk); (try clear hi); have hcz44_0 : w43.cell? ⟨g187, 0, none⟩ = some (.int .u64 a3_0) := bq_ B187 0; have hcz44_1 : w43.cell? ⟨g187, 1, none⟩ = some (.int .u64 a3_1) := bq_ B187 1; have hfz44_0 := blk_frozen B187.out 0; have hfz44_1 := blk_frozen B187.out 1) | (go_at_call 47; (with_reducible refine (tree_opens.calls a0 a2 a3_0 a3_1 _ _ l4 false _ ?side1 ?side2 ?side3 A10.out).mono ?_); (case side1 => repeat (first | exact (Kd.C_below HR4.out HB.out) | (with_reducible refine Kd.C_alloc ?_ _) | (with_reducible refine Kd.C_drewN ?_ _) | (with_reducible refine Kd.C_drew ?_))); (case side2 => exact HC4.out); (case side3 => repeat (first | exact (GL.below HRG.out HB.out) | (with_reducible refine GL.alloc ?_ _) | (with_reducible refine GL.drewN ?_ _) | (with_reducible refine GL.drew ?_))); rintro e w45 ⟨rfl, hb⟩; have n0_ := Aside0.mk (blk_below (g := g187) (o := .cells #[.int .u64 a3_0, .int .u64 a3_1] 36 (0, 0)) (by exact B187.out) hb); have n1_ := Aside0.mk (below_step (by repeat (first | (with_reducible first | exact HB.out | apply below_alloc | apply pw_below_drewN | apply below_drew1 | refine below_set ?_ GE187.out) | exact HB.out)) hb); clear B187; clear HB; have B187 := n0_; have HB := n1_; clear n0_ n1_; (try clear hb); (try clear hb2); (try clear hk); (try clear hi)))
   go_ret
   exact ⟨by first | rfl | (simp [errW_none, errW_some] <;> rfl) | (simp [*, errW_none, errW_some] <;> rfl), by repeat (first | (with_reducible first | exact HB.out | apply below_alloc | apply pw_below_drewN | apply below_drew1 | refine below_set ?_ GE187.out) | exact HB.out)⟩

end Go.Proofs.YtpnpmeogffodgaaDoor.Q
end
section
namespace Go.Proofs.YtpnpmeogffodgaaDoor.Q
open Go.RowKit Go.Proofs.YtpnpmeogffodgaaDoorW.PrintWords Go.Proofs.YtpnpmeogffodgaaDoorW.PrintLast Go.Proofs.YtpnpmeogffodgaaDoorW.PrintMore
attribute [local go_sem] max2_int min2_int max_two min_two max_three min_three max_four min_four run_store_fnV run_store_fnc run_store_nfn   -- for this text's walks alone
set_option linter.unusedVariables false
set_option linter.unusedSimpArgs false

attribute [local go_sem high] eqA36
/-! ### attestorref07_Equal: function 18 -/
def attestorref07_Equal.l0 : Nat → List (S36) → List (S36) → Int → Option (Bool)
  | 0, _, _, _ => none
  | k + 1, x0, x1, x5 => if x5 < (x0.length : Int) then (if 0 ≤ x5 then (if x5 < (x1.length : Int) then (if (!(((rd_T36 x0 x5).f0) == ((rd_T36 x1 x5).f0)) || (!(((rd_T36 x0 x5).f1) == ((rd_T36 x1 x5).f1)))) = true then (some false) else (attestorref07_Equal.l0 k x0 x1 (wrap64 (x5 + 1)))) else (none)) else (none)) else (some true)
def attestorref07_Equal.f (k : Nat) (l0 : List (S36)) (l1 : List (S36)) : Option (Bool) := if (l0.length : Int) = (l1.length : Int) then (attestorref07_Equal.l0 k l0 l1 0) else (some false)
theorem attestorref07_Equal.mono_l : ∀ k, (∀ y0 y1 y2, LeO (attestorref07_Equal.l0 k y0 y1 y2) (attestorref07_Equal.l0 (k + 1) y0 y1 y2))
  | 0 => fun _ _ _ r h => by simp [attestorref07_Equal.l0] at h
  | k + 1 => by
    have ih0 := attestorref07_Equal.mono_l k
    · intro y0 y1 y2
      unfold attestorref07_Equal.l0
      repeat' first
      | (with_reducible exact ih0 _ _ _)
      | (with_reducible exact LeO.refl _)
      | (with_reducible exact LeO.none _)
      | (with_reducible refine LeO.ite ?_ ?_)
      | (with_reducible refine LeO.bind ?_ (fun _ => ?_))
      | exact ih0 _ _ _
      | exact LeO.none _
      | refine LeO.ite ?_ ?_
      | refine LeO.bind ?_ (fun _ => ?_)
theorem attestorref07_Equal.mono : ∀ a0 a1 k, LeO (attestorref07_Equal.f k a0 a1) (attestorref07_Equal.f (k + 1) a0 a1) := by
  intro a0 a1 k
  have ih0 := attestorref07_Equal.mono_l k
  unfold attestorref07_Equal.f
  repeat' first
      | (with_reducible exact ih0 _ _ _)
      | (with_reducible exact LeO.refl _)
      | (with_reducible exact LeO.none _)
      | (with_reducible refine LeO.ite ?_ ?_)
      | (with_reducible refine LeO.bind ?_ (fun _ => ?_))
      | exact ih0 _ _ _
      | exact LeO.none _
      | refine LeO.ite ?_ ?_
      | refine LeO.bind ?_ (fun _ => ?_)
set_option maxHeartbeats 8000000 in
set_option maxRecDepth 100000 in
theorem attestorref07_Equal.calls (k : Nat) (A0 : Option Addr) (c0 : Nat) (l0 : List (S36)) (A1 : Option Addr) (c1 : Nat) (l1 : List (S36)) (r : Bool) (w : World) (hr0 : Kd.C k36 w A0 l0.length l0) (hc0 : l0.length ≤ c0) (hr1 : Kd.C k36 w A1 l1.length l1) (hc1 : l1.length ≤ c1) (h : attestorref07_Equal.f k l0 l1 = some r) :
  Calls Tryd.prog 18 #[.slice A0 l0.length c0, .slice A1 l1.length c1] w fun e w' => e = .returned (.bool r) ∧ Drawn0 w w' := by
 have hu36 := Tryd.underlying36
 have HR0 := Aside0.mk hr0
 have HC0 := Aside0.mk hc0
 clear hr0 hc0
 have HR1 := Aside0.mk hr1
 have HC1 := Aside0.mk hc1
 clear hr1 hc1
 have H : (if (l0.length : Int) = (l1.length : Int) then (attestorref07_Equal.l0 k l0 l1 0) else (some false)) = some r := h
 clear h
 by_cases c3 : (l0.length : Int) = (l1.length : Int)
 ·rw [if_pos c3] at H
  have c3b0 : ((l0.length : Int) == (l1.length : Int)) = true := beq_iff_eq.mpr c3
  have c3b1 : ((l0.length : Int) != (l1.length : Int)) = false := bne_eq_false_iff_eq.mpr c3
  have c3b2 : (l0.length == l1.length) = true := by first | simpa using c3 | (simp at c3 ⊢; omega)
  clear c3
  have H' := Aside0.mk H
  clear H
  go_enter Tryd.func18, Tryd.ntmps18
  go_wp2
  repeat (go_quiet (fail); try go_wp2)
  go_loopg [5] k (fun kq v5 w' => ∃ (x5_1 : Int), v5 = .int .i64 x5_1 ∧ Aside0 (attestorref07_Equal.l0 kq l0 l1 x5_1 = some r) ∧ Aside0 (kq ≤ k) ∧ Drawn0 w w')
  case atStart => exact ⟨(0), (by first | rfl | (simp; done) | (simp [*]; done) | (simp; rfl) | (simp; decide +kernel)), H', ⟨Nat.le_refl _⟩, by repeat (first | exact Drawn0.refl _ | apply Drawn0.step)⟩
  case round =>
   clear H'
   try clear c1
   try clear p2
   try clear c3
   try clear c3b0
   try clear c3b1
   try clear c3b2
   obtain ⟨x5_1, rfl, HA, HK1, ⟨m1, rfl⟩⟩ := hrel
   cases gk with
   | zero => exact absurd HA.out (by simp [attestorref07_Equal.l0])
   | succ k1 =>
    have H := HA.out
    clear HA
    simp only [attestorref07_Equal.l0] at H
    by_cases c4 : x5_1 < (l0.length : Int)
    ·rw [if_pos c4] at H
     have c4b0 : decide (x5_1 < (l0.length : Int)) = true := decide_eq_true c4
     clear c4
     by_cases c5 : 0 ≤ x5_1
     ·rw [if_pos c5] at H
      have c5b0 : decide (0 ≤ x5_1) = true := decide_eq_true c5
      clear c5
      by_cases c6 : x5_1 < (l1.length : Int)
      ·rw [if_pos c6] at H
       have c6b0 : decide (x5_1 < (l1.length : Int)) = true := decide_eq_true c6
       clear c6
       by_cases c7 : (!(((rd_T36 l0 x5_1).f0) == ((rd_T36 l1 x5_1).f0)) || (!(((rd_T36 l0 x5_1).f1) == ((rd_T36 l1 x5_1).f1)))) = true
       ·rw [if_pos c7] at H
        have c7b0 : (!(((rd_T36 l0 x5_1).f0) == ((rd_T36 l1 x5_1).f0)) || (!(((rd_T36 l0 x5_1).f1) == ((rd_T36 l1 x5_1).f1)))) = true := c7
        clear c7
        obtain rfl := Option.some.inj H
        have p151 : 0 ≤ (x5_1 : Int) := of_decide_eq_true (by first | (with_reducible assumption) | assumption)
        have q151 : x5_1 < (l0.length : Int) := of_decide_eq_true (by first | (with_reducible assumption) | assumption)
        obtain ⟨ad151, e151, hx151_0, hx151_1⟩ := at_T36 HR0.out x5_1 p151 q151
        cases e151
        replace p151 := eq_true p151
        replace q151 := eq_true q151
        have p152 : 0 ≤ (x5_1 : Int) := of_decide_eq_true (by first | (with_reducible assumption) | assumption)
        have q152 : x5_1 < (l1.length : Int) := of_decide_eq_true (by first | (with_reducible assumption) | assumption)
        obtain ⟨ad152, e152, hx152_0, hx152_1⟩ := at_T36 HR1.out x5_1 p152 q152
        cases e152
        replace p152 := eq_true p152
        replace q152 := eq_true q152
        go_wp2
        repeat (go_quiet (fail); try go_wp2)
        go_ret
        exact ⟨by first | rfl | (simp; done) | (simp [*]; done), by repeat (first | exact Drawn0.refl _ | apply Drawn0.step)⟩
       ·rw [if_neg c7] at H
        have c7b0 : (!(((rd_T36 l0 x5_1).f0) == ((rd_T36 l1 x5_1).f0)) || (!(((rd_T36 l0 x5_1).f1) == ((rd_T36 l1 x5_1).f1)))) = false := by simpa using c7
        clear c7
        have H' := Aside0.mk H
        clear H
        have p151 : 0 ≤ (x5_1 : Int) := of_decide_eq_true (by first | (with_reducible assumption) | assumption)
        have q151 : x5_1 < (l0.length : Int) := of_decide_eq_true (by first | (with_reducible assumption) | assumption)
        obtain ⟨ad151, e151, hx151_0, hx151_1⟩ := at_T36 HR0.out x5_1 p151 q151
        cases e151
        replace p151 := eq_true p151
        replace q151 := eq_true q151
        have p152 : 0 ≤ (x5_1 : Int) := of_decide_eq_true (by first | (with_reducible assumption) | assumption)
        have q152 : x5_1 < (l1.length : Int) := of_decide_eq_true (by first | (with_reducible assumption) | assumption)
        obtain ⟨ad152, e152, hx152_0, hx152_1⟩ := at_T36 HR1.out x5_1 p152 q152
        cases e152
        replace p152 := eq_true p152
        replace q152 := eq_true q152
        go_wp2
        repeat (go_quiet (fail); try go_wp2)
        go_roundg k1
        case measure => have := HK1.out; omega
        case rel => exact ⟨(wrap64 (x5_1 + 1)), (by first | rfl | (simp; done) | (simp [*]; done) | (simp; rfl) | (simp; decide +kernel)), H', ⟨by have := HK1.out; omega⟩, by repeat (first | exact Drawn0.refl _ | apply Drawn0.step)⟩
      ·rw [if_neg c6] at H
       exact absurd H (by simp)
     ·rw [if_neg c5] at H
      exact absurd H (by simp)
    ·rw [if_neg c4] at H
     have c4b0 : decide (x5_1 < (l0.length : Int)) = false := decide_eq_false c4
     clear c4
     obtain rfl := Option.some.inj H
     go_wp2
     repeat (go_quiet (fail); try go_wp2)
     go_ret
     exact ⟨by first | rfl | (simp; done) | (simp [*]; done), by repeat (first | exact Drawn0.refl _ | apply Drawn0.step)⟩
 ·rw [if_neg c3] at H
  have c3b0 : ((l0.length : Int) == (l1.length : Int)) = false := beq_eq_false_iff_ne.mpr c3
  have c3b1 : ((l0.length : Int) != (l1.length : Int)) = true := bne_iff_ne.mpr c3
  have c3b2 : (l0.length == l1.length) = false := by first | simpa using c3 | (simp at c3 ⊢; omega)
  obtain rfl := Option.some.inj H
  go_enter Tryd.func18, Tryd.ntmps18
  go_wp2
  repeat (go_quiet (fail); try go_wp2)
  go_ret
  exact ⟨by first | rfl | (simp; done) | (simp [*]; done), by repeat (first | exact Drawn0.refl _ | apply Drawn0.step)⟩

end Go.Proofs.YtpnpmeogffodgaaDoor.Q
end
section
namespace Go.Proofs.YtpnpmeogffodgaaDoor.Q
open Go.RowKit Go.Proofs.YtpnpmeogffodgaaDoorW.PrintWords Go.Proofs.YtpnpmeogffodgaaDoorW.PrintLast Go.Proofs.YtpnpmeogffodgaaDoorW.PrintMore
attribute [local go_sem] max2_int min2_int max_two min_two max_three min_three max_four min_four   -- for this text's walks alone
set_option linter.unusedVariables false
set_option linter.unusedSimpArgs false

/-! ### slices_Clone: function 45 -/
def slices_Clone.f (l0 : List (S36)) : Option ((List (S36))) := (some (([] : List (S36)) : List (S36))).bind fun y101 => (if y101.length + l0.length < 8796093022208 then (some (y101 ++ l0)) else (none))
set_option maxHeartbeats 8000000 in
set_option maxRecDepth 100000 in
theorem slices_Clone.calls_some (a0_ : Addr) (c0 : Nat) (l0 : List (S36)) (r : List (S36)) (w : World) (hr0 : Kd.C k36 w (some a0_) l0.length l0) (hc0 : l0.length ≤ c0) (h : slices_Clone.f l0 = some r) :
    Calls Tryd.prog 45 #[.slice (some a0_) l0.length c0] w fun e w' => ∃ v0_ : Value, e = .returned (v0_) ∧ Kd.R k36 36 w' w.heap.size (fun _ => True) v0_ r ∧ Below w.heap.size w w' := by
  have HR0 := Aside0.mk hr0
  have HC0 := Aside0.mk hc0
  clear hr0 hc0
  have HB := Aside0.mk (Below.refl w.heap.size w)
  have H : ((some (([] : List (S36)) : List (S36))).bind fun y101 => (if y101.length + l0.length < 8796093022208 then (some (y101 ++ l0)) else (none))) = some r := h
  clear h
  obtain ⟨y101, hy101⟩ : ∃ y_ : List (S36), y_ = (([] : List (S36))) := ⟨_, rfl⟩
  replace H : (if y101.length + l0.length < 8796093022208 then (some (y101 ++ l0)) else (none)) = some r := by first | (rw [hy101]; with_reducible exact H) | (have H2_ := (Option.bind_some _ _).symm.trans H; rw [hy101]; with_reducible exact H2_) | (have H2_ := (Option.bind_some _ _).symm.trans H; with_reducible exact H2_) | with_reducible exact H | (rw [hy101]; exact H) | exact H
  have Ny101 := Aside0.mk hy101
  clear hy101
  by_cases c2 : y101.length + l0.length < 8796093022208
  · rw [if_pos c2] at H
    have LMc2 := Aside0.mk c2
    clear c2
    obtain ⟨y104, hy104⟩ : ∃ y_ : List (S36), y_ = (y101 ++ l0) := ⟨_, rfl⟩
    replace H : (some y104) = some r := by first | (rw [hy104]; with_reducible exact H) | (have H2_ := (Option.bind_some _ _).symm.trans H; rw [hy104]; with_reducible exact H2_) | (have H2_ := (Option.bind_some _ _).symm.trans H; with_reducible exact H2_) | with_reducible exact H | (rw [hy104]; exact H) | exact H
    have Ny104 := Aside0.mk hy104
    clear hy104
    obtain rfl := Option.some.inj H
    have hnil := fun (W : World) => Lib.run_eql_slice_nil (P := Tryd.prog) W 22 36 (some a0_) l0.length c0 0 0 Tryd.underlying22
    go_enter Tryd.func45, Tryd.ntmps45
    go_wp2_with (first | ((with_reducible refine gate_dst (N := 5) rfl ?_); refine Kd.R_lit k36 _ 36 ?hg (N := 5) ?hd (xs := ([] : List (S36))) (inner := []) (ok := fun _ => True) (okp := fun _ => True) ?hr ?hp (fun _ hk => hk) trivial (Below.refl _ _) (Nat.le_refl _) (by simp) ?_; (case hd => rfl); (case hg => rfl); (case hr => first | (go_simp; done) | (go_simp; rfl)); (case hp => exact (Reps.none _ _)); intro v102 w3 ho4 hb hg_ hnew_; clear hg_ hnew_; (first | rw [← Ny101.out] at ho4 | (simp only [Int.reduceToNat] at ho4; rw [← Ny101.out] at ho4)); have n0_ := Aside0.mk (Kd.R_lower ho4 (below_size (by repeat (first | (with_reducible first | exact HB.out | apply below_alloc | apply pw_below_drewN | apply below_drew1) | exact HB.out)))); have n1_ := Aside0.mk (below_step (by repeat (first | (with_reducible first | exact HB.out | apply below_alloc | apply pw_below_drewN | apply below_drew1) | exact HB.out)) hb); clear HB; have HO103 := n0_; have HB := n1_; clear n0_ n1_; clear hb ho4) | ((with_reducible refine gate_builtin (b := .append) (xs := #[.tmp 5, .tmp 6]) rfl ?_); at_builtin; refine Kd.R_append_rows k36 (w0 := w) w.heap.size rfl (.tmp 5) (.tmp 6) 22 36 (.agg #[(.int .u64 0), (.int .u64 0)]) 16 rfl Tryd.underlying22 info36 rfl (by decide) (by omega) v102 y101 l0 _ _ _ (fun _ => True) (fun _ => False) rfl rfl ?aO ?aR (fun _ _ h => h) (fun _ h => h.elim) ?aF ?aB ?aS ?aL ?_; (case aR => repeat (first | exact (Kd.C_below HR0.out HB.out) | (with_reducible refine Kd.C_alloc ?_ _) | (with_reducible refine Kd.C_drewN ?_ _) | (with_reducible refine Kd.C_drew ?_))); (case aB => exact (by repeat (first | (with_reducible first | exact HB.out | apply below_alloc | apply pw_below_drewN | apply below_drew1) | exact HB.out))); (case aF => exact (fun _ _ => trivial)); (case aO => exact (by (with_reducible repeat (first | apply Kd.R_alloc | apply Kd.R_drewN | apply Kd.R_drew)); exact HO103.out)); (case aS => exact (below_size (by repeat (first | (with_reducible first | exact HB.out | apply below_alloc | apply pw_below_drewN | apply below_drew1) | exact HB.out)))); (case aL => have := LMc2.out; omega); intro v105 w5 ho hb hg hat; rw [← Ny104.out] at ho; have n0_ := Aside0.mk (hb); have n1_ := Aside0.mk (ho); clear HB; clear HO103; have HB := n0_; have HO106 := n1_; clear n0_ n1_; clear ho hb hg hat))
    go_ret
    exact ⟨_, by first | rfl | (simp [errW_none, errW_some] <;> rfl) | (simp [*, errW_none, errW_some] <;> rfl), by (with_reducible repeat (first | apply Kd.R_alloc | apply Kd.R_drewN | apply Kd.R_drew)); exact HO106.out, by repeat (first | (with_reducible first | exact HB.out | apply below_alloc | apply pw_below_drewN | apply below_drew1) | exact HB.out)⟩
  · rw [if_neg c2] at H
    exact absurd H (by simp)
set_option maxHeartbeats 1000000 in
theorem slices_Clone.calls_none (c0 : Nat) (l0 : List (S36)) (r : List (S36)) (w : World) (hr0 : Kd.C k36 w none l0.length l0) (hc0 : l0.length ≤ c0) (h : slices_Clone.f l0 = some r) :
    Calls Tryd.prog 45 #[.slice none l0.length c0] w fun e w' => ∃ v0_ : Value, e = .returned (v0_) ∧ Kd.R k36 36 w' w.heap.size (fun _ => True) v0_ r ∧ Below w.heap.size w w' := by
  have hl0 : l0 = [] := by
    by_cases hz : l0.length = 0
    · exact List.eq_nil_of_length_eq_zero hz
    · obtain ⟨ad, c, e, _⟩ := Kd.C_get hr0 z36 0 (by omega) (by omega)
      cases e
  subst hl0
  unfold slices_Clone.f at h
  have hr : r = [] := by simp at h; first | exact h | exact h.symm
  subst hr
  clear h hr0 hc0
  have hnil := fun (W : World) => Lib.run_eql_slice_nil (P := Tryd.prog) W 22 36 none 0 c0 0 0 Tryd.underlying22
  go_enter Tryd.func45, Tryd.ntmps45
  go_wp2
  go_ret
  exact ⟨_, rfl, by first | exact Kd.R_nil _ _ _ _ _ | exact Kd.S_nil _ _ _ _ _ | exact Kd.N_nil _ _ _ _ _ | exact Kd.V_nil _ _ _ _ _ | exact Kd.Q_nil _ _ _ _ _, Below.refl _ _⟩
theorem slices_Clone.calls (A0 : Option Addr) (c0 : Nat) (l0 : List (S36)) (r : List (S36)) (w : World) (hr0 : Kd.C k36 w A0 l0.length l0) (hc0 : l0.length ≤ c0) (h : slices_Clone.f l0 = some r) :
    Calls Tryd.prog 45 #[.slice A0 l0.length c0] w fun e w' => ∃ v0_ : Value, e = .returned (v0_) ∧ Kd.R k36 36 w' w.heap.size (fun _ => True) v0_ r ∧ Below w.heap.size w w' := by
  cases A0 with
  | none => exact slices_Clone.calls_none c0 l0 r w hr0 hc0 h
  | some a => exact slices_Clone.calls_some a c0 l0 r w hr0 hc0 h
end Go.Proofs.YtpnpmeogffodgaaDoor.Q
end
section
namespace Go.Proofs.YtpnpmeogffodgaaDoor.Q
open Go.RowKit Go.Proofs.YtpnpmeogffodgaaDoorW.PrintWords Go.Proofs.YtpnpmeogffodgaaDoorW.PrintLast Go.Proofs.YtpnpmeogffodgaaDoorW.PrintMore
attribute [local go_sem] max2_int min2_int max_two min_two max_three min_three max_four min_four run_store_fnV run_store_fnc run_store_nfn   -- for this text's walks alone
set_option linter.unusedVariables false
set_option linter.unusedSimpArgs false

/-! ### tree_Cap: function 19 -/
def tree_Cap.f (k : Nat) (a0_0 : Int) (a0_1 : Int) (a0_2 : Int) (l0_3 : List (List (S36))) : Option ((List (S36))) := (tree_Valid.f k a0_0 a0_1 a0_2 l0_3).bind fun t158 => (if t158 = true then (if 0 ≤ (wrap64 ((l0_3.length : Int) - 1)) then (if (wrap64 ((l0_3.length : Int) - 1)) < (l0_3.length : Int) then ((slices_Clone.f (rd_L3 l0_3 (wrap64 ((l0_3.length : Int) - 1)))).bind fun t160 => (some t160)) else (none)) else (none)) else (some ([] : List (S36))))
theorem tree_Cap.mono : ∀ a0 a1 a2 a3 k, LeO (tree_Cap.f k a0 a1 a2 a3) (tree_Cap.f (k + 1) a0 a1 a2 a3) := by
  intro a0 a1 a2 a3 k
  unfold tree_Cap.f
  repeat' first
      | (with_reducible exact tree_Valid.mono _ _ _ _ _)
      | (with_reducible exact LeO.refl _)
      | (with_reducible exact LeO.none _)
      | (with_reducible refine LeO.ite ?_ ?_)
      | (with_reducible refine LeO.bind ?_ (fun _ => ?_))
      | exact tree_Valid.mono _ _ _ _ _
      | exact LeO.none _
      | refine LeO.ite ?_ ?_
      | refine LeO.bind ?_ (fun _ => ?_)
set_option maxHeartbeats 8000000 in
set_option maxRecDepth 100000 in
theorem tree_Cap.calls (k : Nat) (a0_0 : Int) (a0_1 : Int) (a0_2 : Int) (A0_3 : Option Addr) (c0_3 : Nat) (l0_3 : List (List (S36))) (r : List (S36)) (w : World) (hr0_3 : Kd.C (Kd.slice 36 k36) w A0_3 l0_3.length l0_3) (hc0_3 : l0_3.length ≤ c0_3) (hrG : GL w) (h : tree_Cap.f k a0_0 a0_1 a0_2 l0_3 = some r) :
  Calls Tryd.prog 19 #[.agg #[.int .i64 a0_0, .int .i64 a0_1, .int .i64 a0_2, .slice A0_3 l0_3.length c0_3]] w fun e w' => ∃ v0_ : Value, e = .returned (v0_) ∧ Kd.R k36 36 w' w.heap.size (fun _ => True) v0_ r ∧ Below w.heap.size w w' := by
 have hu26 := Tryd.underlying26
 have HRG := Aside0.mk hrG
 clear hrG
 have HR0_3 := Aside0.mk hr0_3
 have HC0_3 := Aside0.mk hc0_3
 clear hr0_3 hc0_3
 have HB := Aside0.mk (Below.refl w.heap.size w)
 have H : ((tree_Valid.f k a0_0 a0_1 a0_2 l0_3).bind fun t158 => (if t158 = true then (if 0 ≤ (wrap64 ((l0_3.length : Int) - 1)) then (if (wrap64 ((l0_3.length : Int) - 1)) < (l0_3.length : Int) then ((slices_Clone.f (rd_L3 l0_3 (wrap64 ((l0_3.length : Int) - 1)))).bind fun t160 => (some t160)) else (none)) else (none)) else (some ([] : List (S36))))) = some r := h
 clear h
 replace H := Option.bind_eq_some_iff.mp H
 obtain ⟨t158, A20, H⟩ := H
 have A2 := Aside0.mk A20
 clear A20
 by_cases c3 : t158 = true
 ·subst c3
  have H1 : (if 0 ≤ (wrap64 ((l0_3.length : Int) - 1)) then (if (wrap64 ((l0_3.length : Int) - 1)) < (l0_3.length : Int) then ((slices_Clone.f (rd_L3 l0_3 (wrap64 ((l0_3.length : Int) - 1)))).bind fun t160 => (some t160)) else (none)) else (none)) = some r := by rw [if_pos rfl] at H; exact H
  clear H
  have H := H1
  clear H1
  obtain ⟨ji4, hji4⟩ : ∃ j_ : Int, (wrap64 ((l0_3.length : Int) - 1)) = j_ := ⟨_, rfl⟩
  replace H : (if 0 ≤ (ji4) then (if (ji4) < (l0_3.length : Int) then ((slices_Clone.f (rd_L3 l0_3 (ji4))).bind fun t160 => (some t160)) else (none)) else (none)) = some r := by first | (rw [hji4] at H; exact H) | (simp only [hji4] at H ⊢; exact H)
  (try rw [hji4] at A2)
  have hji4w : (IntKind.i64.wrap ((l0_3.length : Int) - 1)) = ji4 := (i64_w _).trans hji4
  by_cases c5 : 0 ≤ (ji4)
  ·rw [if_pos c5] at H
   have c5b0 : decide (0 ≤ (ji4)) = true := decide_eq_true c5
   clear c5
   by_cases c6 : (ji4) < (l0_3.length : Int)
   ·rw [if_pos c6] at H
    have c6b0 : decide ((ji4) < (l0_3.length : Int)) = true := decide_eq_true c6
    clear c6
    replace H := Option.bind_eq_some_iff.mp H
    obtain ⟨t160, A70, H⟩ := H
    have A7 := Aside0.mk A70
    clear A70
    obtain rfl := Option.some.inj H
    go_enter Tryd.func19, Tryd.ntmps19
    go_wp2_with (first | ((with_reducible refine gate_dst (N := 1) rfl ?_); refine box_event ?hg (N := 1) ?hd (cs := #[.int .i64 a0_0, .int .i64 a0_1, .int .i64 a0_2, .slice A0_3 l0_3.length c0_3]) (t := 26) ?hr ?_; (case hd => rfl); (case hg => rfl); (case hr => first | (go_simp; done) | (go_simp; rfl)); intro g157 hg w8 hbox hb; have n0_ := Aside0.mk (below_step (by repeat (first | (with_reducible first | exact HB.out | apply below_alloc | apply pw_below_drewN | apply below_drew1) | exact HB.out)) hb); have n1_ := Aside0.mk (hbox); have n2_ := Aside0.mk ((by rw [hg]; exact (below_size (by repeat (first | (with_reducible first | exact HB.out | apply below_alloc | apply pw_below_drewN | apply below_drew1) | exact HB.out))) : w.heap.size ≤ g157)); have n3_ := Aside0.mk ((by rw [hg]; exact (below_size (by repeat (first | (with_reducible first | exact HB.out | apply below_alloc | apply pw_below_drewN | apply below_drew1) | exact HB.out))) : w.heap.size ≤ g157)); clear HB; have HB := n0_; have B157 := n1_; have GW157 := n2_; have GE157 := n3_; clear n0_ n1_ n2_ n3_; clear hb hbox hg; have hcz9_0 : w8.cell? ⟨g157, 0, none⟩ = some (.int .i64 a0_0) := bq_ B157 0; have hcz9_1 : w8.cell? ⟨g157, 1, none⟩ = some (.int .i64 a0_1) := bq_ B157 1; have hcz9_2 : w8.cell? ⟨g157, 2, none⟩ = some (.int .i64 a0_2) := bq_ B157 2; have hcz9_3 : w8.cell? ⟨g157, 3, none⟩ = some (.slice A0_3 l0_3.length c0_3) := bq_ B157 3; have hfz9_0 := blk_frozen B157.out 0; have hfz9_1 := blk_frozen B157.out 1; have hfz9_2 := blk_frozen B157.out 2; have hfz9_3 := blk_frozen B157.out 3) | ((with_reducible refine gate_callee (f := 16) rfl ?_); refine goesL_ (some 4) rfl rfl Tryd.func16 (by kernel_rfl) rfl #[.agg #[.int .i64 a0_0, .int .i64 a0_1, .int .i64 a0_2, .slice A0_3 l0_3.length c0_3]] rfl (by (try simp only [List.map_toArray, List.map_cons, List.map_nil]); first | done | rfl | (go_simp; done)) ?_; (with_reducible refine (tree_Valid.calls k a0_0 a0_1 a0_2 _ _ l0_3 true _ ?side1 ?side2 ?side3 A2.out).mono ?_); (case side1 => repeat (first | exact (Kd.C_below HR0_3.out HB.out) | (with_reducible refine Kd.C_alloc ?_ _) | (with_reducible refine Kd.C_drewN ?_ _) | (with_reducible refine Kd.C_drew ?_))); (case side2 => exact HC0_3.out); (case side3 => repeat (first | exact (GL.below HRG.out HB.out) | (with_reducible refine GL.alloc ?_ _) | (with_reducible refine GL.drewN ?_ _) | (with_reducible refine GL.drew ?_))); rintro e w10 ⟨rfl, hb⟩; refine ⟨_, rfl, ?_⟩; have n0_ := Aside0.mk (blk_below (g := g157) (o := .cells #[.int .i64 a0_0, .int .i64 a0_1, .int .i64 a0_2, .slice A0_3 l0_3.length c0_3] 26 (0, 0)) (by exact B157.out) hb); have n1_ := Aside0.mk (below_step (by repeat (first | (with_reducible first | exact HB.out | apply below_alloc | apply pw_below_drewN | apply below_drew1 | refine below_set ?_ GE157.out) | exact HB.out)) hb); clear B157; clear HB; have B157 := n0_; have HB := n1_; clear n0_ n1_; (try clear hb); (try clear hb2); (try clear hk); (try clear hi); have hcz11_0 : w10.cell? ⟨g157, 0, none⟩ = some (.int .i64 a0_0) := bq_ B157 0; have hcz11_1 : w10.cell? ⟨g157, 1, none⟩ = some (.int .i64 a0_1) := bq_ B157 1; have hcz11_2 : w10.cell? ⟨g157, 2, none⟩ = some (.int .i64 a0_2) := bq_ B157 2; have hcz11_3 : w10.cell? ⟨g157, 3, none⟩ = some (.slice A0_3 l0_3.length c0_3) := bq_ B157 3; have hfz11_0 := blk_frozen B157.out 0; have hfz11_1 := blk_frozen B157.out 1; have hfz11_2 := blk_frozen B157.out 2; have hfz11_3 := blk_frozen B157.out 3; have p159 : 0 ≤ ((ji4) : Int) := of_decide_eq_true (by first | (with_reducible assumption) | assumption); have q159 : (ji4) < (l0_3.length : Int) := of_decide_eq_true (by first | (with_reducible assumption) | assumption); obtain ⟨ad159, A159_0, c159_0, e159, hx159_0, hl159_0, hi159_0⟩ := at_L3 HR0_3.out (ji4) p159 q159; cases e159; replace hx159_0 := (HB.out.cell (World.block_lt_of_cell? w _ hx159_0)).trans hx159_0; have HR159_0 := Aside0.mk hi159_0; have HC159_0 := Aside0.mk hl159_0; clear hi159_0 hl159_0; replace p159 := eq_true p159; replace q159 := eq_true q159) | ((with_reducible refine gate_callee (f := 45) rfl ?_); refine goesL_ (some 14) rfl rfl Tryd.func45 (by kernel_rfl) rfl #[.slice A159_0 (rd_L3 l0_3 (ji4)).length c159_0] rfl (by (try simp only [List.map_toArray, List.map_cons, List.map_nil]); first | done | (simp only [hji4]; rfl) | rfl | (simp only [List.length_drop, List.length_take]; rfl) | (go_simp; done) | (go_simp; rw [Int.tmod_eq_emod_of_nonneg (by omega)]; omega)) ?_; (with_reducible refine (slices_Clone.calls _ _ (rd_L3 l0_3 (ji4)) t160 _ ?side1 ?side2 A7.out).mono ?_); (case side1 => repeat (first | exact (Kd.C_below HR159_0.out HB.out) | (with_reducible refine Kd.C_alloc ?_ _) | (with_reducible refine Kd.C_drewN ?_ _) | (with_reducible refine Kd.C_drew ?_))); (case side2 => exact HC159_0.out); rintro e w12 ⟨v161, rfl, ho0, hb⟩; refine ⟨_, rfl, ?_⟩; have n0_ := Aside0.mk (Kd.R_lower ho0 (below_size (by repeat (first | (with_reducible first | exact HB.out | apply below_alloc | apply pw_below_drewN | apply below_drew1 | refine below_set ?_ GE157.out) | exact HB.out)))); have n1_ := Aside0.mk (blk_below (g := g157) (o := .cells #[.int .i64 a0_0, .int .i64 a0_1, .int .i64 a0_2, .slice (some ad159) l0_3.length c0_3] 26 (0, 0)) (by exact B157.out) hb); have n2_ := Aside0.mk (below_step (by repeat (first | (with_reducible first | exact HB.out | apply below_alloc | apply pw_below_drewN | apply below_drew1 | refine below_set ?_ GE157.out) | exact HB.out)) hb); clear B157; clear HB; have HO162 := n0_; have B157 := n1_; have HB := n2_; clear n0_ n1_ n2_; (try clear hb); (try clear hb2); (try clear hk); (try clear hi); (try clear ho0)))
    go_ret
    exact ⟨_, by first | rfl | (simp [errW_none, errW_some] <;> rfl) | (simp only [← hji4]; first | rfl | (simp [errW_none, errW_some] <;> rfl)) | (simp [*, errW_none, errW_some] <;> rfl), by (with_reducible repeat (first | apply Kd.R_alloc | apply Kd.R_drewN | apply Kd.R_drew)); exact HO162.out, by repeat (first | (with_reducible first | exact HB.out | apply below_alloc | apply pw_below_drewN | apply below_drew1 | refine below_set ?_ GE157.out) | exact HB.out)⟩
   ·rw [if_neg c6] at H
    exact absurd H (by simp)
  ·rw [if_neg c5] at H
   exact absurd H (by simp)
 ·replace c3 := Bool.eq_false_iff.mpr c3
  subst c3
  have H1 : (some ([] : List (S36))) = some r := by rw [if_neg (show ¬ (false = true) by decide)] at H; exact H
  clear H
  have H := H1
  clear H1
  obtain rfl := Option.some.inj H
  go_enter Tryd.func19, Tryd.ntmps19
  go_wp2_with (first | ((with_reducible refine gate_dst (N := 1) rfl ?_); refine box_event ?hg (N := 1) ?hd (cs := #[.int .i64 a0_0, .int .i64 a0_1, .int .i64 a0_2, .slice A0_3 l0_3.length c0_3]) (t := 26) ?hr ?_; (case hd => rfl); (case hg => rfl); (case hr => first | (go_simp; done) | (go_simp; rfl)); intro g157 hg w13 hbox hb; have n0_ := Aside0.mk (below_step (by repeat (first | (with_reducible first | exact HB.out | apply below_alloc | apply pw_below_drewN | apply below_drew1) | exact HB.out)) hb); have n1_ := Aside0.mk (hbox); have n2_ := Aside0.mk ((by rw [hg]; exact (below_size (by repeat (first | (with_reducible first | exact HB.out | apply below_alloc | apply pw_below_drewN | apply below_drew1) | exact HB.out))) : w.heap.size ≤ g157)); have n3_ := Aside0.mk ((by rw [hg]; exact (below_size (by repeat (first | (with_reducible first | exact HB.out | apply below_alloc | apply pw_below_drewN | apply below_drew1) | exact HB.out))) : w.heap.size ≤ g157)); clear HB; have HB := n0_; have B157 := n1_; have GW157 := n2_; have GE157 := n3_; clear n0_ n1_ n2_ n3_; clear hb hbox hg; have hcz14_0 : w13.cell? ⟨g157, 0, none⟩ = some (.int .i64 a0_0) := bq_ B157 0; have hcz14_1 : w13.cell? ⟨g157, 1, none⟩ = some (.int .i64 a0_1) := bq_ B157 1; have hcz14_2 : w13.cell? ⟨g157, 2, none⟩ = some (.int .i64 a0_2) := bq_ B157 2; have hcz14_3 : w13.cell? ⟨g157, 3, none⟩ = some (.slice A0_3 l0_3.length c0_3) := bq_ B157 3; have hfz14_0 := blk_frozen B157.out 0; have hfz14_1 := blk_frozen B157.out 1; have hfz14_2 := blk_frozen B157.out 2; have hfz14_3 := blk_frozen B157.out 3) | ((with_reducible refine gate_callee (f := 16) rfl ?_); refine goesL_ (some 4) rfl rfl Tryd.func16 (by kernel_rfl) rfl #[.agg #[.int .i64 a0_0, .int .i64 a0_1, .int .i64 a0_2, .slice A0_3 l0_3.length c0_3]] rfl (by (try simp only [List.map_toArray, List.map_cons, List.map_nil]); first | done | rfl | (go_simp; done)) ?_; (with_reducible refine (tree_Valid.calls k a0_0 a0_1 a0_2 _ _ l0_3 false _ ?side1 ?side2 ?side3 A2.out).mono ?_); (case side1 => repeat (first | exact (Kd.C_below HR0_3.out HB.out) | (with_reducible refine Kd.C_alloc ?_ _) | (with_reducible refine Kd.C_drewN ?_ _) | (with_reducible refine Kd.C_drew ?_))); (case side2 => exact HC0_3.out); (case side3 => repeat (first | exact (GL.below HRG.out HB.out) | (with_reducible refine GL.alloc ?_ _) | (with_reducible refine GL.drewN ?_ _) | (with_reducible refine GL.drew ?_))); rintro e w15 ⟨rfl, hb⟩; refine ⟨_, rfl, ?_⟩; have n0_ := Aside0.mk (blk_below (g := g157) (o := .cells #[.int .i64 a0_0, .int .i64 a0_1, .int .i64 a0_2, .slice A0_3 l0_3.length c0_3] 26 (0, 0)) (by exact B157.out) hb); have n1_ := Aside0.mk (below_step (by repeat (first | (with_reducible first | exact HB.out | apply below_alloc | apply pw_below_drewN | apply below_drew1 | refine below_set ?_ GE157.out) | exact HB.out)) hb); clear B157; clear HB; have B157 := n0_; have HB := n1_; clear n0_ n1_; (try clear hb); (try clear hb2); (try clear hk); (try clear hi)))
  go_ret
  exact ⟨_, by first | rfl | (simp [errW_none, errW_some] <;> rfl) | (simp [*, errW_none, errW_some] <;> rfl), by first | exact Kd.R_nil _ _ _ _ _ | exact Kd.N_nil _ _ _ _ _ | exact Kd.V_nil _ _ _ _ _ | exact Kd.Q_nil _ _ _ _ _ | exact Kd.S_nil _ _ _ _ _, by repeat (first | (with_reducible first | exact HB.out | apply below_alloc | apply pw_below_drewN | apply below_drew1 | refine below_set ?_ GE157.out) | exact HB.out)⟩

end Go.Proofs.YtpnpmeogffodgaaDoor.Q
end
section
namespace Go.Proofs.YtpnpmeogffodgaaDoor.Q
open Go.RowKit
set_option linter.unusedVariables false
set_option linter.unusedSimpArgs false
/-- What is shown of operations outside a round holds in a round, where none of them is a defer statement and nothing is let out. -/
theorem listIn_of_list {P : Program} {ops : Array Oper} {Q : Exit → Act → World → Prop} (l n : Nat) (hQ : ¬ LetsOut Q) : ∀ (rest : List Oper) (a : Act) (w : World), (∀ o ∈ rest, ∀ c, o.op ≠ .defer c) → wpList P ops Q rest a w → wpListIn (Fence.wide.inRound l) n P ops Q rest a w
  | [], a, w, _, h => h
  | o :: rest, a, w, hd, h => by
    have ih := fun (a : Act) (w : World) (h : wpList P ops Q rest a w) => listIn_of_list (P := P) (ops := ops) l n hQ rest a w (fun o ho => hd o (List.mem_cons_of_mem _ ho)) h
    unfold wpList at h
    unfold wpListIn
    split at h
    · rename_i hw
      rw [if_pos hw]
      rcases h with h | ⟨_, h⟩
      · refine ⟨fun f _ => trivial, ?_⟩
        rw [show (Fence.wide.inRound l).round = some l from rfl, Oper.semAt_some l _ _ (hd o (List.mem_cons_self ..))]
        unfold Oper.wp at h
        generalize (execOp a.eval o).run P w = res at h ⊢
        cases res with
        | ok nx w1 =>
          cases nx with
          | value v => exact ih _ _ h
          | skip => exact ih _ _ h
          | defer d => exact ih _ _ h
          | enter f args =>
            refine ⟨fun h => (by cases h), CallsIn.inRound l (callsIn_wide.2 (Calls.mono h ?_))⟩
            intro e w2 h2
            cases e with
            | returned v => exact ih _ _ h2
            | panicked c => exact h2
            | outgrown => exact h2
          | row r args =>
            refine ⟨fun h => (by cases h), fun c cs _ => ?_⟩
            obtain ⟨v, w2, hr, hs⟩ := h c cs
            exact ⟨v, w2, ih _ _ hr, by rw [fenced_inRound]; exact stepsIn_wide.2 hs⟩
          | _ => exact h.elim
        | halt hl w1 =>
          cases hl <;> first | exact h | exact h.elim
      · exact (hQ h).elim
    · rename_i hw
      rw [if_neg hw]
      exact ⟨fun f _ => trivial, ih _ _ h⟩
/-- An iterator that hands out, round by round, values whose rows are xs (each, when it is handed out, as Row says: its own memory is none that lay when the round before was over, where the heap had N objects); whatever the loop keeps between two rounds it keeps. -/
def IterRows {β : Type} (P : Program) (gf : Nat) (lb : Array Value) (Row : β → Value → Nat → World → Prop) (Kp : World → World → Prop) (xs : List β) (w : World) : Prop :=
  ∀ (l : Nat) (J : List β → Nat → World → Prop) (W : World), Below w.heap.size w W → (∀ s N A B, J s N A → Below A.heap.size A B → J s N B) →
    (∀ pre v x N W1, J pre N W1 → w.heap.size ≤ N → N ≤ W1.heap.size → pre ++ [x] <+: xs → Row x v N W1 → YieldAt Fence.wide 5 P l #[v] W1 fun e W' => e = .returned (.bool true) ∧ J (pre ++ [x]) W'.heap.size W' ∧ Kp W1 W') →
    J [] W.heap.size W → Calls P gf (#[.func (.yield l) #[] #[]] ++ lb) W fun e W' => (∃ v, e = .returned v) ∧ ∃ N, J xs N W'
theorem foldl_one (p : Tmp) (v : Value) (tm : Array Value) : ((#[p] : Array Tmp).zip #[v]).foldl (fun t (p, v) => t.setIfInBounds p v) tm = tm.setIfInBounds p v := by simp
theorem grown_of_below {W W' : World} (h : Below W.heap.size W W') : W.grownBy W' none := ⟨h.os, h.tape, h.output, h.size, fun k hk _ => h.block k hk⟩
theorem rangeFunc_rows {β : Type} {P : Program} {g : Operand} {p : Tmp} {assign body : Code} {Q : Exit → Act → World → Prop} {a : Act} {w : World} {gf : Nat} {lb : Array Value}
    (hg : a.eval g = .func (.func gf) #[] lb) (eg : ∀ args w, (callFunc gf args).run P w = .ok (.enter gf args) w)
    {Row : β → Value → Nat → World → Prop} {Kp : World → World → Prop} {xs : List β} (hseq : IterRows P gf lb Row Kp xs w)
    (hKt : ∀ {A B C : World}, Kp A B → Kp B C → Kp A C) (hKb : ∀ (W : World) (l : Nat) (o o' : Obj), w.heap.size ≤ l → W.heap[l]? = some o → o.isCells = false → Kp W (W.putObj l o'))
    (I : List β → Nat → World → Prop) (hI : ∀ N, OwnFrom w.heap.size (fun s W => I s N W)) (hR : ∀ x N, OwnFrom w.heap.size (fun v W => Row x v N W)) (h0 : ∀ N, w.heap.size ≤ N → I [] N w) (q : Tmp)
    (hassign : ∀ (l : Nat) (v : Value) (W : World) (K : Act → World → Prop), K { tmps := (a.tmps.setIfInBounds p v).setIfInBounds q v, defers := [] } W →
      assign.wpIn (Fence.wide.inRound l) 5 P (Exit.then K (fun _ _ _ => False)) { tmps := a.tmps.setIfInBounds p v, defers := [] } W)
    (hbody : ∀ (l : Nat) (pre : List β) (v : Value) (x : β) (N : Nat) (W : World), I pre N W → w.heap.size ≤ N → N ≤ W.heap.size → pre ++ [x] <+: xs → Row x v N W →
      body.wpIn (Fence.wide.inRound l) 5 P (fun e _ W' => e = .normal ∧ KeepsFrom w.heap.size W W' ∧ Kp W W' ∧ I (pre ++ [x]) W'.heap.size W') { tmps := (a.tmps.setIfInBounds p v).setIfInBounds q v, defers := [] } W)
    (hdone : ∀ (D N : Nat) (W : World), w.heap.size ≤ D → I xs N W → W.heap[D]? = some (.deferred (some [])) → Q .normal { a with defers := { target := .collected D, args := #[] } :: a.defers } W) :
    (Code.rangeFunc g #[p] assign body).wp P Q a w := by
  refine (wpIn_wide (n := 6)).1 (wpIn_rangeFunc ?_)
  intro fn hfn
  rw [show Fence.wide.round = none from rfl]
  obtain ⟨rec, hrec⟩ : ∃ rec : LoopState → Option Code → Loop, rec = fun st pe => { state := st, pending := pe, fn, tmps := a.tmps, params := #[p], assign, body, defers := w.heap.size } := ⟨_, rfl⟩
  obtain ⟨W1, hW1⟩ : ∃ W1, (w.alloc (.deferred (some []))).alloc (.loop (rec .ready none)) = W1 := ⟨_, rfl⟩
  have hL1 : W1.heap[w.heap.size + 1]? = some (.loop (rec .ready none)) := by
    rw [← hW1]; have := World.alloc_heap_new (w.alloc (.deferred (some []))) (.loop (rec .ready none)); rwa [World.size_alloc] at this
  have hK1 : W1.heap[w.heap.size]? = some (.deferred (some [])) := by
    rw [← hW1]; exact (Below.heap_alloc _ _ _ (by simp)).trans (World.alloc_heap_new w _)
  have hI1 : I [] W1.heap.size W1 := by
    rw [← hW1]
    exact (hI _).alloc _ ((hI _).alloc _ (h0 _ (by simp; omega)))
  have hb1 : Below w.heap.size w W1 := by
    rw [← hW1]; exact ((Below.refl _ w).alloc (Nat.le_refl _) _).alloc (by simp) _
  refine ⟨w.heap.size + 1, [{ target := .collected w.heap.size, args := #[] }], W1, { target := .fn (.func gf) lb, args := #[.func (.yield (w.heap.size + 1)) #[] #[]] }, W1, gf,
    #[.func (.yield (w.heap.size + 1)) #[] #[]] ++ lb, W1, ?_, ?_, ?_, ?_, (fun h => by cases h), ?_⟩
  · rw [← hW1, hrec]; exact run_enterLoop_outer _ _ _ _ _
  · simp only [resolve, hg]
    simp [go_sem]
  · intro f' hf'; trivial
  · simp [invoke, go_sem, eg]
  · refine callsIn_wide.2 ((hseq (w.heap.size + 1)
      (fun pre N W => I pre N W ∧ W.heap[w.heap.size + 1]? = some (.loop (rec .ready none)) ∧ W.heap[w.heap.size]? = some (.deferred (some [])))
      W1 hb1 (fun s N A B (hs : _ ∧ _ ∧ _) hb => ⟨hI N s A B none hs.1 (grown_of_below hb) (fun r e => by cases e), (hb.block _ (Array.getElem?_eq_some_iff.1 hs.2.1).1).trans hs.2.1, (hb.block _ (Array.getElem?_eq_some_iff.1 hs.2.2).1).trans hs.2.2⟩) ?_ ⟨hI1, hL1, hK1⟩).mono ?_)
    · rintro pre v x N W ⟨hi, hl, hk⟩ hNw hNW hpre hrow
      have hlt : w.heap.size + 1 < W.heap.size := (Array.getElem?_eq_some_iff.1 hl).1
      have hy := run_yield (P := P) (args := #[v]) hl (by rw [hrec]; rfl)
      rw [hrec] at hy
      refine ⟨fn, _, assign, body, hy, roundIn_of_wpIn trivial ?_⟩
      dsimp only
      rw [foldl_one]
      refine hassign _ v W _ ?_
      refine ⟨_, run_beginRound hl (by rw [hrec]), ?_⟩
      have hl2 : (W.putObj (w.heap.size + 1) (.loop { rec .ready none with state := .busy })).heap[w.heap.size + 1]? = some (.loop { rec .ready none with state := .busy }) := World.putObj_heap_same hlt
      have hk2 : (W.putObj (w.heap.size + 1) (.loop { rec .ready none with state := .busy })).heap[w.heap.size]? = some (.deferred (some [])) := (World.putObj_heap_other (by omega)).trans hk
      have hw2 : Kp W (W.putObj (w.heap.size + 1) (.loop { rec .ready none with state := .busy })) := hKb _ _ _ _ (by omega) hl rfl
      refine wpIn_mono (hbody _ pre v x N _ ((hI N).putObj _ hi (by omega) hl rfl) hNw (by simpa using hNW) hpre ((hR x N).putObj _ hrow (by omega) hl rfl)) ?_
      rintro e a3 W3 ⟨rfl, hk3, hkp3, hi3⟩
      have hl3 := hk3.same _ _ (by omega) hl2 rfl
      have hr := run_endRound (P := P) none hl3
      have hl4 : (W3.putObj (w.heap.size + 1) (.loop (rec .ready none))).heap[w.heap.size + 1]? = some (.loop (rec .ready none)) := World.putObj_heap_same (Array.getElem?_eq_some_iff.1 hl3).1
      have hk4 : (W3.putObj (w.heap.size + 1) (.loop (rec .ready none))).heap[w.heap.size]? = some (.deferred (some [])) := (World.putObj_heap_other (by omega)).trans (hk3.same _ _ (Nat.le_refl _) hk2 rfl)
      have e4 : W3.putObj (w.heap.size + 1) (.loop (rec .ready none)) = W3.putObj (w.heap.size + 1) (.loop { rec .ready none with state := if (none : Option Code).isNone then .ready else .done, pending := none }) := by rw [hrec]; rfl
      rw [e4] at hl4 hk4
      exact ⟨_, _, hr, rfl, ⟨by have e_ := (hI W3.heap.size).putObj (.loop { rec .ready none with state := if (none : Option Code).isNone then .ready else .done, pending := none }) hi3 (by omega) hl3 rfl; simpa using e_, hl4, hk4⟩, hKt (hKt hw2 hkp3) (hKb _ _ _ _ (by omega) hl3 rfl)⟩
    · rintro e W2 ⟨⟨v, rfl⟩, N, hi, hl, hk⟩
      exact ⟨none, _, by have := run_endLoop (P := P) hl (by rw [hrec]; simp); rw [hrec] at this; exact this, hdone _ N _ (Nat.le_refl _) ((hI N).putObj _ hi (by omega) hl rfl) ((World.putObj_heap_other (by omega)).trans hk)⟩
end Go.Proofs.YtpnpmeogffodgaaDoor.Q
end
