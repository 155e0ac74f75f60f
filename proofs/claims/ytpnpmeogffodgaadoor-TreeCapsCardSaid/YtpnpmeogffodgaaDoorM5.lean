/- Several texts in one, in build order. What they prove, each by its own first remark:
Written by our own copy of a printing program (a twelfth state) out of the translation. Not trusted: Lean checks it.
Of PTreeA what this claim needs.
Of PChecks what this claim needs.
Of PTreeB what this claim needs.
Of PCapsT what this claim needs.
For all arguments attestorlaw07.TreeCaps returns true and leaves them as they were, where the package-level variables hold what the program's text lays (the card ties that): no other condition. -/
import Derived.Test.YtpnpmeogffodgaaDoorM2
import Derived.Test.YtpnpmeogffodgaaDoorM3
import Derived.Test.YtpnpmeogffodgaaDoorM4
import Derived.Test.YtpnpmeogffodgaaDoorCards
import Derived.Test.YtpnpmeogffodgaaDoorTie
import Derived.SevenTiedAt
import Derived.SizedLaws
import Derived.ShutString
import Derived.ChangeOld
import Derived.ProofKit
import Derived.Below
import Derived.OpenShut
section
namespace Go.Proofs.YtpnpmeogffodgaaDoor.Q
open Go.RowKit Go.Proofs.YtpnpmeogffodgaaDoorW.PrintWords Go.Proofs.YtpnpmeogffodgaaDoorW.PrintLast Go.Proofs.YtpnpmeogffodgaaDoorW.PrintMore
attribute [local go_sem] max2_int min2_int max_two min_two max_three min_three max_four min_four run_store_fnV run_store_fnc run_store_nfn   -- for this text's walks alone
set_option linter.unusedVariables false
set_option linter.unusedSimpArgs false

/-! ### tree_Climb: function 24 -/
def tree_Climb.f (a0 : Int) (a1 : Int) (a2_0 : Int) (a2_1 : Int) (l3 : List (S36)) : Option (Int × Int) := (tree_opens.f a0 a1 a2_0 a2_1 l3).bind fun t227 => (if t227 = true then ((tree_climb.f a0 a1 a2_0 a2_1 l3).bind fun bt228 => (some (bt228.1, bt228.2))) else (some (0, 0)))
set_option maxHeartbeats 8000000 in
set_option maxRecDepth 100000 in
theorem tree_Climb.calls (a0 : Int) (a1 : Int) (a2_0 : Int) (a2_1 : Int) (A3 : Option Addr) (c3 : Nat) (l3 : List (S36)) (r1 : Int) (r2 : Int) (w : World) (hr3 : Kd.C k36 w A3 l3.length l3) (hc3 : l3.length ≤ c3) (hrG : GL w) (h : tree_Climb.f a0 a1 a2_0 a2_1 l3 = some (r1, r2)) :
  Calls Tryd.prog 24 #[.int .i64 a0, .int .i64 a1, .agg #[.int .u64 a2_0, .int .u64 a2_1], .slice A3 l3.length c3] w fun e w' => e = .returned (.agg #[.int .u64 r1, .int .u64 r2]) ∧ Below w.heap.size w w' := by
 have hu36 := Tryd.underlying36
 have HRG := Aside0.mk hrG
 clear hrG
 have HR3 := Aside0.mk hr3
 have HC3 := Aside0.mk hc3
 clear hr3 hc3
 have HB := Aside0.mk (Below.refl w.heap.size w)
 have H : ((tree_opens.f a0 a1 a2_0 a2_1 l3).bind fun t227 => (if t227 = true then ((tree_climb.f a0 a1 a2_0 a2_1 l3).bind fun bt228 => (some (bt228.1, bt228.2))) else (some (0, 0)))) = some (r1, r2) := h
 clear h
 replace H := Option.bind_eq_some_iff.mp H
 obtain ⟨t227, A50, H⟩ := H
 have A5 := Aside0.mk A50
 clear A50
 by_cases c6 : t227 = true
 ·subst c6
  have H1 : ((tree_climb.f a0 a1 a2_0 a2_1 l3).bind fun bt228 => (some (bt228.1, bt228.2))) = some (r1, r2) := by rw [if_pos rfl] at H; exact H
  clear H
  have H := H1
  clear H1
  replace H := Option.bind_eq_some_iff.mp H
  obtain ⟨⟨t228, t229⟩, A70, H⟩ := H
  replace H : (some (t228, t229)) = some (r1, r2) := H
  have A7 := Aside0.mk A70
  clear A70
  simp only [Option.some.injEq, Prod.mk.injEq] at H
  obtain ⟨rfl, rfl⟩ := H
  go_enter Tryd.func24, Tryd.ntmps24
  go_wp2_with (first | ((with_reducible refine gate_dst (N := 6) rfl ?_); refine box_event ?hg (N := 6) ?hd (cs := #[.int .u64 a2_0, .int .u64 a2_1]) (t := 36) ?hr ?_; (case hd => rfl); (case hg => rfl); (case hr => first | (go_simp; done) | (go_simp; rfl)); intro g225 hg w8 hbox hb; have n0_ := Aside0.mk (below_step (by repeat (first | (with_reducible first | exact HB.out | apply below_alloc | apply pw_below_drewN | apply below_drew1) | exact HB.out)) hb); have n1_ := Aside0.mk (hbox); have n2_ := Aside0.mk ((by rw [hg]; exact (below_size (by repeat (first | (with_reducible first | exact HB.out | apply below_alloc | apply pw_below_drewN | apply below_drew1) | exact HB.out))) : w.heap.size ≤ g225)); have n3_ := Aside0.mk ((by rw [hg]; exact (below_size (by repeat (first | (with_reducible first | exact HB.out | apply below_alloc | apply pw_below_drewN | apply below_drew1) | exact HB.out))) : w.heap.size ≤ g225)); clear HB; have HB := n0_; have B225 := n1_; have GW225 := n2_; have GE225 := n3_; clear n0_ n1_ n2_ n3_; clear hb hbox hg) | ((with_reducible refine gate_dst (N := 8) rfl ?_); refine box_event ?hg (N := 8) ?hd (cs := #[.int .u64 0, .int .u64 0]) (t := 36) ?hr ?_; (case hd => rfl); (case hg => rfl); (case hr => first | (go_simp; done) | (go_simp; rfl)); intro g226 hg w9 hbox hb; have n0_ := Aside0.mk (blk_below (g := g225) (o := .cells #[.int .u64 a2_0, .int .u64 a2_1] 36 (0, 0)) (by exact B225.out) hb); have n1_ := Aside0.mk (below_step (by repeat (first | (with_reducible first | exact HB.out | apply below_alloc | apply pw_below_drewN | apply below_drew1 | refine below_set ?_ GE225.out) | exact HB.out)) hb); have n2_ := Aside0.mk (hbox); have n3_ := Aside0.mk ((by rw [hg]; exact (below_size (by repeat (first | (with_reducible first | exact HB.out | apply below_alloc | apply pw_below_drewN | apply below_drew1 | refine below_set ?_ GE225.out) | exact HB.out))) : w.heap.size ≤ g226)); have n4_ := Aside0.mk ((by rw [hg]; exact (below_size (by repeat (first | (with_reducible first | exact HB.out | apply below_alloc | apply pw_below_drewN | apply below_drew1 | refine below_set ?_ GE225.out) | exact HB.out))) : w.heap.size ≤ g226)); have n5_ := Aside0.mk ((by rw [hg]; exact Nat.ne_of_lt (blk_lt (g := g225) (o := .cells #[.int .u64 a2_0, .int .u64 a2_1] 36 (0, 0)) (by exact B225.out)) : g225 ≠ g226)); have n6_ := Aside0.mk ((by rw [hg]; exact Nat.ne_of_gt (blk_lt (g := g225) (o := .cells #[.int .u64 a2_0, .int .u64 a2_1] 36 (0, 0)) (by exact B225.out)) : g226 ≠ g225)); clear B225; clear HB; have B225 := n0_; have HB := n1_; have B226 := n2_; have GW226 := n3_; have GE226 := n4_; have NB225_226 := n5_; have NB226_225 := n6_; clear n0_ n1_ n2_ n3_ n4_ n5_ n6_; clear hb hbox hg; have hnb10 := NB225_226.out; have hnc10 := NB226_225.out; have hcz11_0 : w9.cell? ⟨g225, 0, none⟩ = some (.int .u64 a2_0) := bq_ B225 0; have hcz11_1 : w9.cell? ⟨g225, 1, none⟩ = some (.int .u64 a2_1) := bq_ B225 1; have hfz11_0 := blk_frozen B225.out 0; have hfz11_1 := blk_frozen B225.out 1) | ((with_reducible refine gate_callee (f := 47) rfl ?_); refine goesL_ (some 13) rfl rfl Tryd.func47 (by kernel_rfl) rfl #[.int .i64 a0, .int .i64 a1, .agg #[.int .u64 a2_0, .int .u64 a2_1], .slice A3 l3.length c3] rfl (by (try simp only [List.map_toArray, List.map_cons, List.map_nil]); first | done | rfl | (go_simp; done)) ?_; (with_reducible refine (tree_opens.calls a0 a1 a2_0 a2_1 _ _ l3 true _ ?side1 ?side2 ?side3 A5.out).mono ?_); (case side1 => repeat (first | exact (Kd.C_below HR3.out HB.out) | (with_reducible refine Kd.C_alloc ?_ _) | (with_reducible refine Kd.C_drewN ?_ _) | (with_reducible refine Kd.C_drew ?_))); (case side2 => exact HC3.out); (case side3 => repeat (first | exact (GL.below HRG.out HB.out) | (with_reducible refine GL.alloc ?_ _) | (with_reducible refine GL.drewN ?_ _) | (with_reducible refine GL.drew ?_))); rintro e w12 ⟨rfl, hb⟩; refine ⟨_, rfl, ?_⟩; have n0_ := Aside0.mk (blk_below (g := g225) (o := .cells #[.int .u64 a2_0, .int .u64 a2_1] 36 (0, 0)) (by exact B225.out) hb); have n1_ := Aside0.mk (blk_below (g := g226) (o := .cells #[.int .u64 0, .int .u64 0] 36 (0, 0)) (by exact B226.out) hb); have n2_ := Aside0.mk (below_step (by repeat (first | (with_reducible first | exact HB.out | apply below_alloc | apply pw_below_drewN | apply below_drew1 | refine below_set ?_ GE225.out | refine below_set ?_ GE226.out) | exact HB.out)) hb); clear B225; clear B226; clear HB; have B225 := n0_; have B226 := n1_; have HB := n2_; clear n0_ n1_ n2_; (try clear hb); (try clear hb2); (try clear hk); (try clear hi); have hcz13_0 : w12.cell? ⟨g225, 0, none⟩ = some (.int .u64 a2_0) := bq_ B225 0; have hcz13_1 : w12.cell? ⟨g225, 1, none⟩ = some (.int .u64 a2_1) := bq_ B225 1; have hfz13_0 := blk_frozen B225.out 0; have hfz13_1 := blk_frozen B225.out 1) | ((with_reducible refine gate_callee (f := 48) rfl ?_); refine goesL_ (some 20) rfl rfl Tryd.func48 (by kernel_rfl) rfl #[.int .i64 a0, .int .i64 a1, .agg #[.int .u64 a2_0, .int .u64 a2_1], .slice A3 l3.length c3] rfl (by (try simp only [List.map_toArray, List.map_cons, List.map_nil]); first | done | rfl | (go_simp; done)) ?_; (with_reducible refine (tree_climb.calls a0 a1 a2_0 a2_1 _ _ l3 t228 t229 _ ?side1 ?side2 ?side3 A7.out).mono ?_); (case side1 => repeat (first | exact (Kd.C_below HR3.out HB.out) | (with_reducible refine Kd.C_alloc ?_ _) | (with_reducible refine Kd.C_drewN ?_ _) | (with_reducible refine Kd.C_drew ?_))); (case side2 => exact HC3.out); (case side3 => repeat (first | exact (GL.below HRG.out HB.out) | (with_reducible refine GL.alloc ?_ _) | (with_reducible refine GL.drewN ?_ _) | (with_reducible refine GL.drew ?_))); rintro e w14 ⟨rfl, hb⟩; refine ⟨_, rfl, ?_⟩; have n0_ := Aside0.mk (blk_below (g := g225) (o := .cells #[.int .u64 a2_0, .int .u64 a2_1] 36 (0, 0)) (by exact B225.out) hb); have n1_ := Aside0.mk (blk_below (g := g226) (o := .cells #[.int .u64 0, .int .u64 0] 36 (0, 0)) (by exact B226.out) hb); have n2_ := Aside0.mk (below_step (by repeat (first | (with_reducible first | exact HB.out | apply below_alloc | apply pw_below_drewN | apply below_drew1 | refine below_set ?_ GE225.out | refine below_set ?_ GE226.out) | exact HB.out)) hb); clear B225; clear B226; clear HB; have B225 := n0_; have B226 := n1_; have HB := n2_; clear n0_ n1_ n2_; (try clear hb); (try clear hb2); (try clear hk); (try clear hi); have hcz15_0 : w14.cell? ⟨g226, 0, none⟩ = some (.int .u64 0) := bq_ B226 0; have hcz15_1 : w14.cell? ⟨g226, 1, none⟩ = some (.int .u64 0) := bq_ B226 1; have hfz15_0 := blk_frozen B226.out 0; have hfz15_1 := blk_frozen B226.out 1))
  refine bodyPost_ret (results_cell_row rfl _ _ g226 36 #[.int .u64 t228, .int .u64 t229] (0, 0) _ rfl (by refine blk_put (cs := #[.int .u64 t228, .int .u64 0]) ?_ 1 _ rfl; refine blk_put (cs := #[.int .u64 0, .int .u64 0]) ?_ 0 _ rfl; exact B226.out) Tryd.underlying36 rfl (by kernel_rfl)) rfl ?_
  exact ⟨by first | rfl | (simp [errW_none, errW_some] <;> rfl) | (simp [*, errW_none, errW_some] <;> rfl), by repeat (first | (with_reducible first | exact HB.out | apply below_alloc | apply pw_below_drewN | apply below_drew1 | refine below_set ?_ GE225.out | refine below_set ?_ GE226.out) | exact HB.out)⟩
 ·replace c6 := Bool.eq_false_iff.mpr c6
  subst c6
  have H1 : (some (0, 0)) = some (r1, r2) := by rw [if_neg (show ¬ (false = true) by decide)] at H; exact H
  clear H
  have H := H1
  clear H1
  simp only [Option.some.injEq, Prod.mk.injEq] at H
  obtain ⟨rfl, rfl⟩ := H
  go_enter Tryd.func24, Tryd.ntmps24
  go_wp2_with (first | ((with_reducible refine gate_dst (N := 6) rfl ?_); refine box_event ?hg (N := 6) ?hd (cs := #[.int .u64 a2_0, .int .u64 a2_1]) (t := 36) ?hr ?_; (case hd => rfl); (case hg => rfl); (case hr => first | (go_simp; done) | (go_simp; rfl)); intro g225 hg w16 hbox hb; have n0_ := Aside0.mk (below_step (by repeat (first | (with_reducible first | exact HB.out | apply below_alloc | apply pw_below_drewN | apply below_drew1) | exact HB.out)) hb); have n1_ := Aside0.mk (hbox); have n2_ := Aside0.mk ((by rw [hg]; exact (below_size (by repeat (first | (with_reducible first | exact HB.out | apply below_alloc | apply pw_below_drewN | apply below_drew1) | exact HB.out))) : w.heap.size ≤ g225)); have n3_ := Aside0.mk ((by rw [hg]; exact (below_size (by repeat (first | (with_reducible first | exact HB.out | apply below_alloc | apply pw_below_drewN | apply below_drew1) | exact HB.out))) : w.heap.size ≤ g225)); clear HB; have HB := n0_; have B225 := n1_; have GW225 := n2_; have GE225 := n3_; clear n0_ n1_ n2_ n3_; clear hb hbox hg) | ((with_reducible refine gate_dst (N := 8) rfl ?_); refine box_event ?hg (N := 8) ?hd (cs := #[.int .u64 0, .int .u64 0]) (t := 36) ?hr ?_; (case hd => rfl); (case hg => rfl); (case hr => first | (go_simp; done) | (go_simp; rfl)); intro g226 hg w17 hbox hb; have n0_ := Aside0.mk (blk_below (g := g225) (o := .cells #[.int .u64 a2_0, .int .u64 a2_1] 36 (0, 0)) (by exact B225.out) hb); have n1_ := Aside0.mk (below_step (by repeat (first | (with_reducible first | exact HB.out | apply below_alloc | apply pw_below_drewN | apply below_drew1 | refine below_set ?_ GE225.out) | exact HB.out)) hb); have n2_ := Aside0.mk (hbox); have n3_ := Aside0.mk ((by rw [hg]; exact (below_size (by repeat (first | (with_reducible first | exact HB.out | apply below_alloc | apply pw_below_drewN | apply below_drew1 | refine below_set ?_ GE225.out) | exact HB.out))) : w.heap.size ≤ g226)); have n4_ := Aside0.mk ((by rw [hg]; exact (below_size (by repeat (first | (with_reducible first | exact HB.out | apply below_alloc | apply pw_below_drewN | apply below_drew1 | refine below_set ?_ GE225.out) | exact HB.out))) : w.heap.size ≤ g226)); have n5_ := Aside0.mk ((by rw [hg]; exact Nat.ne_of_lt (blk_lt (g := g225) (o := .cells #[.int .u64 a2_0, .int .u64 a2_1] 36 (0, 0)) (by exact B225.out)) : g225 ≠ g226)); have n6_ := Aside0.mk ((by rw [hg]; exact Nat.ne_of_gt (blk_lt (g := g225) (o := .cells #[.int .u64 a2_0, .int .u64 a2_1] 36 (0, 0)) (by exact B225.out)) : g226 ≠ g225)); clear B225; clear HB; have B225 := n0_; have HB := n1_; have B226 := n2_; have GW226 := n3_; have GE226 := n4_; have NB225_226 := n5_; have NB226_225 := n6_; clear n0_ n1_ n2_ n3_ n4_ n5_ n6_; clear hb hbox hg; have hnb18 := NB225_226.out; have hnc18 := NB226_225.out; have hcz19_0 : w17.cell? ⟨g225, 0, none⟩ = some (.int .u64 a2_0) := bq_ B225 0; have hcz19_1 : w17.cell? ⟨g225, 1, none⟩ = some (.int .u64 a2_1) := bq_ B225 1; have hfz19_0 := blk_frozen B225.out 0; have hfz19_1 := blk_frozen B225.out 1) | ((with_reducible refine gate_callee (f := 47) rfl ?_); refine goesL_ (some 13) rfl rfl Tryd.func47 (by kernel_rfl) rfl #[.int .i64 a0, .int .i64 a1, .agg #[.int .u64 a2_0, .int .u64 a2_1], .slice A3 l3.length c3] rfl (by (try simp only [List.map_toArray, List.map_cons, List.map_nil]); first | done | rfl | (go_simp; done)) ?_; (with_reducible refine (tree_opens.calls a0 a1 a2_0 a2_1 _ _ l3 false _ ?side1 ?side2 ?side3 A5.out).mono ?_); (case side1 => repeat (first | exact (Kd.C_below HR3.out HB.out) | (with_reducible refine Kd.C_alloc ?_ _) | (with_reducible refine Kd.C_drewN ?_ _) | (with_reducible refine Kd.C_drew ?_))); (case side2 => exact HC3.out); (case side3 => repeat (first | exact (GL.below HRG.out HB.out) | (with_reducible refine GL.alloc ?_ _) | (with_reducible refine GL.drewN ?_ _) | (with_reducible refine GL.drew ?_))); rintro e w20 ⟨rfl, hb⟩; refine ⟨_, rfl, ?_⟩; have n0_ := Aside0.mk (blk_below (g := g225) (o := .cells #[.int .u64 a2_0, .int .u64 a2_1] 36 (0, 0)) (by exact B225.out) hb); have n1_ := Aside0.mk (blk_below (g := g226) (o := .cells #[.int .u64 0, .int .u64 0] 36 (0, 0)) (by exact B226.out) hb); have n2_ := Aside0.mk (below_step (by repeat (first | (with_reducible first | exact HB.out | apply below_alloc | apply pw_below_drewN | apply below_drew1 | refine below_set ?_ GE225.out | refine below_set ?_ GE226.out) | exact HB.out)) hb); clear B225; clear B226; clear HB; have B225 := n0_; have B226 := n1_; have HB := n2_; clear n0_ n1_ n2_; (try clear hb); (try clear hb2); (try clear hk); (try clear hi); have hcz21_0 : w20.cell? ⟨g226, 0, none⟩ = some (.int .u64 0) := bq_ B226 0; have hcz21_1 : w20.cell? ⟨g226, 1, none⟩ = some (.int .u64 0) := bq_ B226 1; have hfz21_0 := blk_frozen B226.out 0; have hfz21_1 := blk_frozen B226.out 1))
  refine bodyPost_ret (results_cell_row rfl _ _ g226 36 #[.int .u64 0, .int .u64 0] (0, 0) _ rfl (by refine blk_put (cs := #[.int .u64 0, .int .u64 0]) ?_ 1 _ rfl; refine blk_put (cs := #[.int .u64 0, .int .u64 0]) ?_ 0 _ rfl; exact B226.out) Tryd.underlying36 rfl (by kernel_rfl)) rfl ?_
  exact ⟨by first | rfl | (simp [errW_none, errW_some] <;> rfl) | (simp [*, errW_none, errW_some] <;> rfl), by repeat (first | (with_reducible first | exact HB.out | apply below_alloc | apply pw_below_drewN | apply below_drew1 | refine below_set ?_ GE225.out | refine below_set ?_ GE226.out) | exact HB.out)⟩

/-! ### attestorref01_Valid: function 42 -/
def attestorref01_Valid.f (a0 : Int) : Option (Bool) := if a0 ≥ 0 then (some (decide (a0 ≤ 3))) else (some false)
set_option maxHeartbeats 8000000 in
set_option maxRecDepth 100000 in
theorem attestorref01_Valid.calls (a0 : Int) (r : Bool) (w : World) (h : attestorref01_Valid.f a0 = some r) :
  Calls Tryd.prog 42 #[.int .i64 a0] w fun e w' => e = .returned (.bool r) ∧ Drawn0 w w' := by
 have H : (if a0 ≥ 0 then (some (decide (a0 ≤ 3))) else (some false)) = some r := h
 clear h
 by_cases c2 : a0 ≥ 0
 ·rw [if_pos c2] at H
  have c2b0 : decide (0 ≤ a0) = true := decide_eq_true c2
  clear c2
  obtain rfl := Option.some.inj H
  go_enter Tryd.func42, Tryd.ntmps42
  go_wp2
  go_ret
  exact ⟨by first | rfl | (simp; done) | (simp [*]; done), by repeat (first | exact Drawn0.refl _ | apply Drawn0.step)⟩
 ·rw [if_neg c2] at H
  have c2b0 : decide (0 ≤ a0) = false := decide_eq_false c2
  clear c2
  obtain rfl := Option.some.inj H
  go_enter Tryd.func42, Tryd.ntmps42
  go_wp2
  go_ret
  exact ⟨by first | rfl | (simp; done) | (simp [*]; done), by repeat (first | exact Drawn0.refl _ | apply Drawn0.step)⟩

/-! ### attestorref01_P: function 34 -/
def attestorref01_P.f (a0 : Int) : Option (Int) := if a0 = 0 then (some 97) else (if a0 = 1 then (some 257) else (if a0 = 2 then (some 12289) else (if a0 = 3 then (some 998244353) else (some 0))))
set_option maxHeartbeats 8000000 in
set_option maxRecDepth 100000 in
theorem attestorref01_P.calls (a0 : Int) (r : Int) (w : World) (h : attestorref01_P.f a0 = some r) :
  Calls Tryd.prog 34 #[.int .i64 a0] w fun e w' => e = .returned (.int .u64 r) ∧ Drawn0 w w' := by
 have H : (if a0 = 0 then (some 97) else (if a0 = 1 then (some 257) else (if a0 = 2 then (some 12289) else (if a0 = 3 then (some 998244353) else (some 0))))) = some r := h
 clear h
 by_cases c2 : a0 = 0
 ·rw [if_pos c2] at H
  have c2b0 : (a0 == 0) = true := beq_iff_eq.mpr c2
  have c2b1 : (a0 != 0) = false := bne_eq_false_iff_eq.mpr c2
  clear c2
  obtain rfl := Option.some.inj H
  go_enter Tryd.func34, Tryd.ntmps34
  go_wp2
  go_ret
  exact ⟨by first | rfl | (simp; done) | (simp [*]; done), by repeat (first | exact Drawn0.refl _ | apply Drawn0.step)⟩
 ·rw [if_neg c2] at H
  have c2b0 : (a0 == 0) = false := beq_eq_false_iff_ne.mpr c2
  have c2b1 : (a0 != 0) = true := bne_iff_ne.mpr c2
  by_cases c3 : a0 = 1
  ·rw [if_pos c3] at H
   have c3b0 : (a0 == 1) = true := beq_iff_eq.mpr c3
   have c3b1 : (a0 != 1) = false := bne_eq_false_iff_eq.mpr c3
   clear c3
   obtain rfl := Option.some.inj H
   go_enter Tryd.func34, Tryd.ntmps34
   go_wp2
   go_ret
   exact ⟨by first | rfl | (simp; done) | (simp [*]; done), by repeat (first | exact Drawn0.refl _ | apply Drawn0.step)⟩
  ·rw [if_neg c3] at H
   have c3b0 : (a0 == 1) = false := beq_eq_false_iff_ne.mpr c3
   have c3b1 : (a0 != 1) = true := bne_iff_ne.mpr c3
   by_cases c4 : a0 = 2
   ·rw [if_pos c4] at H
    have c4b0 : (a0 == 2) = true := beq_iff_eq.mpr c4
    have c4b1 : (a0 != 2) = false := bne_eq_false_iff_eq.mpr c4
    clear c4
    obtain rfl := Option.some.inj H
    go_enter Tryd.func34, Tryd.ntmps34
    go_wp2
    go_ret
    exact ⟨by first | rfl | (simp; done) | (simp [*]; done), by repeat (first | exact Drawn0.refl _ | apply Drawn0.step)⟩
   ·rw [if_neg c4] at H
    have c4b0 : (a0 == 2) = false := beq_eq_false_iff_ne.mpr c4
    have c4b1 : (a0 != 2) = true := bne_iff_ne.mpr c4
    by_cases c5 : a0 = 3
    ·rw [if_pos c5] at H
     have c5b0 : (a0 == 3) = true := beq_iff_eq.mpr c5
     have c5b1 : (a0 != 3) = false := bne_eq_false_iff_eq.mpr c5
     clear c5
     obtain rfl := Option.some.inj H
     go_enter Tryd.func34, Tryd.ntmps34
     go_wp2
     go_ret
     exact ⟨by first | rfl | (simp; done) | (simp [*]; done), by repeat (first | exact Drawn0.refl _ | apply Drawn0.step)⟩
    ·rw [if_neg c5] at H
     have c5b0 : (a0 == 3) = false := beq_eq_false_iff_ne.mpr c5
     have c5b1 : (a0 != 3) = true := bne_iff_ne.mpr c5
     obtain rfl := Option.some.inj H
     go_enter Tryd.func34, Tryd.ntmps34
     go_wp2
     go_ret
     exact ⟨by first | rfl | (simp; done) | (simp [*]; done), by repeat (first | exact Drawn0.refl _ | apply Drawn0.step)⟩

end Go.Proofs.YtpnpmeogffodgaaDoor.Q
end
section
namespace Go.Proofs.YtpnpmeogffodgaaDoor.Q
open Go.RowKit Go.Proofs.YtpnpmeogffodgaaDoorW.PrintWords Go.Proofs.YtpnpmeogffodgaaDoorW.PrintLast Go.Proofs.YtpnpmeogffodgaaDoorW.PrintMore
open Go.Proofs.YtpnpmeogffodgaaDoor.Num
set_option linter.unusedVariables false
set_option linter.unusedSimpArgs false
def okD (p : Int) (d : S36) : Bool := decide (d.f0 < p) && decide (d.f1 < p)
theorem bad_ok (p : Int) (d : S36) : badD p d = !(okD p d) := by
  unfold badD okD
  by_cases h0 : d.f0 < p
  · by_cases h1 : d.f1 < p
    · simp [h0, h1, Int.not_le.mpr h0, Int.not_le.mpr h1]
    · simp [h0, h1, Int.not_le.mpr h0, Int.not_lt.mp h1]
  · simp [h0, Int.not_lt.mp h0]
theorem proper_f (f : Int) (l : List S36) : tree_proper.f f l = some (l.all (okD (fp f))) := by
  have h : ∀ l : List S36, (!(l.any (badD (fp f)))) = l.all (okD (fp f)) := by
    intro l
    induction l with
    | nil => rfl
    | cons d l ih => rw [List.any_cons, List.all_cons, Bool.not_or, ih, bad_ok, Bool.not_not]
  unfold tree_proper.f
  rw [show field_P.f f = some (fp f) from rfl, Option.bind_some, h]
theorem P_f (f : Int) : attestorref01_P.f f = some (fp f) := by
  unfold attestorref01_P.f fp
  repeat' split
  all_goals rfl
theorem lgI_neg (n : Int) (h : n < 1) : lgI n = -1 := lgI_none n fun k hk e => by have := Nat.pow_pos (n := k) (show 0 < 2 by decide); omega
theorem height_f (n : Int) : tree_height.f n = some (lgI n) := by
  unfold tree_height.f
  by_cases h : n < 1
  · rw [if_pos h, lgI_neg n h]
  · rw [if_neg h]
def nnD (d : S36) : Prop := 0 ≤ d.f0 ∧ 0 ≤ d.f1
theorem cut_f (l : List S36) (n : Nat) (h : n ≤ 1000) : attestorlaw07_cut.f l (n : Int) = some (l.take n) := by
  have e : mn (l.length : Int) (n : Int) = ((min l.length n : Nat) : Int) := by unfold mn; split <;> omega
  unfold attestorlaw07_cut.f
  rw [e, if_pos (by omega), if_pos (by omega), Option.bind_some, Int.toNat_natCast, if_pos (by simp; omega), List.nil_append]
  congr 1
  rcases Nat.le_total l.length n with h1 | h1
  · rw [Nat.min_eq_left h1, List.take_of_length_le (Nat.le_refl _), List.take_of_length_le h1]
  · rw [Nat.min_eq_right h1]
set_option maxRecDepth 100000 in
theorem lives_true (k : Nat) (hk : 80 ≤ k) : attestorlaw07_lives.f k = some true :=
  at_rounds (g := fun k => attestorlaw07_lives.f k) attestorlaw07_lives.mono hk (by decide +kernel)
end Go.Proofs.YtpnpmeogffodgaaDoor.Q
end
section
namespace Go.Proofs.YtpnpmeogffodgaaDoor.Q
open Go.RowKit Go.Proofs.YtpnpmeogffodgaaDoorW.PrintWords Go.Proofs.YtpnpmeogffodgaaDoorW.PrintLast Go.Proofs.YtpnpmeogffodgaaDoorW.PrintMore
open Go.Proofs.YtpnpmeogffodgaaDoor.Num
set_option linter.unusedVariables false
set_option linter.unusedSimpArgs false
theorem valid_f (f : Int) : field_Valid.f f = some (decide (0 ≤ f ∧ f < 4)) := by
  by_cases h : 0 ≤ f ∧ f < 4
  · obtain ⟨p, g, e, D⟩ := fd_of h.1 h.2
    rw [valid_yes D.F, decide_eq_true h]
  · rw [valid_no h, decide_eq_false h]
def OpD (f i a b : Int) (l : List S36) : Prop := (0 ≤ f ∧ f < 4) ∧ 0 ≤ i ∧ l.length ≤ 18 ∧ okD (fp f) ⟨a, b⟩ = true ∧ l.all (okD (fp f)) = true
instance (f i a b : Int) (l : List S36) : Decidable (OpD f i a b l) := by unfold OpD; infer_instance
theorem shl_pow : ∀ j : Fin 40, shl .i64 1 ((j : Nat) : Int) = ((2 ^ (j : Nat) : Nat) : Int) := by decide +kernel
theorem shl_of (d : Nat) (h : d < 40) : shl .i64 1 (d : Int) = ((2 ^ d : Nat) : Int) := shl_pow ⟨d, h⟩
theorem shr_of (i : Int) (d : Nat) (h : d < 40) : shr .i64 i (d : Int) = i / ((2 ^ d : Nat) : Int) := by
  show i / 2 ^ min ((d : Int).toNat) 64 = _
  rw [Int.toNat_natCast, Nat.min_eq_left (by omega)]
  simp
end Go.Proofs.YtpnpmeogffodgaaDoor.Q
end
section
namespace Go.Proofs.YtpnpmeogffodgaaDoor.Q
open Go.RowKit Go.Proofs.YtpnpmeogffodgaaDoorW.PrintWords Go.Proofs.YtpnpmeogffodgaaDoorW.PrintLast Go.Proofs.YtpnpmeogffodgaaDoorW.PrintMore
attribute [local go_sem] max2_int min2_int max_two min_two max_three min_three max_four min_four run_store_fnV run_store_fnc run_store_nfn   -- for this text's walks alone
set_option linter.unusedVariables false
set_option linter.unusedSimpArgs false

abbrev z22_0_ : Array Bool := #[false, false, false, false, false, false, false, false, false, false, false]
abbrev z22_1_ : Array Bool := #[true, false, false, false, false, false, false, false, false, false, false]
abbrev z22_2_ : Array Bool := #[true, true, false, false, false, false, false, false, false, false, false]
abbrev z22_3_ : Array Bool := #[true, true, true, false, false, false, false, false, false, false, false]
abbrev z22_4_ : Array Bool := #[true, true, true, false, true, false, false, false, false, false, false]
abbrev z22_5_ : Array Bool := #[true, true, true, false, true, true, false, false, false, false, false]
abbrev z22_6_ : Array Bool := #[true, true, true, false, true, true, true, false, false, false, false]
abbrev z22_7_ : Array Bool := #[true, true, true, true, true, true, true, false, false, false, false]
abbrev z22_8_ : Array Bool := #[true, true, true, true, true, true, true, true, false, false, false]
abbrev z22_9_ : Array Bool := #[true, true, true, true, true, true, true, true, true, false, false]
abbrev z22_10_ : Array Bool := #[true, true, true, true, true, true, true, true, true, true, false]
abbrev z22_11_ : Array Bool := #[true, true, true, true, true, true, true, true, true, true, true]
abbrev z22_12_ : Array Bool := #[false, false, false, false, false, false, false, false, false, false, false, false, false, false, false]
abbrev z22_13_ : Array Bool := #[true, false, false, false, false, false, false, false, false, false, false, false, false, false, false]
abbrev z22_14_ : Array Bool := #[true, true, false, false, false, false, false, false, false, false, false, false, false, false, false]
abbrev z22_15_ : Array Bool := #[true, true, false, true, false, false, false, false, false, false, false, false, false, false, false]
abbrev z22_16_ : Array Bool := #[true, true, false, true, false, false, true, false, false, false, false, false, false, false, false]
abbrev z22_17_ : Array Bool := #[true, true, false, true, false, false, true, false, true, false, false, false, false, false, false]
abbrev z22_18_ : Array Bool := #[true, true, true, true, false, false, true, false, true, false, false, false, false, false, false]
abbrev z22_19_ : Array Bool := #[true, true, true, true, false, false, true, true, true, false, false, false, false, false, false]
abbrev z22_20_ : Array Bool := #[true, true, true, true, true, false, true, true, true, false, false, false, false, false, false]
abbrev z22_21_ : Array Bool := #[true, true, true, true, true, true, true, true, true, false, false, false, false, false, false]
abbrev z22_22_ : Array Bool := #[true, true, true, true, true, true, true, true, true, true, false, false, false, false, false]
abbrev z22_23_ : Array Bool := #[true, true, true, true, true, true, true, true, true, true, true, false, false, false, false]
abbrev z22_24_ : Array Bool := #[true, true, true, true, true, true, true, true, true, true, true, true, false, false, false]
abbrev z22_25_ : Array Bool := #[true, true, true, true, true, true, true, true, true, true, true, true, true, false, false]
abbrev z22_26_ : Array Bool := #[true, true, true, true, true, true, true, true, true, true, true, true, true, true, false]
abbrev z22_27_ : Array Bool := #[true, true, true, true, true, true, true, true, true, true, true, true, true, true, true]
/-! ### attestorlaw07_leaves: function 22 -/
def attestorlaw07_leaves.l0 : Nat → Int → Int → List Int → List (S36) → Int → Option ((List (S36)))
  | 0, _, _, _, _, _ => none
  | k + 1, x0, x1, x2, x7, x8 => if 0 ≤ x1 then (if x8 < (shl .i64 1 x1) then (if x8 < (x2.length : Int) then (if 0 ≤ x8 then ((attestorref01_P.f x0).bind fun t628 => (if t628 = 0 then (none) else ((attestorref01_P.f x0).bind fun t629 => (if t629 = 0 then (none) else (if x7.length < 8796093022208 then (attestorlaw07_leaves.l0 k x0 x1 x2 (x7 ++ [(⟨Int.tmod (rd x2 x8) t628, Int.tmod (IntKind.u64.wrap (Int.tdiv (rd x2 x8) 3)) t629⟩ : S36)]) (wrap64 (x8 + 1))) else (none)))))) else (none)) else ((attestorref01_P.f x0).bind fun t633 => (if t633 = 0 then (none) else ((attestorref01_P.f x0).bind fun t634 => (if t634 = 0 then (none) else (if x7.length < 8796093022208 then (attestorlaw07_leaves.l0 k x0 x1 x2 (x7 ++ [(⟨Int.tmod (IntKind.u64.wrap (x8)) t633, Int.tmod (IntKind.u64.wrap (wrap64 ((wrap64 (2 * x8)) + 1))) t634⟩ : S36)]) (wrap64 (x8 + 1))) else (none))))))) else (some x7)) else (none)
def attestorlaw07_leaves.f (k : Nat) (a0 : Int) (a1 : Int) (l2 : List Int) : Option ((List (S36))) := attestorlaw07_leaves.l0 k a0 a1 l2 ([] : List (S36)) 0
theorem attestorlaw07_leaves.mono_l : ∀ k, (∀ y0 y1 y2 y3 y4, LeO (attestorlaw07_leaves.l0 k y0 y1 y2 y3 y4) (attestorlaw07_leaves.l0 (k + 1) y0 y1 y2 y3 y4))
  | 0 => fun _ _ _ _ _ r h => by simp [attestorlaw07_leaves.l0] at h
  | k + 1 => by
    have ih0 := attestorlaw07_leaves.mono_l k
    · intro y0 y1 y2 y3 y4
      unfold attestorlaw07_leaves.l0
      repeat' first
      | (with_reducible exact ih0 _ _ _ _ _)
      | (with_reducible exact LeO.refl _)
      | (with_reducible exact LeO.none _)
      | (with_reducible refine LeO.ite ?_ ?_)
      | (with_reducible refine LeO.bind ?_ (fun _ => ?_))
      | exact ih0 _ _ _ _ _
      | exact LeO.none _
      | refine LeO.ite ?_ ?_
      | refine LeO.bind ?_ (fun _ => ?_)
theorem attestorlaw07_leaves.mono : ∀ a0 a1 a2 k, LeO (attestorlaw07_leaves.f k a0 a1 a2) (attestorlaw07_leaves.f (k + 1) a0 a1 a2) := by
  intro a0 a1 a2 k
  have ih0 := attestorlaw07_leaves.mono_l k
  unfold attestorlaw07_leaves.f
  repeat' first
      | (with_reducible exact ih0 _ _ _ _ _)
      | (with_reducible exact LeO.refl _)
      | (with_reducible exact LeO.none _)
      | (with_reducible refine LeO.ite ?_ ?_)
      | (with_reducible refine LeO.bind ?_ (fun _ => ?_))
      | exact ih0 _ _ _ _ _
      | exact LeO.none _
      | refine LeO.ite ?_ ?_
      | refine LeO.bind ?_ (fun _ => ?_)
def attestorlaw07_leaves.T7 : Bool × List (List Nat × List Nat) := (true, [([], []), ([], []), ([0, 1], [0, 1]), ([2], [2]), ([], []), ([], []), ([4, 5], [4, 5]), ([6], [6]), ([7], [7]), ([3, 8], [3, 8]), ([9, 0, 1, 2, 3, 4, 5, 6, 7, 8, 9], [9])])
def attestorlaw07_leaves.B7 : List Nat := [0, 0, 3, 7, 0, 0, 48, 112, 240, 511, 1023]
theorem attestorlaw07_leaves.tab7 : rtab .any (opsOf Tryd.f22 7) = attestorlaw07_leaves.T7 := by kernel_rfl
theorem attestorlaw07_leaves.bits7 : waitsOk attestorlaw07_leaves.T7.2 attestorlaw07_leaves.B7 = true := by kernel_rfl
def attestorlaw07_leaves.T8 : Bool × List (List Nat × List Nat) := (true, [([], []), ([], []), ([1], [1]), ([], []), ([3], [3]), ([2, 4], [2, 4]), ([], []), ([6], [6]), ([], []), ([8, 4], [8]), ([7, 9], [7, 9]), ([5, 10], [5, 10]), ([11], [11]), ([0, 12, 9], [0, 12]), ([13, 13, 0, 1, 2, 3, 4, 5, 6, 7, 8, 9, 10, 11, 12, 13], [0, 13])])
def attestorlaw07_leaves.B8 : List Nat := [0, 0, 2, 0, 8, 30, 0, 64, 0, 280, 984, 2046, 4094, 8191, 16383]
theorem attestorlaw07_leaves.tab8 : rtab .any (opsOf Tryd.f22 8) = attestorlaw07_leaves.T8 := by kernel_rfl
theorem attestorlaw07_leaves.bits8 : waitsOk attestorlaw07_leaves.T8.2 attestorlaw07_leaves.B8 = true := by kernel_rfl
set_option maxHeartbeats 8000000 in
set_option maxRecDepth 100000 in
theorem attestorlaw07_leaves.calls (k : Nat) (a0 : Int) (a1 : Int) (A2 : Option Addr) (c2 : Nat) (l2 : List Int) (r : List (S36)) (w : World) (hr2 : Kd.C (Kd.int .u64) w A2 l2.length l2) (hc2 : l2.length ≤ c2) (h : attestorlaw07_leaves.f k a0 a1 l2 = some r) :
  Calls Tryd.prog 22 #[.int .i64 a0, .int .i64 a1, .slice A2 l2.length c2] w fun e w' => ∃ v0_ : Value, e = .returned (v0_) ∧ Kd.R k36 36 w' w.heap.size (fun _ => True) v0_ r ∧ Below w.heap.size w w' := by
 have hu36 := Tryd.underlying36
 have HR2 := Aside0.mk hr2
 have HC2 := Aside0.mk hc2
 clear hr2 hc2
 have HB := Aside0.mk (Below.refl w.heap.size w)
 have H : (attestorlaw07_leaves.l0 k a0 a1 l2 ([] : List (S36)) 0) = some r := h
 clear h
 have H' := Aside0.mk H
 clear H
 go_enter Tryd.func22, Tryd.ntmps22
 go_wp2
 go_loopg [7, 8] k (fun kq v7 v8 w' => ∃ (x7_1 : List (S36)) (x8_1 : Int), v8 = .int .i64 x8_1 ∧ Aside0 (attestorlaw07_leaves.l0 kq a0 a1 l2 x7_1 x8_1 = some r) ∧ Aside0 (kq ≤ k) ∧ Aside0 (Kd.R k36 36 w' w.heap.size (fun _ => True) v7 x7_1) ∧ Aside0 (Below w.heap.size w w'))
 case atStart => exact ⟨(([] : List (S36))), (0), (by first | rfl | (simp; done) | (simp [*]; done) | (simp; rfl) | (simp; decide +kernel)), H', ⟨Nat.le_refl _⟩, ⟨by first | exact Kd.R_nil _ _ _ _ _ | exact Kd.N_nil _ _ _ _ _ | exact Kd.V_nil _ _ _ _ _ | exact Kd.Q_nil _ _ _ _ _ | exact Kd.S_nil _ _ _ _ _⟩, ⟨by repeat (first | (with_reducible first | exact HB.out | apply below_alloc | apply pw_below_drewN | apply below_drew1) | exact HB.out)⟩⟩
 case round =>
  clear H'
  try clear c2
  try clear p2
  obtain ⟨x7_1, x8_1, rfl, HA, HK1, HO_7, HB⟩ := hrel
  cases gk with
  | zero => exact absurd HA.out (by simp [attestorlaw07_leaves.l0])
  | succ k1 =>
   have H := HA.out
   clear HA
   simp only [attestorlaw07_leaves.l0] at H
   by_cases c4 : 0 ≤ a1
   ·rw [if_pos c4] at H
    have c4b0 := eq_true c4
    have c4b1 : decide (0 ≤ a1) = true := decide_eq_true c4
    clear c4
    obtain ⟨ji5, hji5⟩ : ∃ j_ : Int, (shl .i64 1 a1) = j_ := ⟨_, rfl⟩
    replace H : (if x8_1 < (ji5) then (if x8_1 < (l2.length : Int) then (if 0 ≤ x8_1 then ((attestorref01_P.f a0).bind fun t628 => (if t628 = 0 then (none) else ((attestorref01_P.f a0).bind fun t629 => (if t629 = 0 then (none) else (if x7_1.length < 8796093022208 then (attestorlaw07_leaves.l0 k1 a0 a1 l2 (x7_1 ++ [(⟨Int.tmod (rd l2 x8_1) t628, Int.tmod (IntKind.u64.wrap (Int.tdiv (rd l2 x8_1) 3)) t629⟩ : S36)]) (wrap64 (x8_1 + 1))) else (none)))))) else (none)) else ((attestorref01_P.f a0).bind fun t633 => (if t633 = 0 then (none) else ((attestorref01_P.f a0).bind fun t634 => (if t634 = 0 then (none) else (if x7_1.length < 8796093022208 then (attestorlaw07_leaves.l0 k1 a0 a1 l2 (x7_1 ++ [(⟨Int.tmod (IntKind.u64.wrap (x8_1)) t633, Int.tmod (IntKind.u64.wrap (wrap64 ((wrap64 (2 * x8_1)) + 1))) t634⟩ : S36)]) (wrap64 (x8_1 + 1))) else (none))))))) else (some x7_1)) = some r := by first | (rw [hji5] at H; exact H) | (simp only [hji5] at H ⊢; exact H)
    have hji5_ : (IntKind.i64.wrap (1 * 2 ^ min a1.toNat 64)) = ji5 := hji5
    have hji5z : a1 ≤ 64 → (IntKind.i64.wrap (1 * 2 ^ a1.toNat)) = ji5 := shl_small hji5
    have hji5u : (IntKind.i64.wrap (2 ^ min a1.toNat 64)) = ji5 := by have h_ := hji5_; rw [Int.one_mul] at h_; exact h_
    have hji5v : a1 ≤ 64 → (IntKind.i64.wrap (2 ^ a1.toNat)) = ji5 := fun hle_ => by have h_ := hji5z hle_; rw [Int.one_mul] at h_; exact h_
    have hji5y : (wrap64 (1 * 2 ^ min a1.toNat 64)) = ji5 := (i64_w _).symm.trans hji5_
    have hji5x : a1 ≤ 64 → (wrap64 (1 * 2 ^ a1.toNat)) = ji5 := fun h_ => (i64_w _).symm.trans (hji5z h_)
    by_cases c6 : x8_1 < (ji5)
    ·rw [if_pos c6] at H
     have c6b0 : decide (x8_1 < (ji5)) = true := decide_eq_true c6
     clear c6
     by_cases c7 : x8_1 < (l2.length : Int)
     ·rw [if_pos c7] at H
      have c7b0 : decide (x8_1 < (l2.length : Int)) = true := decide_eq_true c7
      clear c7
      by_cases c8 : 0 ≤ x8_1
      ·rw [if_pos c8] at H
       have c8b0 : decide (0 ≤ x8_1) = true := decide_eq_true c8
       clear c8
       replace H := Option.bind_eq_some_iff.mp H
       obtain ⟨t628, A90, H⟩ := H
       have A9 := Aside0.mk A90
       clear A90
       by_cases c10 : t628 = 0
       ·rw [if_pos c10] at H
        exact absurd H (by simp)
       ·rw [if_neg c10] at H
        have c10b0 : (t628 == 0) = false := beq_eq_false_iff_ne.mpr c10
        have c10b1 : (t628 != 0) = true := bne_iff_ne.mpr c10
        replace H := Option.bind_eq_some_iff.mp H
        obtain ⟨t629, A110, H⟩ := H
        have A11 := Aside0.mk A110
        clear A110
        by_cases c12 : t629 = 0
        ·rw [if_pos c12] at H
         exact absurd H (by simp)
        ·rw [if_neg c12] at H
         have c12b0 : (t629 == 0) = false := beq_eq_false_iff_ne.mpr c12
         have c12b1 : (t629 != 0) = true := bne_iff_ne.mpr c12
         by_cases c13 : x7_1.length < 8796093022208
         ·rw [if_pos c13] at H
          have LMc13 := Aside0.mk c13
          clear c13
          obtain ⟨y630, hy630⟩ : ∃ y_ : List (S36), y_ = (x7_1 ++ [(⟨Int.tmod (rd l2 x8_1) t628, Int.tmod (IntKind.u64.wrap (Int.tdiv (rd l2 x8_1) 3)) t629⟩ : S36)]) := ⟨_, rfl⟩
          replace H : (attestorlaw07_leaves.l0 k1 a0 a1 l2 y630 (wrap64 (x8_1 + 1))) = some r := by first | (rw [hy630]; with_reducible exact H) | (have H2_ := (Option.bind_some _ _).symm.trans H; rw [hy630]; with_reducible exact H2_) | (have H2_ := (Option.bind_some _ _).symm.trans H; with_reducible exact H2_) | with_reducible exact H | (rw [hy630]; exact H) | exact H
          have Ny630 := Aside0.mk hy630
          clear hy630
          have H' := Aside0.mk H
          clear H
          try go_wp2_with (first | ((with_reducible refine gate_dst (N := 9) rfl ?_); refine box_event ?hg (N := 9) ?hd (cs := #[.int .u64 0, .int .u64 0]) (t := 36) ?hr ?_; (case hd => rfl); (case hg => rfl); (case hr => first | (go_simp; done) | (go_simp; rfl)); intro g625 hg w14 hbox hb; have n0_ := Aside0.mk (Kd.R_below (Kd.R_elderB (by (with_reducible repeat (first | apply Kd.R_alloc | apply Kd.R_drewN | apply Kd.R_drew)); exact HO_7.out) g625 (Nat.le_of_eq hg.symm)) hb); have n1_ := Aside0.mk (below_step (by repeat (first | (with_reducible first | exact HB.out | apply below_alloc | apply pw_below_drewN | apply below_drew1) | exact HB.out)) hb); have n2_ := Aside0.mk (hbox); have n3_ := Aside0.mk ((by rw [hg]; exact (below_size (by repeat (first | (with_reducible first | exact HB.out | apply below_alloc | apply pw_below_drewN | apply below_drew1) | exact HB.out))) : w.heap.size ≤ g625)); have n4_ := Aside0.mk ((by rw [hg]; exact (below_size (by repeat (first | (with_reducible first | exact HB.out | apply below_alloc | apply pw_below_drewN | apply below_drew1) | exact HB.out))) : w.heap.size ≤ g625)); clear HO_7; clear HB; have HO_7 := n0_; have HB := n1_; have B625 := n2_; have GW625 := n3_; have GE625 := n4_; clear n0_ n1_ n2_ n3_ n4_; clear hb hbox hg; have hcz15_0 : w14.cell? ⟨g625, 0, none⟩ = some (.int .u64 0) := bq_ B625 0; have hcz15_1 : w14.cell? ⟨g625, 1, none⟩ = some (.int .u64 0) := bq_ B625 1; have hfz15_0 := blk_frozen B625.out 0; have hfz15_1 := blk_frozen B625.out 1))
          have n0_ : Aside0 (Kd.R k36 36 ((w14.setCell ⟨g625, 0, none⟩ (.int .u64 (IntKind.u64.wrap (x8_1)))).setCell ⟨g625, 1, none⟩ (.int .u64 (IntKind.u64.wrap (wrap64 ((wrap64 (2 * x8_1)) + 1))))) w.heap.size (fun k_ => k_ ≠ g625) u7 x7_1) := ⟨by (with_reducible repeat (first | apply Kd.R_alloc | apply Kd.R_drewN | apply Kd.R_drew)); exact Kd.R_mono (Kd.R_far (p := ⟨g625, 1, none⟩) (Kd.R_far (p := ⟨g625, 0, none⟩) (Kd.R_mono HO_7.out (fun k_ hk => (⟨hk, hk.2⟩ : _ ∧ k_ ≠ g625))) (fun _ hk => hk.2) (.int .u64 (IntKind.u64.wrap (x8_1)))) (fun _ hk => hk.2) (.int .u64 (IntKind.u64.wrap (wrap64 ((wrap64 (2 * x8_1)) + 1))))) (fun _ hk => hk.1.2)⟩
          have n1_ : Aside0 (((w14.setCell ⟨g625, 0, none⟩ (.int .u64 (IntKind.u64.wrap (x8_1)))).setCell ⟨g625, 1, none⟩ (.int .u64 (IntKind.u64.wrap (wrap64 ((wrap64 (2 * x8_1)) + 1))))).heap[g625]? = some (.cells #[.int .u64 (IntKind.u64.wrap (x8_1)), .int .u64 (IntKind.u64.wrap (wrap64 ((wrap64 (2 * x8_1)) + 1)))] 36 (0, 0))) := ⟨by refine blk_put (cs := #[.int .u64 (IntKind.u64.wrap (x8_1)), .int .u64 0]) ?_ 1 _ rfl; refine blk_put (cs := #[.int .u64 0, .int .u64 0]) ?_ 0 _ rfl; exact B625.out⟩
          have n2_ : Aside0 (Below w.heap.size w ((w14.setCell ⟨g625, 0, none⟩ (.int .u64 (IntKind.u64.wrap (x8_1)))).setCell ⟨g625, 1, none⟩ (.int .u64 (IntKind.u64.wrap (wrap64 ((wrap64 (2 * x8_1)) + 1)))))) := ⟨by repeat (first | (with_reducible first | exact HB.out | apply below_alloc | apply pw_below_drewN | apply below_drew1 | refine below_set ?_ GE625.out) | exact HB.out)⟩
          (try clear HO_7)
          (try clear B625)
          (try clear HB)
          generalize ((w14.setCell ⟨g625, 0, none⟩ (.int .u64 (IntKind.u64.wrap (x8_1)))).setCell ⟨g625, 1, none⟩ (.int .u64 (IntKind.u64.wrap (wrap64 ((wrap64 (2 * x8_1)) + 1))))) = w16 at n0_ n1_ n2_ ⊢
          have HO_7 := n0_
          have B625 := n1_
          have HB := n2_
          clear n0_ n1_ n2_
          have n0_ := Aside0.mk (Kd.R_drew HO_7.out)
          have n1_ := Aside0.mk (blk_drew B625.out)
          have n2_ := Aside0.mk (below_drew1 HB.out)
          clear HO_7
          clear B625
          clear HB
          have HO_7 := n0_
          have B625 := n1_
          have HB := n2_
          clear n0_ n1_ n2_
          have p626 : 0 ≤ (x8_1 : Int) := of_decide_eq_true (by first | (with_reducible assumption) | assumption)
          have q626 : x8_1 < (l2.length : Int) := of_decide_eq_true (by first | (with_reducible assumption) | assumption)
          obtain ⟨ad626, e626, hx626_0⟩ := Kd.at_int HR2.out x8_1 p626 q626
          have hw626_0 := hx626_0
          cases e626
          replace hx626_0 := (HB.out.cell (World.block_lt_of_cell? w _ hx626_0)).trans hx626_0
          replace p626 := eq_true p626
          replace q626 := eq_true q626
          have p627 : 0 ≤ (x8_1 : Int) := of_decide_eq_true (by first | (with_reducible assumption) | assumption)
          have q627 : x8_1 < (l2.length : Int) := of_decide_eq_true (by first | (with_reducible assumption) | assumption)
          obtain ⟨ad627, e627, hx627_0⟩ := Kd.at_int HR2.out x8_1 p627 q627
          have hw627_0 := hx627_0
          obtain rfl : ad626 = ad627 := (by injection e627)
          replace hx627_0 := (HB.out.cell (World.block_lt_of_cell? w _ hx627_0)).trans hx627_0
          replace p627 := eq_true p627
          replace q627 := eq_true q627
          refine start_ (n := 11) (S := fun w' => w'.cell? (ad626.add (x8_1).toNat) = some (.int .u64 (rd l2 x8_1)) ∧ w'.cell? (ad626.add (x8_1).toNat) = some (.int .u64 (rd l2 x8_1))) (ds := []) z22_0_ (by kernel_rfl) rfl rfl ⟨((HB.out.cell (World.block_lt_of_cell? w _ hw626_0)).trans hw626_0), ((HB.out.cell (World.block_lt_of_cell? w _ hw627_0)).trans hw627_0)⟩ (fun hL => ?_); refine with_tabW attestorlaw07_leaves.tab7 attestorlaw07_leaves.bits7 (fun T_ W_ => ?_)
          generalize w16.drew = w17 at HO_7 B625 HB hx626_0 hx627_0 hL ⊢
          refine pure_ (i := 0) (N := some 27) (v := ?_) (a' := ?_) z22_1_ rfl rfl (an_ T_) (fun _ _ _ h => h) (Or.inl ⟨by rfl, ?_⟩) ?_ ?_
          rotate_left; · intro w'; go_simp; with_reducible rfl
          rotate_left; · simp only [Act.put, sa_, sb_, sc_, i64_w, i32_w]; rfl
          refine pure_ (i := 1) (N := some 28) (v := ?_) (a' := ?_) z22_2_ rfl rfl (an_ T_) (fun _ _ _ h => h) (Or.inl ⟨by rfl, ?_⟩) ?_ ?_
          rotate_left; · intro w'; go_simp; with_reducible rfl
          rotate_left; · simp only [Act.put, sa_, sb_, sc_, i64_w, i32_w]; rfl
          refine pure_ (i := 2) (N := some 29) (v := ?_) (a' := ?_) z22_3_ rfl rfl (an_ T_) (fun _ _ _ h => h) (Or.inl ⟨by rfl, ?_⟩) ?_ ?_
          rotate_left; · intro w'; go_simp; with_reducible rfl
          rotate_left; · simp only [Act.put, sa_, sb_, sc_, i64_w, i32_w]; rfl
          refine pure_ (i := 4) (N := some 31) (v := ?_) (a' := ?_) z22_4_ rfl rfl (an_ T_) (fun _ _ _ h => h) (Or.inl ⟨by rfl, ?_⟩) ?_ ?_
          rotate_left; · intro w'; go_simp; with_reducible rfl
          rotate_left; · simp only [Act.put, sa_, sb_, sc_, i64_w, i32_w]; rfl
          refine pure_ (i := 5) (N := some 32) (v := ?_) (a' := ?_) z22_5_ rfl rfl (an_ T_) (fun _ _ _ h => h) (Or.inl ⟨by rfl, ?_⟩) ?_ ?_
          rotate_left; · intro w'; go_simp; with_reducible rfl
          rotate_left; · simp only [Act.put, sa_, sb_, sc_, i64_w, i32_w]; rfl
          refine pure_ (i := 6) (N := some 33) (v := ?_) (a' := ?_) z22_6_ rfl rfl (an_ T_) (fun _ _ _ h => h) (Or.inl ⟨by rfl, ?_⟩) ?_ ?_
          rotate_left; · intro w'; go_simp; with_reducible rfl
          rotate_left; · simp only [Act.put, sa_, sb_, sc_, i64_w, i32_w]; rfl
          refine take_ (i := 3) (N := some 30) (v := ?_) (a' := ?_) z22_7_ rfl rfl (tk_ T_ W_) (fun _ _ _ h => h) (Or.inl ⟨by rfl, ?_⟩) hL ?_ ?_
          rotate_left
          ·rintro w' ⟨s0, s1⟩
           go_simp
           with_reducible rfl
          rotate_left
          ·simp only [Act.put, sa_, sb_, sc_, i64_w, i32_w]
           rfl
          refine take_ (i := 7) (N := some 34) (v := ?_) (a' := ?_) z22_8_ rfl rfl (tk_ T_ W_) (fun _ _ _ h => h) (Or.inl ⟨by rfl, ?_⟩) hL ?_ ?_
          rotate_left
          ·rintro w' ⟨s0, s1⟩
           go_simp
           with_reducible rfl
          rotate_left
          ·simp only [Act.put, sa_, sb_, sc_, i64_w, i32_w]
           rfl
          refine pure_ (i := 8) (N := some 35) (v := ?_) (a' := ?_) z22_9_ rfl rfl (an_ T_) (fun _ _ _ h => h) (Or.inl ⟨by rfl, ?_⟩) ?_ ?_
          rotate_left; · intro w'; go_simp; with_reducible rfl
          rotate_left; · simp only [Act.put, sa_, sb_, sc_, i64_w, i32_w]; rfl
          refine pure_ (i := 9) (N := some 36) (v := ?_) (a' := ?_) z22_10_ rfl rfl (an_ T_) (fun _ _ _ h => h) (Or.inl ⟨by rfl, ?_⟩) ?_ ?_
          rotate_left; · intro w'; go_simp; with_reducible rfl
          rotate_left; · simp only [Act.put, sa_, sb_, sc_, i64_w, i32_w]; rfl
          refine one_ (i := 10) (N := none) z22_11_ rfl rfl (on_ T_) (by decide) (fun K hK => ?_)
          have hs18 : w17.cell? ⟨g625, 0, none⟩ = some (.int .u64 (IntKind.u64.wrap (x8_1))) := bq_ B625 0
          have hfs18 := blk_frozen B625.out 0
          have hs19 : w17.cell? ⟨g625, 1, none⟩ = some (.int .u64 (IntKind.u64.wrap (wrap64 ((wrap64 (2 * x8_1)) + 1)))) := bq_ B625 1
          have hfs19 := blk_frozen B625.out 1
          refine skip_ (w1 := ?_) (by rfl) rfl ?_ ?_
          rotate_left
          ·go_simp
           rfl
          refine hK.out _ _ ⟨((cell_far (p := ⟨g625, _, none⟩) (by first | exact Nat.ne_of_lt (Nat.lt_of_lt_of_le (by have := World.block_lt_of_cell? _ _ hw626_0; first | rwa [add_block] at this | exact this) GW625.out) | (rw [add_block]; exact Nat.ne_of_lt (Nat.lt_of_lt_of_le (by have := World.block_lt_of_cell? _ _ hw626_0; first | rwa [add_block] at this | exact this) GW625.out)) | (show (Addr.add _ _).block ≠ _; rw [add_block]; exact Nat.ne_of_lt (Nat.lt_of_lt_of_le (by have := World.block_lt_of_cell? _ _ hw626_0; first | rwa [add_block] at this | exact this) GW625.out)) | (dsimp only; exact Nat.ne_of_lt (Nat.lt_of_lt_of_le (by have := World.block_lt_of_cell? _ _ hw626_0; first | rwa [add_block] at this | exact this) GW625.out))) _).trans (((cell_far (p := ⟨g625, _, none⟩) (by first | exact Nat.ne_of_lt (Nat.lt_of_lt_of_le (by have := World.block_lt_of_cell? _ _ hw626_0; first | rwa [add_block] at this | exact this) GW625.out) | (rw [add_block]; exact Nat.ne_of_lt (Nat.lt_of_lt_of_le (by have := World.block_lt_of_cell? _ _ hw626_0; first | rwa [add_block] at this | exact this) GW625.out)) | (show (Addr.add _ _).block ≠ _; rw [add_block]; exact Nat.ne_of_lt (Nat.lt_of_lt_of_le (by have := World.block_lt_of_cell? _ _ hw626_0; first | rwa [add_block] at this | exact this) GW625.out)) | (dsimp only; exact Nat.ne_of_lt (Nat.lt_of_lt_of_le (by have := World.block_lt_of_cell? _ _ hw626_0; first | rwa [add_block] at this | exact this) GW625.out))) _).trans (hL.1)))), ((cell_far (p := ⟨g625, _, none⟩) (by first | exact Nat.ne_of_lt (Nat.lt_of_lt_of_le (by have := World.block_lt_of_cell? _ _ hw627_0; first | rwa [add_block] at this | exact this) GW625.out) | (rw [add_block]; exact Nat.ne_of_lt (Nat.lt_of_lt_of_le (by have := World.block_lt_of_cell? _ _ hw627_0; first | rwa [add_block] at this | exact this) GW625.out)) | (show (Addr.add _ _).block ≠ _; rw [add_block]; exact Nat.ne_of_lt (Nat.lt_of_lt_of_le (by have := World.block_lt_of_cell? _ _ hw627_0; first | rwa [add_block] at this | exact this) GW625.out)) | (dsimp only; exact Nat.ne_of_lt (Nat.lt_of_lt_of_le (by have := World.block_lt_of_cell? _ _ hw627_0; first | rwa [add_block] at this | exact this) GW625.out))) _).trans (((cell_far (p := ⟨g625, _, none⟩) (by first | exact Nat.ne_of_lt (Nat.lt_of_lt_of_le (by have := World.block_lt_of_cell? _ _ hw627_0; first | rwa [add_block] at this | exact this) GW625.out) | (rw [add_block]; exact Nat.ne_of_lt (Nat.lt_of_lt_of_le (by have := World.block_lt_of_cell? _ _ hw627_0; first | rwa [add_block] at this | exact this) GW625.out)) | (show (Addr.add _ _).block ≠ _; rw [add_block]; exact Nat.ne_of_lt (Nat.lt_of_lt_of_le (by have := World.block_lt_of_cell? _ _ hw627_0; first | rwa [add_block] at this | exact this) GW625.out)) | (dsimp only; exact Nat.ne_of_lt (Nat.lt_of_lt_of_le (by have := World.block_lt_of_cell? _ _ hw627_0; first | rwa [add_block] at this | exact this) GW625.out))) _).trans (hL.2))))⟩ (fun hL => ?_)
          clear hK K
          refine done_ (done_of T_.out (by kernel_rfl)) ?_
          try go_wp2
          have n0_ : Aside0 (Kd.R k36 36 ((w17.setCell ⟨g625, 0, none⟩ (.int .u64 (rd l2 x8_1))).setCell ⟨g625, 1, none⟩ (.int .u64 (IntKind.u64.wrap (Int.tdiv (rd l2 x8_1) 3)))) w.heap.size (fun k_ => k_ ≠ g625) u7 x7_1) := ⟨by (with_reducible repeat (first | apply Kd.R_alloc | apply Kd.R_drewN | apply Kd.R_drew)); exact Kd.R_mono (Kd.R_far (p := ⟨g625, 1, none⟩) (Kd.R_far (p := ⟨g625, 0, none⟩) (Kd.R_mono HO_7.out (fun k_ hk => (⟨hk, hk⟩ : _ ∧ k_ ≠ g625))) (fun _ hk => hk.2) (.int .u64 (rd l2 x8_1))) (fun _ hk => hk.2) (.int .u64 (IntKind.u64.wrap (Int.tdiv (rd l2 x8_1) 3)))) (fun _ hk => hk.1)⟩
          have n1_ : Aside0 (((w17.setCell ⟨g625, 0, none⟩ (.int .u64 (rd l2 x8_1))).setCell ⟨g625, 1, none⟩ (.int .u64 (IntKind.u64.wrap (Int.tdiv (rd l2 x8_1) 3)))).heap[g625]? = some (.cells #[.int .u64 (rd l2 x8_1), .int .u64 (IntKind.u64.wrap (Int.tdiv (rd l2 x8_1) 3))] 36 (0, 0))) := ⟨by refine blk_put (cs := #[.int .u64 (rd l2 x8_1), .int .u64 (IntKind.u64.wrap (wrap64 ((wrap64 (2 * x8_1)) + 1)))]) ?_ 1 _ rfl; refine blk_put (cs := #[.int .u64 (IntKind.u64.wrap (x8_1)), .int .u64 (IntKind.u64.wrap (wrap64 ((wrap64 (2 * x8_1)) + 1)))]) ?_ 0 _ rfl; exact B625.out⟩
          have n2_ : Aside0 (Below w.heap.size w ((w17.setCell ⟨g625, 0, none⟩ (.int .u64 (rd l2 x8_1))).setCell ⟨g625, 1, none⟩ (.int .u64 (IntKind.u64.wrap (Int.tdiv (rd l2 x8_1) 3))))) := ⟨by repeat (first | (with_reducible first | exact HB.out | apply below_alloc | apply pw_below_drewN | apply below_drew1 | refine below_set ?_ GE625.out) | exact HB.out)⟩
          (try clear HO_7)
          (try clear B625)
          (try clear HB)
          generalize ((w17.setCell ⟨g625, 0, none⟩ (.int .u64 (rd l2 x8_1))).setCell ⟨g625, 1, none⟩ (.int .u64 (IntKind.u64.wrap (Int.tdiv (rd l2 x8_1) 3)))) = w20 at n0_ n1_ n2_ ⊢
          have HO_7 := n0_
          have B625 := n1_
          have HB := n2_
          clear n0_ n1_ n2_
          have n0_ := Aside0.mk (Kd.R_drew HO_7.out)
          have n1_ := Aside0.mk (blk_drew B625.out)
          have n2_ := Aside0.mk (below_drew1 HB.out)
          clear HO_7
          clear B625
          clear HB
          have HO_7 := n0_
          have B625 := n1_
          have HB := n2_
          clear n0_ n1_ n2_
          refine start_ (n := 15) (S := fun w' => w'.cell? ⟨g625, 0, none⟩ = some (.int .u64 (rd l2 x8_1)) ∧ w'.cell? ⟨g625, 1, none⟩ = some (.int .u64 (IntKind.u64.wrap (Int.tdiv (rd l2 x8_1) 3)))) (ds := []) z22_12_ (by kernel_rfl) rfl rfl ⟨bq_ B625 0, bq_ B625 1⟩ (fun hL => ?_); refine with_tabW attestorlaw07_leaves.tab8 attestorlaw07_leaves.bits8 (fun T_ W_ => ?_)
          generalize w20.drew = w21 at HO_7 B625 HB hL ⊢
          refine pure_ (i := 0) (N := some 37) (v := ?_) (a' := ?_) z22_13_ rfl rfl (an_ T_) (fun _ _ _ h => h) (Or.inl ⟨by rfl, ?_⟩) ?_ ?_
          rotate_left; · intro w'; go_simp; with_reducible rfl
          rotate_left; · simp only [Act.put, sa_, sb_, sc_, i64_w, i32_w]; rfl
          refine pure_ (i := 1) (N := some 38) (v := ?_) (a' := ?_) z22_14_ rfl rfl (an_ T_) (fun _ _ _ h => h) (Or.inl ⟨by rfl, ?_⟩) ?_ ?_
          rotate_left; · intro w'; go_simp; with_reducible rfl
          rotate_left; · simp only [Act.put, sa_, sb_, sc_, i64_w, i32_w]; rfl
          refine pure_ (i := 3) (N := some 40) (v := ?_) (a' := ?_) z22_15_ rfl rfl (an_ T_) (fun _ _ _ h => h) (Or.inl ⟨by rfl, ?_⟩) ?_ ?_
          rotate_left; · intro w'; go_simp; with_reducible rfl
          rotate_left; · simp only [Act.put, sa_, sb_, sc_, i64_w, i32_w]; rfl
          refine pure_ (i := 6) (N := some 43) (v := ?_) (a' := ?_) z22_16_ rfl rfl (an_ T_) (fun _ _ _ h => h) (Or.inl ⟨by rfl, ?_⟩) ?_ ?_
          rotate_left; · intro w'; go_simp; with_reducible rfl
          rotate_left; · simp only [Act.put, sa_, sb_, sc_, i64_w, i32_w]; rfl
          refine pure_ (i := 8) (N := some 45) (v := ?_) (a' := ?_) z22_17_ rfl rfl (an_ T_) (fun _ _ _ h => h) (Or.inl ⟨by rfl, ?_⟩) ?_ ?_
          rotate_left; · intro w'; go_simp; with_reducible rfl
          rotate_left; · simp only [Act.put, sa_, sb_, sc_, i64_w, i32_w]; rfl
          refine take_ (i := 2) (N := some 39) (v := ?_) (a' := ?_) z22_18_ rfl rfl (tk_ T_ W_) (fun _ _ _ h => h) (Or.inl ⟨by rfl, ?_⟩) hL ?_ ?_
          rotate_left
          ·rintro w' ⟨s0, s1⟩
           go_simp
           with_reducible rfl
          rotate_left
          ·simp only [Act.put, sa_, sb_, sc_, i64_w, i32_w]
           rfl
          refine take_ (i := 7) (N := some 44) (v := ?_) (a' := ?_) z22_19_ rfl rfl (tk_ T_ W_) (fun _ _ _ h => h) (Or.inl ⟨by rfl, ?_⟩) hL ?_ ?_
          rotate_left
          ·rintro w' ⟨s0, s1⟩
           go_simp
           with_reducible rfl
          rotate_left
          ·simp only [Act.put, sa_, sb_, sc_, i64_w, i32_w]
           rfl
          refine one_ (i := 4) (N := some 41) z22_20_ rfl rfl (on_ T_) (by decide) (fun K hK => ?_)
          refine goes_ Tryd.func34 (by kernel_rfl) rfl #[.int .i64 a0] (by rfl) rfl rfl (by (try simp only [List.map_toArray, List.map_cons, List.map_nil]); first | done | rfl | (go_simp; done)) ?_
          with_reducible refine (attestorref01_P.calls a0 t628 _ A9.out).mono ?_
          rintro e w' ⟨rfl, ⟨nd, rfl⟩⟩
          refine ⟨_, rfl, ?_⟩
          refine hK.out _ _ ⟨bq_ B625 0, bq_ B625 1⟩ (fun hL => ?_)
          clear hK K
          refine norm_ (a' := ?_) ?_ ?_
          rotate_left
          ·show Act.put _ (some 41) _ = _
           simp only [Act.put, sa_, sb_, sc_, i64_w, i32_w]
           rfl
          refine pure_ (i := 5) (N := some 42) (v := ?_) (a' := ?_) z22_21_ rfl rfl (an_ T_) (fun _ _ _ h => h) (Or.inl ⟨by rfl, ?_⟩) ?_ ?_
          rotate_left; · intro w'; go_simp; with_reducible rfl
          rotate_left; · simp only [Act.put, sa_, sb_, sc_, i64_w, i32_w]; rfl
          refine one_ (i := 9) (N := some 46) z22_22_ rfl rfl (on_ T_) (by decide) (fun K hK => ?_)
          refine goes_ Tryd.func34 (by kernel_rfl) rfl #[.int .i64 a0] (by rfl) rfl rfl (by (try simp only [List.map_toArray, List.map_cons, List.map_nil]); first | done | rfl | (go_simp; done)) ?_
          with_reducible refine (attestorref01_P.calls a0 t629 _ A11.out).mono ?_
          rintro e w' ⟨rfl, ⟨nd, rfl⟩⟩
          refine ⟨_, rfl, ?_⟩
          refine hK.out _ _ ⟨bq_ B625 0, bq_ B625 1⟩ (fun hL => ?_)
          clear hK K
          refine norm_ (a' := ?_) ?_ ?_
          rotate_left
          ·show Act.put _ (some 46) _ = _
           simp only [Act.put, sa_, sb_, sc_, i64_w, i32_w]
           rfl
          refine pure_ (i := 10) (N := some 47) (v := ?_) (a' := ?_) z22_23_ rfl rfl (an_ T_) (fun _ _ _ h => h) (Or.inl ⟨by rfl, ?_⟩) ?_ ?_
          rotate_left; · intro w'; go_simp; with_reducible rfl
          rotate_left; · simp only [Act.put, sa_, sb_, sc_, i64_w, i32_w]; rfl
          refine pure_ (i := 11) (N := some 48) (v := ?_) (a' := ?_) z22_24_ rfl rfl (an_ T_) (fun _ _ _ h => h) (Or.inl ⟨by rfl, ?_⟩) ?_ ?_
          rotate_left; · intro w'; go_simp; with_reducible rfl
          rotate_left; · simp only [Act.put, sa_, sb_, sc_, i64_w, i32_w]; rfl
          refine one_ (i := 12) (N := some 49) z22_25_ rfl rfl (on_ T_) (by decide) (fun K hK => ?_)
          refine value_ (w1 := ?_) (v := ?_) (by rfl) rfl ?_ ?_
          rotate_left 2
          ·go_simp
           constructor
           ·rfl
           ·rfl
          refine hK.out _ _ ⟨(blk_cell (blk_alloc B625.out _) 0).trans rfl, (blk_cell (blk_alloc B625.out _) 1).trans rfl⟩ (fun hL => ?_)
          clear hK K
          refine norm_ (a' := ?_) ?_ ?_
          rotate_left
          ·show Act.put _ (some 49) _ = _
           simp only [Act.put, sa_, sb_, sc_, i64_w, i32_w]
           rfl
          refine one_ (i := 13) (N := some 50) z22_26_ rfl rfl (on_ T_) (by decide) (fun K hK => ?_)
          refine Kd.R_append_step k36 (w0 := w) w.heap.size (by rfl) (.tmp 37) (.tmp 49) 22 36 (.agg #[(.int .u64 0), (.int .u64 0)]) 16 rfl Tryd.underlying22 info36 rfl (by decide) (by omega) u7 x7_1 (⟨Int.tmod (rd l2 x8_1) t628, Int.tmod (IntKind.u64.wrap (Int.tdiv (rd l2 x8_1) 3)) t629⟩ : S36) [.int .u64 (Int.tmod (rd l2 x8_1) t628), .int .u64 (Int.tmod (IntKind.u64.wrap (Int.tdiv (rd l2 x8_1) 3)) t629)] (fun k_ => k_ ≠ g625) (fun _ => False) rfl rfl ?aP (fun _ hk => hk.elim) ?aF ?aO ?aB ?aS ?aL ?_
          (case aP => exact k36_mkM _ _ _ (⟨Int.tmod (rd l2 x8_1) t628, Int.tmod (IntKind.u64.wrap (Int.tdiv (rd l2 x8_1) 3)) t629⟩ : S36))
          (case aB => exact (by repeat (first | (with_reducible first | exact HB.out | apply below_alloc | apply pw_below_drewN | apply below_drew1 | refine below_set ?_ GE625.out) | exact HB.out)))
          (case aF => exact (fun k_ hk => Kd.freshB (g := g625) (o := .cells #[.int .u64 (rd l2 x8_1), .int .u64 (IntKind.u64.wrap (Int.tdiv (rd l2 x8_1) 3))] 36 (0, 0)) (by exact B625.out) k_ hk))
          (case aO => exact (by (with_reducible repeat (first | apply Kd.R_alloc | apply Kd.R_drewN | apply Kd.R_drew)); exact HO_7.out))
          (case aS => exact (below_size (by repeat (first | (with_reducible first | exact HB.out | apply below_alloc | apply pw_below_drewN | apply below_drew1 | refine below_set ?_ GE625.out) | exact HB.out))))
          (case aL => have := LMc13.out; omega)
          intro v631 w22 ho hb hg hat
          rw [← Ny630.out] at ho
          have n0_ := Aside0.mk (blk_grown (g := g625) (o := .cells #[.int .u64 (rd l2 x8_1), .int .u64 (IntKind.u64.wrap (Int.tdiv (rd l2 x8_1) 3))] 36 (0, 0)) (by exact B625.out) hg (Kd.R_away HO_7.out (fun _ hk => hk)))
          have n1_ := Aside0.mk (hb)
          have n2_ := Aside0.mk (ho)
          clear B625
          clear HB
          clear HO_7
          have B625 := n0_
          have HB := n1_
          have HO632 := n2_
          clear n0_ n1_ n2_
          clear ho hb hg hat
          refine hK.out _ _ ⟨bq_ B625 0, bq_ B625 1⟩ (fun hL => ?_)
          clear hK K
          refine norm_ (a' := ?_) ?_ ?_
          rotate_left
          ·show Act.put _ (some 50) _ = _
           simp only [Act.put, sa_, sb_, sc_, i64_w, i32_w]
           rfl
          refine pure_ (i := 14) (N := some 7) (v := ?_) (a' := ?_) z22_27_ rfl rfl (an_ T_) (fun _ _ _ h => h) (Or.inl ⟨by rfl, ?_⟩) ?_ ?_
          rotate_left; · intro w'; go_simp; with_reducible rfl
          rotate_left; · simp only [Act.put, sa_, sb_, sc_, i64_w, i32_w]; rfl
          refine done_ (done_of T_.out (by kernel_rfl)) ?_
          try go_wp2
          go_roundg k1
          case measure => have := HK1.out; omega
          case rel => exact ⟨(y630), (wrap64 (x8_1 + 1)), (by first | rfl | (simp; done) | (simp [*]; done) | (simp; rfl) | (simp; decide +kernel)), H', ⟨by have := HK1.out; omega⟩, ⟨by (with_reducible repeat (first | apply Kd.R_alloc | apply Kd.R_drewN | apply Kd.R_drew)); exact Kd.R_mono HO632.out (fun _ hk => trivial)⟩, ⟨by repeat (first | (with_reducible first | exact HB.out | apply below_alloc | apply pw_below_drewN | apply below_drew1 | refine below_set ?_ GE625.out) | exact HB.out)⟩⟩
         ·rw [if_neg c13] at H
          exact absurd H (by simp)
      ·rw [if_neg c8] at H
       exact absurd H (by simp)
     ·rw [if_neg c7] at H
      have c7b0 : decide (x8_1 < (l2.length : Int)) = false := decide_eq_false c7
      clear c7
      replace H := Option.bind_eq_some_iff.mp H
      obtain ⟨t633, A230, H⟩ := H
      have A23 := Aside0.mk A230
      clear A230
      by_cases c24 : t633 = 0
      ·rw [if_pos c24] at H
       exact absurd H (by simp)
      ·rw [if_neg c24] at H
       have c24b0 : (t633 == 0) = false := beq_eq_false_iff_ne.mpr c24
       have c24b1 : (t633 != 0) = true := bne_iff_ne.mpr c24
       replace H := Option.bind_eq_some_iff.mp H
       obtain ⟨t634, A250, H⟩ := H
       have A25 := Aside0.mk A250
       clear A250
       by_cases c26 : t634 = 0
       ·rw [if_pos c26] at H
        exact absurd H (by simp)
       ·rw [if_neg c26] at H
        have c26b0 : (t634 == 0) = false := beq_eq_false_iff_ne.mpr c26
        have c26b1 : (t634 != 0) = true := bne_iff_ne.mpr c26
        by_cases c27 : x7_1.length < 8796093022208
        ·rw [if_pos c27] at H
         have LMc27 := Aside0.mk c27
         clear c27
         obtain ⟨y635, hy635⟩ : ∃ y_ : List (S36), y_ = (x7_1 ++ [(⟨Int.tmod (IntKind.u64.wrap (x8_1)) t633, Int.tmod (IntKind.u64.wrap (wrap64 ((wrap64 (2 * x8_1)) + 1))) t634⟩ : S36)]) := ⟨_, rfl⟩
         replace H : (attestorlaw07_leaves.l0 k1 a0 a1 l2 y635 (wrap64 (x8_1 + 1))) = some r := by first | (rw [hy635]; with_reducible exact H) | (have H2_ := (Option.bind_some _ _).symm.trans H; rw [hy635]; with_reducible exact H2_) | (have H2_ := (Option.bind_some _ _).symm.trans H; with_reducible exact H2_) | with_reducible exact H | (rw [hy635]; exact H) | exact H
         have Ny635 := Aside0.mk hy635
         clear hy635
         have H' := Aside0.mk H
         clear H
         try go_wp2_with (first | ((with_reducible refine gate_dst (N := 9) rfl ?_); refine box_event ?hg (N := 9) ?hd (cs := #[.int .u64 0, .int .u64 0]) (t := 36) ?hr ?_; (case hd => rfl); (case hg => rfl); (case hr => first | (go_simp; done) | (go_simp; rfl)); intro g625 hg w28 hbox hb; have n0_ := Aside0.mk (Kd.R_below (Kd.R_elderB (by (with_reducible repeat (first | apply Kd.R_alloc | apply Kd.R_drewN | apply Kd.R_drew)); exact HO_7.out) g625 (Nat.le_of_eq hg.symm)) hb); have n1_ := Aside0.mk (below_step (by repeat (first | (with_reducible first | exact HB.out | apply below_alloc | apply pw_below_drewN | apply below_drew1) | exact HB.out)) hb); have n2_ := Aside0.mk (hbox); have n3_ := Aside0.mk ((by rw [hg]; exact (below_size (by repeat (first | (with_reducible first | exact HB.out | apply below_alloc | apply pw_below_drewN | apply below_drew1) | exact HB.out))) : w.heap.size ≤ g625)); have n4_ := Aside0.mk ((by rw [hg]; exact (below_size (by repeat (first | (with_reducible first | exact HB.out | apply below_alloc | apply pw_below_drewN | apply below_drew1) | exact HB.out))) : w.heap.size ≤ g625)); clear HO_7; clear HB; have HO_7 := n0_; have HB := n1_; have B625 := n2_; have GW625 := n3_; have GE625 := n4_; clear n0_ n1_ n2_ n3_ n4_; clear hb hbox hg; have hcz29_0 : w28.cell? ⟨g625, 0, none⟩ = some (.int .u64 0) := bq_ B625 0; have hcz29_1 : w28.cell? ⟨g625, 1, none⟩ = some (.int .u64 0) := bq_ B625 1; have hfz29_0 := blk_frozen B625.out 0; have hfz29_1 := blk_frozen B625.out 1))
         have n0_ : Aside0 (Kd.R k36 36 ((w28.setCell ⟨g625, 0, none⟩ (.int .u64 (IntKind.u64.wrap (x8_1)))).setCell ⟨g625, 1, none⟩ (.int .u64 (IntKind.u64.wrap (wrap64 ((wrap64 (2 * x8_1)) + 1))))) w.heap.size (fun k_ => k_ ≠ g625) u7 x7_1) := ⟨by (with_reducible repeat (first | apply Kd.R_alloc | apply Kd.R_drewN | apply Kd.R_drew)); exact Kd.R_mono (Kd.R_far (p := ⟨g625, 1, none⟩) (Kd.R_far (p := ⟨g625, 0, none⟩) (Kd.R_mono HO_7.out (fun k_ hk => (⟨hk, hk.2⟩ : _ ∧ k_ ≠ g625))) (fun _ hk => hk.2) (.int .u64 (IntKind.u64.wrap (x8_1)))) (fun _ hk => hk.2) (.int .u64 (IntKind.u64.wrap (wrap64 ((wrap64 (2 * x8_1)) + 1))))) (fun _ hk => hk.1.2)⟩
         have n1_ : Aside0 (((w28.setCell ⟨g625, 0, none⟩ (.int .u64 (IntKind.u64.wrap (x8_1)))).setCell ⟨g625, 1, none⟩ (.int .u64 (IntKind.u64.wrap (wrap64 ((wrap64 (2 * x8_1)) + 1))))).heap[g625]? = some (.cells #[.int .u64 (IntKind.u64.wrap (x8_1)), .int .u64 (IntKind.u64.wrap (wrap64 ((wrap64 (2 * x8_1)) + 1)))] 36 (0, 0))) := ⟨by refine blk_put (cs := #[.int .u64 (IntKind.u64.wrap (x8_1)), .int .u64 0]) ?_ 1 _ rfl; refine blk_put (cs := #[.int .u64 0, .int .u64 0]) ?_ 0 _ rfl; exact B625.out⟩
         have n2_ : Aside0 (Below w.heap.size w ((w28.setCell ⟨g625, 0, none⟩ (.int .u64 (IntKind.u64.wrap (x8_1)))).setCell ⟨g625, 1, none⟩ (.int .u64 (IntKind.u64.wrap (wrap64 ((wrap64 (2 * x8_1)) + 1)))))) := ⟨by repeat (first | (with_reducible first | exact HB.out | apply below_alloc | apply pw_below_drewN | apply below_drew1 | refine below_set ?_ GE625.out) | exact HB.out)⟩
         (try clear HO_7)
         (try clear B625)
         (try clear HB)
         generalize ((w28.setCell ⟨g625, 0, none⟩ (.int .u64 (IntKind.u64.wrap (x8_1)))).setCell ⟨g625, 1, none⟩ (.int .u64 (IntKind.u64.wrap (wrap64 ((wrap64 (2 * x8_1)) + 1))))) = w30 at n0_ n1_ n2_ ⊢
         have HO_7 := n0_
         have B625 := n1_
         have HB := n2_
         clear n0_ n1_ n2_
         have n0_ := Aside0.mk (Kd.R_drew HO_7.out)
         have n1_ := Aside0.mk (blk_drew B625.out)
         have n2_ := Aside0.mk (below_drew1 HB.out)
         clear HO_7
         clear B625
         clear HB
         have HO_7 := n0_
         have B625 := n1_
         have HB := n2_
         clear n0_ n1_ n2_
         refine start_ (n := 15) (S := fun w' => w'.cell? ⟨g625, 0, none⟩ = some (.int .u64 (IntKind.u64.wrap (x8_1))) ∧ w'.cell? ⟨g625, 1, none⟩ = some (.int .u64 (IntKind.u64.wrap (wrap64 ((wrap64 (2 * x8_1)) + 1))))) (ds := []) z22_12_ (by kernel_rfl) rfl rfl ⟨bq_ B625 0, bq_ B625 1⟩ (fun hL => ?_); refine with_tabW attestorlaw07_leaves.tab8 attestorlaw07_leaves.bits8 (fun T_ W_ => ?_)
         generalize w30.drew = w31 at HO_7 B625 HB hL ⊢
         refine pure_ (i := 0) (N := some 37) (v := ?_) (a' := ?_) z22_13_ rfl rfl (an_ T_) (fun _ _ _ h => h) (Or.inl ⟨by rfl, ?_⟩) ?_ ?_
         rotate_left; · intro w'; go_simp; with_reducible rfl
         rotate_left; · simp only [Act.put, sa_, sb_, sc_, i64_w, i32_w]; rfl
         refine pure_ (i := 1) (N := some 38) (v := ?_) (a' := ?_) z22_14_ rfl rfl (an_ T_) (fun _ _ _ h => h) (Or.inl ⟨by rfl, ?_⟩) ?_ ?_
         rotate_left; · intro w'; go_simp; with_reducible rfl
         rotate_left; · simp only [Act.put, sa_, sb_, sc_, i64_w, i32_w]; rfl
         refine pure_ (i := 3) (N := some 40) (v := ?_) (a' := ?_) z22_15_ rfl rfl (an_ T_) (fun _ _ _ h => h) (Or.inl ⟨by rfl, ?_⟩) ?_ ?_
         rotate_left; · intro w'; go_simp; with_reducible rfl
         rotate_left; · simp only [Act.put, sa_, sb_, sc_, i64_w, i32_w]; rfl
         refine pure_ (i := 6) (N := some 43) (v := ?_) (a' := ?_) z22_16_ rfl rfl (an_ T_) (fun _ _ _ h => h) (Or.inl ⟨by rfl, ?_⟩) ?_ ?_
         rotate_left; · intro w'; go_simp; with_reducible rfl
         rotate_left; · simp only [Act.put, sa_, sb_, sc_, i64_w, i32_w]; rfl
         refine pure_ (i := 8) (N := some 45) (v := ?_) (a' := ?_) z22_17_ rfl rfl (an_ T_) (fun _ _ _ h => h) (Or.inl ⟨by rfl, ?_⟩) ?_ ?_
         rotate_left; · intro w'; go_simp; with_reducible rfl
         rotate_left; · simp only [Act.put, sa_, sb_, sc_, i64_w, i32_w]; rfl
         refine take_ (i := 2) (N := some 39) (v := ?_) (a' := ?_) z22_18_ rfl rfl (tk_ T_ W_) (fun _ _ _ h => h) (Or.inl ⟨by rfl, ?_⟩) hL ?_ ?_
         rotate_left
         ·rintro w' ⟨s0, s1⟩
          go_simp
          with_reducible rfl
         rotate_left
         ·simp only [Act.put, sa_, sb_, sc_, i64_w, i32_w]
          rfl
         refine take_ (i := 7) (N := some 44) (v := ?_) (a' := ?_) z22_19_ rfl rfl (tk_ T_ W_) (fun _ _ _ h => h) (Or.inl ⟨by rfl, ?_⟩) hL ?_ ?_
         rotate_left
         ·rintro w' ⟨s0, s1⟩
          go_simp
          with_reducible rfl
         rotate_left
         ·simp only [Act.put, sa_, sb_, sc_, i64_w, i32_w]
          rfl
         refine one_ (i := 4) (N := some 41) z22_20_ rfl rfl (on_ T_) (by decide) (fun K hK => ?_)
         refine goes_ Tryd.func34 (by kernel_rfl) rfl #[.int .i64 a0] (by rfl) rfl rfl (by (try simp only [List.map_toArray, List.map_cons, List.map_nil]); first | done | rfl | (go_simp; done)) ?_
         with_reducible refine (attestorref01_P.calls a0 t633 _ A23.out).mono ?_
         rintro e w' ⟨rfl, ⟨nd, rfl⟩⟩
         refine ⟨_, rfl, ?_⟩
         refine hK.out _ _ ⟨bq_ B625 0, bq_ B625 1⟩ (fun hL => ?_)
         clear hK K
         refine norm_ (a' := ?_) ?_ ?_
         rotate_left
         ·show Act.put _ (some 41) _ = _
          simp only [Act.put, sa_, sb_, sc_, i64_w, i32_w]
          rfl
         refine pure_ (i := 5) (N := some 42) (v := ?_) (a' := ?_) z22_21_ rfl rfl (an_ T_) (fun _ _ _ h => h) (Or.inl ⟨by rfl, ?_⟩) ?_ ?_
         rotate_left; · intro w'; go_simp; with_reducible rfl
         rotate_left; · simp only [Act.put, sa_, sb_, sc_, i64_w, i32_w]; rfl
         refine one_ (i := 9) (N := some 46) z22_22_ rfl rfl (on_ T_) (by decide) (fun K hK => ?_)
         refine goes_ Tryd.func34 (by kernel_rfl) rfl #[.int .i64 a0] (by rfl) rfl rfl (by (try simp only [List.map_toArray, List.map_cons, List.map_nil]); first | done | rfl | (go_simp; done)) ?_
         with_reducible refine (attestorref01_P.calls a0 t634 _ A25.out).mono ?_
         rintro e w' ⟨rfl, ⟨nd, rfl⟩⟩
         refine ⟨_, rfl, ?_⟩
         refine hK.out _ _ ⟨bq_ B625 0, bq_ B625 1⟩ (fun hL => ?_)
         clear hK K
         refine norm_ (a' := ?_) ?_ ?_
         rotate_left
         ·show Act.put _ (some 46) _ = _
          simp only [Act.put, sa_, sb_, sc_, i64_w, i32_w]
          rfl
         refine pure_ (i := 10) (N := some 47) (v := ?_) (a' := ?_) z22_23_ rfl rfl (an_ T_) (fun _ _ _ h => h) (Or.inl ⟨by rfl, ?_⟩) ?_ ?_
         rotate_left; · intro w'; go_simp; with_reducible rfl
         rotate_left; · simp only [Act.put, sa_, sb_, sc_, i64_w, i32_w]; rfl
         refine pure_ (i := 11) (N := some 48) (v := ?_) (a' := ?_) z22_24_ rfl rfl (an_ T_) (fun _ _ _ h => h) (Or.inl ⟨by rfl, ?_⟩) ?_ ?_
         rotate_left; · intro w'; go_simp; with_reducible rfl
         rotate_left; · simp only [Act.put, sa_, sb_, sc_, i64_w, i32_w]; rfl
         refine one_ (i := 12) (N := some 49) z22_25_ rfl rfl (on_ T_) (by decide) (fun K hK => ?_)
         refine value_ (w1 := ?_) (v := ?_) (by rfl) rfl ?_ ?_
         rotate_left 2
         ·go_simp
          constructor
          ·rfl
          ·rfl
         refine hK.out _ _ ⟨(blk_cell (blk_alloc B625.out _) 0).trans rfl, (blk_cell (blk_alloc B625.out _) 1).trans rfl⟩ (fun hL => ?_)
         clear hK K
         refine norm_ (a' := ?_) ?_ ?_
         rotate_left
         ·show Act.put _ (some 49) _ = _
          simp only [Act.put, sa_, sb_, sc_, i64_w, i32_w]
          rfl
         refine one_ (i := 13) (N := some 50) z22_26_ rfl rfl (on_ T_) (by decide) (fun K hK => ?_)
         refine Kd.R_append_step k36 (w0 := w) w.heap.size (by rfl) (.tmp 37) (.tmp 49) 22 36 (.agg #[(.int .u64 0), (.int .u64 0)]) 16 rfl Tryd.underlying22 info36 rfl (by decide) (by omega) u7 x7_1 (⟨Int.tmod (IntKind.u64.wrap (x8_1)) t633, Int.tmod (IntKind.u64.wrap (wrap64 ((wrap64 (2 * x8_1)) + 1))) t634⟩ : S36) [.int .u64 (Int.tmod (IntKind.u64.wrap (x8_1)) t633), .int .u64 (Int.tmod (IntKind.u64.wrap (wrap64 ((wrap64 (2 * x8_1)) + 1))) t634)] (fun k_ => k_ ≠ g625) (fun _ => False) rfl rfl ?aP (fun _ hk => hk.elim) ?aF ?aO ?aB ?aS ?aL ?_
         (case aP => exact k36_mkM _ _ _ (⟨Int.tmod (IntKind.u64.wrap (x8_1)) t633, Int.tmod (IntKind.u64.wrap (wrap64 ((wrap64 (2 * x8_1)) + 1))) t634⟩ : S36))
         (case aB => exact (by repeat (first | (with_reducible first | exact HB.out | apply below_alloc | apply pw_below_drewN | apply below_drew1 | refine below_set ?_ GE625.out) | exact HB.out)))
         (case aF => exact (fun k_ hk => Kd.freshB (g := g625) (o := .cells #[.int .u64 (IntKind.u64.wrap (x8_1)), .int .u64 (IntKind.u64.wrap (wrap64 ((wrap64 (2 * x8_1)) + 1)))] 36 (0, 0)) (by exact B625.out) k_ hk))
         (case aO => exact (by (with_reducible repeat (first | apply Kd.R_alloc | apply Kd.R_drewN | apply Kd.R_drew)); exact HO_7.out))
         (case aS => exact (below_size (by repeat (first | (with_reducible first | exact HB.out | apply below_alloc | apply pw_below_drewN | apply below_drew1 | refine below_set ?_ GE625.out) | exact HB.out))))
         (case aL => have := LMc27.out; omega)
         intro v636 w32 ho hb hg hat
         rw [← Ny635.out] at ho
         have n0_ := Aside0.mk (blk_grown (g := g625) (o := .cells #[.int .u64 (IntKind.u64.wrap (x8_1)), .int .u64 (IntKind.u64.wrap (wrap64 ((wrap64 (2 * x8_1)) + 1)))] 36 (0, 0)) (by exact B625.out) hg (Kd.R_away HO_7.out (fun _ hk => hk)))
         have n1_ := Aside0.mk (hb)
         have n2_ := Aside0.mk (ho)
         clear B625
         clear HB
         clear HO_7
         have B625 := n0_
         have HB := n1_
         have HO637 := n2_
         clear n0_ n1_ n2_
         clear ho hb hg hat
         refine hK.out _ _ ⟨bq_ B625 0, bq_ B625 1⟩ (fun hL => ?_)
         clear hK K
         refine norm_ (a' := ?_) ?_ ?_
         rotate_left
         ·show Act.put _ (some 50) _ = _
          simp only [Act.put, sa_, sb_, sc_, i64_w, i32_w]
          rfl
         refine pure_ (i := 14) (N := some 7) (v := ?_) (a' := ?_) z22_27_ rfl rfl (an_ T_) (fun _ _ _ h => h) (Or.inl ⟨by rfl, ?_⟩) ?_ ?_
         rotate_left; · intro w'; go_simp; with_reducible rfl
         rotate_left; · simp only [Act.put, sa_, sb_, sc_, i64_w, i32_w]; rfl
         refine done_ (done_of T_.out (by kernel_rfl)) ?_
         try go_wp2
         go_roundg k1
         case measure => have := HK1.out; omega
         case rel => exact ⟨(y635), (wrap64 (x8_1 + 1)), (by first | rfl | (simp; done) | (simp [*]; done) | (simp; rfl) | (simp; decide +kernel)), H', ⟨by have := HK1.out; omega⟩, ⟨by (with_reducible repeat (first | apply Kd.R_alloc | apply Kd.R_drewN | apply Kd.R_drew)); exact Kd.R_mono HO637.out (fun _ hk => trivial)⟩, ⟨by repeat (first | (with_reducible first | exact HB.out | apply below_alloc | apply pw_below_drewN | apply below_drew1 | refine below_set ?_ GE625.out) | exact HB.out)⟩⟩
        ·rw [if_neg c27] at H
         exact absurd H (by simp)
    ·rw [if_neg c6] at H
     have c6b0 : decide (x8_1 < (ji5)) = false := decide_eq_false c6
     clear c6
     obtain rfl := Option.some.inj H
     go_wp2
     go_ret
     exact ⟨_, by first | rfl | (simp [errW_none, errW_some] <;> rfl) | (simp only [← hji5]; first | rfl | (simp [errW_none, errW_some] <;> rfl)) | (simp [*, errW_none, errW_some] <;> rfl), by (with_reducible repeat (first | apply Kd.R_alloc | apply Kd.R_drewN | apply Kd.R_drew)); exact HO_7.out, by repeat (first | (with_reducible first | exact HB.out | apply below_alloc | apply pw_below_drewN | apply below_drew1) | exact HB.out)⟩
   ·rw [if_neg c4] at H
    exact absurd H (by simp)

end Go.Proofs.YtpnpmeogffodgaaDoor.Q
end
section
namespace Go.Proofs.YtpnpmeogffodgaaDoor.Q
open Go.RowKit Go.Proofs.YtpnpmeogffodgaaDoorW.PrintWords Go.Proofs.YtpnpmeogffodgaaDoorW.PrintLast Go.Proofs.YtpnpmeogffodgaaDoorW.PrintMore
open Go.Proofs.YtpnpmeogffodgaaDoor.Num
set_option linter.unusedVariables false
set_option linter.unusedSimpArgs false
def pD (f : Int) (d : S36) : Prop := (0 ≤ d.f0 ∧ d.f0 < fp f) ∧ 0 ≤ d.f1 ∧ d.f1 < fp f
theorem pD.nn {f : Int} {d : S36} (h : pD f d) : nnD d := ⟨h.1.1, h.2.1⟩
theorem pD_ok {f : Int} {d : S36} (h : pD f d) : okD (fp f) d = true := by
  unfold okD
  rw [decide_eq_true h.1.2, decide_eq_true h.2.2]
  rfl
theorem all_ok {f : Int} {l : List S36} (h : ∀ d ∈ l, pD f d) : l.all (okD (fp f)) = true := List.all_eq_true.mpr fun d hd => pD_ok (h d hd)
def nodeS (f : Int) (a b : S36) : S36 := ((sponge_Node.f 200 f a.f0 a.f1 b.f0 b.f1).map fun n => (⟨n.1, n.2⟩ : S36)).getD z36
theorem node_s {f : Int} (hv : 0 ≤ f ∧ f < 4) (a b : S36) (ha : nnD a) (hb : nnD b) : sponge_Node.f 200 f a.f0 a.f1 b.f0 b.f1 = some ((nodeS f a b).f0, (nodeS f a b).f1) ∧ pD f (nodeS f a b) := by
  obtain ⟨p, g, e, D⟩ := fd_of hv.1 hv.2
  obtain ⟨a0, h0⟩ := Int.eq_ofNat_of_zero_le ha.1
  obtain ⟨a1, h1⟩ := Int.eq_ofNat_of_zero_le ha.2
  obtain ⟨b0, h2⟩ := Int.eq_ofNat_of_zero_le hb.1
  obtain ⟨b1, h3⟩ := Int.eq_ofNat_of_zero_le hb.2
  have hp : 0 < p := by have := D.p96; omega
  obtain ⟨n0, n1, h, l0, l1⟩ : ∃ n0 n1 : Nat, sponge_Node.f 200 f a0 a1 b0 b1 = some ((n0 : Int), (n1 : Int)) ∧ n0 < p ∧ n1 < p := ⟨_, _, Node_f D 200 (by omega) ⟨a0, a1, b0, b1⟩, Nat.mod_lt _ hp, Nat.mod_lt _ hp⟩
  have hq : nodeS f a b = ⟨(n0 : Int), (n1 : Int)⟩ := by
    unfold nodeS
    rw [h0, h1, h2, h3, h]
    rfl
  rw [h0, h1, h2, h3, hq]
  refine ⟨h, ⟨Int.natCast_nonneg _, ?_⟩, Int.natCast_nonneg _, ?_⟩
  · rw [D.F.eq]; exact Int.ofNat_lt.mpr l0
  · rw [D.F.eq]; exact Int.ofNat_lt.mpr l1
def upS (f : Int) : List S36 → List S36
  | a :: b :: l => nodeS f a b :: upS f l
  | _ => []
theorem upL_s {f : Int} (hv : 0 ≤ f ∧ f < 4) : ∀ (n : Nat) (l : List S36), l.length ≤ n → (∀ d ∈ l, nnD d) → upL f l = some (upS f l) ∧ ∀ d ∈ upS f l, pD f d
  | n, [], _, _ => ⟨rfl, fun d hd => by simp [upS] at hd⟩
  | n, [a], _, _ => ⟨rfl, fun d hd => by simp [upS] at hd⟩
  | 0, a :: b :: l, hn, _ => by simp at hn
  | n + 1, a :: b :: l, hn, h => by
    obtain ⟨hq, hp⟩ := node_s hv a b (h a (by simp)) (h b (by simp))
    obtain ⟨hl, hm⟩ := upL_s hv n l (by simp at hn; omega) (fun d hd => h d (by simp [hd]))
    refine ⟨?_, fun d hd => ?_⟩
    · rw [upL, upS]
      refine bnd hq (bnd hl ?_)
      rfl
    · rw [upS] at hd
      rcases List.mem_cons.mp hd with rfl | hd
      · exact hp
      · exact hm d hd
theorem upS_len (f : Int) : ∀ (n : Nat) (l : List S36), l.length ≤ n → (upS f l).length = l.length / 2
  | n, [], _ => rfl
  | n, [a], _ => by simp [upS]
  | 0, a :: b :: l, hn => by simp at hn
  | n + 1, a :: b :: l, hn => by
    have := upS_len f n l (by simp at hn; omega)
    rw [upS, List.length_cons, this, List.length_cons, List.length_cons]
    omega
def lvl (f : Int) : Nat → List S36 → List (List S36)
  | 0, l => [l]
  | n + 1, l => l :: lvl f n (upS f l)
def top (f : Int) : Nat → List S36 → List S36
  | 0, l => l
  | n + 1, l => top f n (upS f l)
def xo (i : Nat) : Nat := if i % 2 = 0 then i + 1 else i - 1
def pth (f : Int) : Nat → List S36 → Nat → List S36
  | 0, _, _ => []
  | n + 1, l, i => l.getD (xo i) z36 :: pth f n (upS f l) (i / 2)
theorem top_p {f : Int} (hv : 0 ≤ f ∧ f < 4) : ∀ (n : Nat) (l : List S36), (∀ d ∈ l, pD f d) → ∀ d ∈ top f n l, pD f d
  | 0, l, h => h
  | n + 1, l, h => top_p hv n (upS f l) (upL_s hv _ l (Nat.le_refl _) fun d hd => (h d hd).nn).2
theorem top_succ (f : Int) : ∀ (n : Nat) (l : List S36), top f (n + 1) l = upS f (top f n l)
  | 0, l => rfl
  | n + 1, l => top_succ f n (upS f l)
theorem top_add (f : Int) : ∀ (m n : Nat) (l : List S36), top f (n + m) l = top f m (top f n l)
  | m, 0, l => by rw [Nat.zero_add]; rfl
  | m, n + 1, l => by rw [show n + 1 + m = (n + m) + 1 by omega]; exact top_add f m n (upS f l)
theorem top_len (f : Int) : ∀ (n m : Nat) (l : List S36), l.length = 2 ^ (n + m) → (top f n l).length = 2 ^ m
  | 0, m, l, h => by rw [Nat.zero_add] at h; exact h
  | n + 1, m, l, h => top_len f n m (upS f l) (by rw [upS_len f _ l (Nat.le_refl _), h, show n + 1 + m = (n + m) + 1 by omega, Nat.pow_succ]; omega)
theorem lvl_len (f : Int) : ∀ (n : Nat) (l : List S36), (lvl f n l).length = n + 1
  | 0, l => rfl
  | n + 1, l => by rw [lvl, List.length_cons, lvl_len f n (upS f l)]
theorem lvl_get (f : Int) : ∀ (n j : Nat) (l : List S36), j ≤ n → (lvl f n l).getD j [] = top f j l
  | 0, 0, l, _ => rfl
  | n + 1, 0, l, _ => rfl
  | n + 1, j + 1, l, h => by
    have := lvl_get f n j (upS f l) (by omega)
    rw [lvl, top, ← this]
    rfl
theorem pth_len (f : Int) : ∀ (n : Nat) (l : List S36) (i : Nat), (pth f n l i).length = n
  | 0, l, i => rfl
  | n + 1, l, i => by rw [pth, List.length_cons, pth_len f n]
theorem pth_add (f : Int) : ∀ (n m : Nat) (l : List S36) (i : Nat), pth f (n + m) l i = pth f n l i ++ pth f m (top f n l) (i / 2 ^ n)
  | 0, m, l, i => by rw [Nat.zero_add, Nat.pow_zero, Nat.div_one]; rfl
  | n + 1, m, l, i => by
    rw [show n + 1 + m = (n + m) + 1 by omega, pth, pth, pth_add f n m, top, List.cons_append, Nat.div_div_eq_div_mul, show 2 ^ (n + 1) = 2 * 2 ^ n by rw [Nat.pow_succ]; omega]
theorem xo_lt {i n : Nat} (h : i < 2 * n) : xo i < 2 * n := by unfold xo; split <;> omega
theorem bits_xor_one (i : Nat) (h : i < 4611686018427387904) : Go.bits .xor .i64 (i : Int) 1 = (xo i : Nat) := by
  have h1 : (BitVec.ofInt 64 1).toNat = 1 := by decide
  have key : (BitVec.ofInt 64 (i : Int) ^^^ BitVec.ofInt 64 1).toNat = i ^^^ 1 := by
    rw [BitVec.toNat_xor, BitVec.toNat_ofInt, h1]
    congr 1
    omega
  have hx : i ^^^ 1 = xo i := by
    have a := Nat.xor_div_two (a := i) (b := 1)
    have b := @Nat.xor_mod_two_eq_one i 1
    rw [show (1 : Nat) / 2 = 0 from rfl, Nat.xor_zero] at a
    unfold xo
    split
    · have : (i ^^^ 1) % 2 = 1 := b.mpr (by omega)
      omega
    · have : ¬ (i ^^^ 1) % 2 = 1 := fun hc => (b.mp hc) (by constructor <;> omega)
      omega
  show IntKind.i64.wrap ((BitVec.ofInt 64 (i : Int) ^^^ BitVec.ofInt 64 1).toNat : Nat) = _
  rw [key, hx, IntKind.wrap_i64]
  have : xo i ≤ i + 1 := by unfold xo; split <;> omega
  omega
theorem riseL_s {f : Int} (hv : 0 ≤ f ∧ f < 4) (c : Nat) : ∀ (n k : Nat) (l : List S36), n < k → l.length = 2 ^ (n + c) → (∀ d ∈ l, nnD d) → riseL f ((2 ^ c : Nat) : Int) k l = some (lvl f n l)
  | _, 0, _, hk, _, _ => by omega
  | 0, k + 1, l, _, hl, _ => by
    rw [riseL, if_neg (by rw [Nat.zero_add] at hl; omega), lvl]
  | n + 1, k + 1, l, hk, hl, h => by
    have hp : 2 ^ c < 2 ^ (n + 1 + c) := Nat.pow_lt_pow_right (by omega) (by omega)
    obtain ⟨hu, hn⟩ := upL_s hv _ l (Nat.le_refl _) h
    rw [riseL, if_pos (by omega), lvl]
    refine bnd hu (bnd (riseL_s hv c n k (upS f l) (by omega) ?_ fun d hd => (hn d hd).nn) rfl)
    rw [upS_len f _ l (Nat.le_refl _), hl, show n + 1 + c = (n + c) + 1 by omega, Nat.pow_succ]; omega
theorem rd_top (f : Int) (n j : Nat) (l : List S36) (h : j ≤ n) : rd_L3 (lvl f n l) (j : Int) = top f j l := by
  unfold rd_L3
  rw [Int.toNat_natCast, lvl_get f n j l h]
theorem build_f {f : Int} (hv : 0 ≤ f ∧ f < 4) (n c k : Nat) (l : List S36) (hk : n < k) (hn : n + c ≤ 18) (hl : l.length = 2 ^ (n + c)) (h : ∀ d ∈ l, pD f d) : tree_Build.f k f l (c : Int) = some (f, ((n + c : Nat) : Int), (c : Int), lvl f n l, 0) := by
  have hh : tree_height.f (l.length : Int) = some ((n + c : Nat) : Int) := by rw [hl, height_f, (keys ⟨n + c, by omega⟩).2.2.2]
  unfold tree_Build.f
  refine bnd hh (bnd (valid_f f) ?_)
  rw [decide_eq_true hv, if_pos rfl, if_neg (by omega), if_neg (by omega), if_neg (by omega)]
  refine bnd (proper_f f l) ?_
  rw [all_ok h, if_pos rfl, shl_of c (by omega)]
  exact bnd (riseL_s hv c n k l hk hl fun d hd => (h d hd).nn) rfl
theorem valid_l {f : Int} (hv : 0 ≤ f ∧ f < 4) (n c : Nat) (l : List S36) (hn : n + c ≤ 18) (hl : l.length = 2 ^ (n + c)) (h : ∀ d ∈ l, pD f d) : ∀ m j k, m + j = n + 1 → m < k → tree_Valid.l0 k (lvl f n l) ((n + 1 : Nat) : Int) (j : Int) f ((n + c : Nat) : Int) (c : Int) (lvl f n l) = some true
  | _, _, 0, _, hk => by omega
  | 0, j, k + 1, hj, _ => by rw [tree_Valid.l0, if_neg (by omega)]
  | m + 1, j, k + 1, hj, hk => by
    have w : wrap64 (((n + c : Nat) : Int) - (j : Int)) = ((n + c - j : Nat) : Int) := by unfold wrap64; omega
    have ht : (top f j l).length = 2 ^ (n + c - j) := top_len f j (n + c - j) l (by rw [hl]; congr 1; omega)
    rw [tree_Valid.l0, if_pos (by omega), if_pos (by omega), if_pos (by rw [lvl_len]; omega), w, if_pos (by omega), rd_top f n j l (by omega), shl_of _ (by omega), if_pos (by rw [ht])]
    refine bnd (proper_f f _) ?_
    rw [all_ok (top_p hv j l h), if_pos rfl, show wrap64 ((j : Int) + 1) = ((j + 1 : Nat) : Int) by unfold wrap64; omega]
    exact valid_l hv n c l hn hl h m (j + 1) k (by omega) (by omega)
theorem tvalid_f {f : Int} (hv : 0 ≤ f ∧ f < 4) (n c k : Nat) (l : List S36) (hk : n + 2 < k) (hn : n + c ≤ 18) (hl : l.length = 2 ^ (n + c)) (h : ∀ d ∈ l, pD f d) : tree_Valid.f k f ((n + c : Nat) : Int) (c : Int) (lvl f n l) = some true := by
  unfold tree_Valid.f
  refine bnd (valid_f f) ?_
  obtain ⟨k, rfl⟩ : ∃ q, k = q + 1 := ⟨k - 1, by omega⟩
  have w : wrap64 (wrap64 (((n + c : Nat) : Int) - (c : Int)) + 1) = ((n + 1 : Nat) : Int) := by
    rw [show wrap64 (((n + c : Nat) : Int) - (c : Int)) = (n : Int) by unfold wrap64; omega]
    unfold wrap64; omega
  rw [decide_eq_true hv, if_pos rfl, if_neg (by omega), if_neg (by omega), if_neg (by omega), if_neg (by omega), w, lvl_len, bne_self_eq_false, tree_Valid.j0, if_neg (by decide), lvl_len]
  exact valid_l hv n c l hn hl h (n + 1) 0 k (by omega) (by omega)
theorem tcap_f {f : Int} (hv : 0 ≤ f ∧ f < 4) (n c k : Nat) (l : List S36) (hk : n + 2 < k) (hn : n + c ≤ 18) (hl : l.length = 2 ^ (n + c)) (h : ∀ d ∈ l, pD f d) : tree_Cap.f k f ((n + c : Nat) : Int) (c : Int) (lvl f n l) = some (top f n l) := by
  have w : wrap64 (((n + 1 : Nat) : Int) - 1) = (n : Int) := by unfold wrap64; omega
  have hc : 2 ^ c ≤ 2 ^ 18 := Nat.pow_le_pow_right (by omega) (by omega)
  unfold tree_Cap.f
  refine bnd (tvalid_f hv n c k l hk hn hl h) ?_
  rw [if_pos rfl, lvl_len, w, if_pos (by omega), if_pos (by omega), rd_top f n n l (Nat.le_refl _)]
  refine bnd (clone_f _ ?_) rfl
  rw [top_len f n c l hl]
  omega
theorem tplace_f {f : Int} (hv : 0 ≤ f ∧ f < 4) (n c k i : Nat) (l : List S36) (hk : n + 2 < k) (hn : n + c ≤ 18) (hl : l.length = 2 ^ (n + c)) (h : ∀ d ∈ l, pD f d) : tree_place.f k f ((n + c : Nat) : Int) (c : Int) (lvl f n l) (i : Int) = some (if i < l.length then 0 else 2) := by
  unfold tree_place.f
  refine bnd (tvalid_f hv n c k l hk hn hl h) ?_
  rw [if_pos rfl, if_neg (by omega), lvl_len, if_pos (by omega), show rd_L3 (lvl f n l) 0 = l from rd_top f n 0 l (Nat.zero_le _)]
  by_cases hi : i < l.length
  · rw [if_neg (by omega), if_pos hi]
  · rw [if_pos (by omega), if_neg hi]
theorem path_l (f : Int) (n c : Nat) (l : List S36) (hn : n + c ≤ 18) (hl : l.length = 2 ^ (n + c)) : ∀ (m j k i : Nat) (acc : List S36), m + j = n → m < k → acc.length = j → i < 2 ^ (n + c - j) → tree_Path.l0 k (i : Int) acc ((lvl f n l).take n) (n : Int) (j : Int) = some (acc ++ pth f m (top f j l) i, 0)
  | _, _, 0, _, _, _, hk, _, _ => by omega
  | 0, j, k + 1, i, acc, hj, _, _, _ => by rw [tree_Path.l0, if_neg (by omega), pth, List.append_nil]
  | m + 1, j, k + 1, i, acc, hj, hk, ha, hi => by
    have ht : (top f j l).length = 2 ^ (n + c - j) := top_len f j (n + c - j) l (by rw [hl]; congr 1; omega)
    have hp : 2 ^ (n + c - j) = 2 * 2 ^ (n + c - (j + 1)) := by rw [show n + c - j = (n + c - (j + 1)) + 1 by omega, Nat.pow_succ]; omega
    have hb : 2 ^ (n + c - j) ≤ 2 ^ 18 := Nat.pow_le_pow_right (by omega) (by omega)
    have hr : rd_L3 ((lvl f n l).take n) (j : Int) = top f j l := by
      unfold rd_L3
      rw [Int.toNat_natCast, ← lvl_get f n j l (by omega)]
      simp [List.getD, List.getElem?_take, show j < n by omega]
    have hx : xo i < 2 ^ (n + c - j) := by rw [hp]; rw [hp] at hi; exact xo_lt hi
    have hlen : ((lvl f n l).take n).length = n := by rw [List.length_take, lvl_len]; omega
    rw [tree_Path.l0, if_pos (by omega), if_pos (by omega), if_pos (by rw [hlen]; omega), bits_xor_one i (by omega), if_pos (by omega), hr, if_pos (by rw [ht]; omega), if_pos (by omega), show wrap64 ((j : Int) + 1) = ((j + 1 : Nat) : Int) by unfold wrap64; omega, show ((i : Int) / 2) = ((i / 2 : Nat) : Int) by omega]
    have ih := path_l f n c l hn hl m (j + 1) k (i / 2) (acc ++ [(top f j l).getD (xo i) z36]) (by omega) (by omega) (by rw [List.length_append, ha]; rfl) (by omega)
    rw [top_succ, List.append_assoc] at ih
    exact ih
theorem tpath_f {f : Int} (hv : 0 ≤ f ∧ f < 4) (n c k i : Nat) (l : List S36) (hk : n + 2 < k) (hn : n + c ≤ 18) (hl : l.length = 2 ^ (n + c)) (h : ∀ d ∈ l, pD f d) (hi : i < l.length) : tree_Path.f k f ((n + c : Nat) : Int) (c : Int) (lvl f n l) (i : Int) = some (pth f n l i, 0) := by
  have w : wrap64 (((n + 1 : Nat) : Int) - 1) = (n : Int) := by unfold wrap64; omega
  unfold tree_Path.f
  refine bnd (tplace_f hv n c k i l hk hn hl h) ?_
  rw [if_pos hi, if_pos rfl, lvl_len, w, if_pos (by omega), if_pos (by omega), Int.toNat_natCast]
  refine bnd rfl ?_
  rw [show ((lvl f n l).take n).length = n by rw [List.length_take, lvl_len]; omega]
  exact path_l f n c l hn hl n 0 k i [] (by omega) (by omega) rfl (by rw [Nat.sub_zero, ← hl]; exact hi)
theorem equal_self (p : List S36) (hb : p.length ≤ 1000) (k : Nat) (hk : 1000 < k) : attestorref07_Equal.f k p p = some true := by
  have hl : ∀ n j k, n + j = p.length → n < k → attestorref07_Equal.l0 k p p (j : Int) = some true := by
    intro n
    induction n with
    | zero => intro j k hj hk; obtain ⟨k, rfl⟩ : ∃ q, k = q + 1 := ⟨k - 1, by omega⟩; rw [attestorref07_Equal.l0, if_neg (by omega)]
    | succ n ih =>
      intro j k hj hk
      obtain ⟨k, rfl⟩ : ∃ q, k = q + 1 := ⟨k - 1, by omega⟩
      rw [attestorref07_Equal.l0, if_pos (by omega), if_pos (by omega), if_pos (by omega), show wrap64 ((j : Int) + 1) = ((j + 1 : Nat) : Int) by unfold wrap64; omega, ih (j + 1) k (by omega) (by omega)]
      simp
  unfold attestorref07_Equal.f
  rw [if_pos rfl]
  exact hl p.length 0 k rfl (by omega)
theorem rd_nn {l : List Int} (h : ∀ x ∈ l, 0 ≤ x) (i : Int) : 0 ≤ rd l i := by
  unfold rd
  by_cases hi : i.toNat < l.length
  · have e : l.getD i.toNat 0 = l[i.toNat] := by simp [List.getD, hi]
    rw [e]; exact h _ (List.getElem_mem hi)
  · have e : l.getD i.toNat 0 = 0 := by simp [List.getD, Nat.not_lt.mp hi]
    rw [e]; omega
theorem leaves_l {f : Int} (hv : 0 ≤ f ∧ f < 4) (x : Nat) (hx : x ≤ 18) (s : List Int) (hs : ∀ y ∈ s, 0 ≤ y) : ∀ m j k (acc : List S36), m + j = 2 ^ x → m < k → acc.length = j → (∀ d ∈ acc, pD f d) → ∃ L, attestorlaw07_leaves.l0 k f (x : Int) s acc (j : Int) = some L ∧ L.length = 2 ^ x ∧ ∀ d ∈ L, pD f d
  | _, _, 0, _, _, hk, _, _ => by omega
  | 0, j, k + 1, acc, hj, _, ha, hp => ⟨acc, by rw [attestorlaw07_leaves.l0, if_pos (by omega), shl_of x (by omega), if_neg (by omega)], by omega, hp⟩
  | m + 1, j, k + 1, acc, hj, hk, ha, hp => by
    have hb : 2 ^ x ≤ 2 ^ 18 := Nat.pow_le_pow_right (by omega) hx
    have hf : 0 < fp f := by
      obtain ⟨p, g, e, D⟩ := fd_of hv.1 hv.2
      rw [D.F.eq]; have := D.p96; omega
    have next : ∀ u v : Int, 0 ≤ u → 0 ≤ v → ∃ L, attestorlaw07_leaves.l0 k f (x : Int) s (acc ++ [(⟨Int.tmod u (fp f), Int.tmod v (fp f)⟩ : S36)]) (wrap64 ((j : Int) + 1)) = some L ∧ L.length = 2 ^ x ∧ ∀ d ∈ L, pD f d := by
      intro u v hu hw
      rw [show wrap64 ((j : Int) + 1) = ((j + 1 : Nat) : Int) by unfold wrap64; omega]
      refine leaves_l hv x hx s hs m (j + 1) k _ (by omega) (by omega) (by rw [List.length_append, ha]; rfl) fun d hd => ?_
      rcases List.mem_append.mp hd with hd | hd
      · exact hp d hd
      · obtain rfl := List.mem_singleton.mp hd
        exact ⟨⟨Int.tmod_nonneg _ hu, Int.tmod_lt_of_pos _ hf⟩, Int.tmod_nonneg _ hw, Int.tmod_lt_of_pos _ hf⟩
    have un : ∀ y : Int, 0 ≤ IntKind.u64.wrap y := fun y => by rw [IntKind.wrap_u64]; omega
    rw [attestorlaw07_leaves.l0, if_pos (by omega), shl_of x (by omega), if_pos (by omega), P_f]
    by_cases hjs : (j : Int) < (s.length : Int)
    · rw [if_pos hjs, if_pos (by omega), Option.bind_some, if_neg (by omega), Option.bind_some, if_neg (by omega), if_pos (by omega)]
      exact next _ _ (rd_nn hs _) (un _)
    · rw [if_neg hjs, Option.bind_some, if_neg (by omega), Option.bind_some, if_neg (by omega), if_pos (by omega)]
      exact next _ _ (un _) (un _)
theorem leaves_f {f : Int} (hv : 0 ≤ f ∧ f < 4) (x k : Nat) (hx : x ≤ 18) (hk : 2 ^ x < k) (s : List Int) (hs : ∀ y ∈ s, 0 ≤ y) : ∃ L, attestorlaw07_leaves.f k f (x : Int) s = some L ∧ L.length = 2 ^ x ∧ ∀ d ∈ L, pD f d :=
  leaves_l hv x hx s hs (2 ^ x) 0 k [] (by omega) hk rfl fun d hd => by simp at hd
end Go.Proofs.YtpnpmeogffodgaaDoor.Q
end
section
namespace Go.Proofs.YtpnpmeogffodgaaDoor.Q
open Go.RowKit Go.Proofs.YtpnpmeogffodgaaDoorW.PrintWords Go.Proofs.YtpnpmeogffodgaaDoorW.PrintLast Go.Proofs.YtpnpmeogffodgaaDoorW.PrintMore
attribute [local go_sem] max2_int min2_int max_two min_two max_three min_three max_four min_four run_store_fnV run_store_fnc run_store_nfn   -- for this text's walks alone
set_option linter.unusedVariables false
set_option linter.unusedSimpArgs false

abbrev z4_0_ : Array Bool := #[false, false, false, false, false, false, false, false, false, false, false, false, false, false, false, false, false, false]
abbrev z4_1_ : Array Bool := #[true, false, false, false, false, false, false, false, false, false, false, false, false, false, false, false, false, false]
abbrev z4_2_ : Array Bool := #[true, true, false, false, false, false, false, false, false, false, false, false, false, false, false, false, false, false]
abbrev z4_3_ : Array Bool := #[true, true, true, false, false, false, false, false, false, false, false, false, false, false, false, false, false, false]
abbrev z4_4_ : Array Bool := #[true, true, true, true, false, false, false, false, false, false, false, false, false, false, false, false, false, false]
abbrev z4_5_ : Array Bool := #[true, true, true, true, true, false, false, false, false, false, false, false, false, false, false, false, false, false]
abbrev z4_6_ : Array Bool := #[true, true, true, true, true, true, false, false, false, false, false, false, false, false, false, false, false, false]
abbrev z4_7_ : Array Bool := #[true, true, true, true, true, true, true, false, false, false, false, false, false, false, false, false, false, false]
abbrev z4_8_ : Array Bool := #[true, true, true, true, true, true, true, true, false, false, false, false, false, false, false, false, false, false]
abbrev z4_9_ : Array Bool := #[true, true, true, true, true, true, true, true, true, false, false, false, false, false, false, false, false, false]
abbrev z4_10_ : Array Bool := #[true, true, true, true, true, true, true, true, true, true, false, false, false, false, false, false, false, false]
abbrev z4_11_ : Array Bool := #[true, true, true, true, true, true, true, true, true, true, true, false, false, false, false, false, false, false]
abbrev z4_12_ : Array Bool := #[true, true, true, true, true, true, true, true, true, true, true, true, false, false, false, false, false, false]
abbrev z4_13_ : Array Bool := #[true, true, true, true, true, true, true, true, true, true, true, true, false, true, false, false, false, false]
abbrev z4_14_ : Array Bool := #[true, true, true, true, true, true, true, true, true, true, true, true, true, true, false, false, false, false]
abbrev z4_15_ : Array Bool := #[true, true, true, true, true, true, true, true, true, true, true, true, true, true, true, false, false, false]
abbrev z4_16_ : Array Bool := #[true, true, true, true, true, true, true, true, true, true, true, true, true, true, true, true, false, false]
abbrev z4_17_ : Array Bool := #[true, true, true, true, true, true, true, true, true, true, true, true, true, true, true, true, true, false]
abbrev z4_18_ : Array Bool := #[true, true, true, true, true, true, true, true, true, true, true, true, true, true, true, true, true, true]
abbrev z4_19_ : Array Bool := #[false, false, false, false, false, false, false, false, false, false, false, false]
abbrev z4_20_ : Array Bool := #[false, true, false, false, false, false, false, false, false, false, false, false]
abbrev z4_21_ : Array Bool := #[false, true, true, false, false, false, false, false, false, false, false, false]
abbrev z4_22_ : Array Bool := #[false, true, true, true, false, false, false, false, false, false, false, false]
abbrev z4_23_ : Array Bool := #[false, true, true, true, true, false, false, false, false, false, false, false]
abbrev z4_24_ : Array Bool := #[false, true, true, true, true, true, false, false, false, false, false, false]
abbrev z4_25_ : Array Bool := #[true, true, true, true, true, true, false, false, false, false, false, false]
abbrev z4_26_ : Array Bool := #[true, true, true, true, true, true, true, false, false, false, false, false]
abbrev z4_27_ : Array Bool := #[true, true, true, true, true, true, true, true, false, false, false, false]
abbrev z4_28_ : Array Bool := #[true, true, true, true, true, true, true, true, true, false, false, false]
abbrev z4_29_ : Array Bool := #[true, true, true, true, true, true, true, true, true, true, false, false]
abbrev z4_30_ : Array Bool := #[true, true, true, true, true, true, true, true, true, true, true, false]
abbrev z4_31_ : Array Bool := #[true, true, true, true, true, true, true, true, true, true, true, true]
/-! ### attestorlaw07_TreeCaps: function 4 -/
mutual
def attestorlaw07_TreeCaps.j0 : Nat → Int → Int → List (S36) → Bool → Int → Int → Int → List (List (S36)) → Int → Int → Int → List (List (S36)) → Int → Int → Int → List (List (S36)) → Option (Bool)
  | 0, _, _, _, _, _, _, _, _, _, _, _, _, _, _, _, _ => none
  | k + 1, x10, x11, x12, x78, x679000, x679001, x679002, x679003, x687000, x687001, x687002, x687003, x698000, x698001, x698002, x698003 => if x78 = true then (none) else (attestorlaw07_TreeCaps.l0 k x10 x11 x12 0 x679000 x679001 x679002 x679003 x687000 x687001 x687002 x687003 x698000 x698001 x698002 x698003)
def attestorlaw07_TreeCaps.l0 : Nat → Int → Int → List (S36) → Int → Int → Int → Int → List (List (S36)) → Int → Int → Int → List (List (S36)) → Int → Int → Int → List (List (S36)) → Option (Bool)
  | 0, _, _, _, _, _, _, _, _, _, _, _, _, _, _, _, _ => none
  | k + 1, x10, x11, x12, x19, x679000, x679001, x679002, x679003, x687000, x687001, x687002, x687003, x698000, x698001, x698002, x698003 => if x19 < (x12.length : Int) then ((tree_Path.f k x679000 x679001 x679002 x679003 x19).bind fun bt706 => ((tree_Path.f k x687000 x687001 x687002 x687003 x19).bind fun bt710 => (if 0 ≤ (wrap64 (x10 - x11)) then ((tree_Path.f k x698000 x698001 x698002 x698003 (shr .i64 x19 (wrap64 (x10 - x11)))).bind fun bt714 => ((attestorlaw07_cut.f bt710.1 20).bind fun t718 => (if t718.length + bt714.1.length < 8796093022208 then ((attestorref07_Equal.f k bt706.1 (t718 ++ bt714.1)).bind fun t724 => (if t724 = true then (attestorlaw07_TreeCaps.l0 k x10 x11 x12 (wrap64 (x19 + 1)) x679000 x679001 x679002 x679003 x687000 x687001 x687002 x687003 x698000 x698001 x698002 x698003) else (none))) else (none)))) else (none)))) else ((attestorlaw07_lives.f k).bind fun t705 => (some t705))
end
def attestorlaw07_TreeCaps.f (k : Nat) (a0 : Int) (a1 : Int) (a2 : Int) (l3 : List Int) : Option (Bool) := if (wrap64 ((wrap64 (Int.tmod a1 6)) + 1)) = 0 then (none) else ((attestorlaw07_leaves.f k (wrap64 (Int.tmod a0 4)) (wrap64 (Int.tmod a1 6)) l3).bind fun t668 => ((tree_Build.f k (wrap64 (Int.tmod a0 4)) t668 0).bind fun bt671 => ((tree_Build.f k (wrap64 (Int.tmod a0 4)) t668 (Int.tmod (wrap64 (a2)) (wrap64 ((wrap64 (Int.tmod a1 6)) + 1)))).bind fun bt679 => ((tree_Cap.f k bt679.1 bt679.2.1 bt679.2.2.1 bt679.2.2.2.1).bind fun t687 => ((tree_Build.f k (wrap64 (Int.tmod a0 4)) t687 0).bind fun bt690 => (if bt671.2.2.2.2 = 0 then (if bt679.2.2.2.2 = 0 then (if bt690.2.2.2.2 = 0 then ((tree_Cap.f k bt671.1 bt671.2.1 bt671.2.2.1 bt671.2.2.2.1).bind fun t698 => ((tree_Cap.f k bt690.1 bt690.2.1 bt690.2.2.1 bt690.2.2.2.1).bind fun t701 => ((attestorref07_Equal.f k t698 t701).bind fun t704 => (attestorlaw07_TreeCaps.j0 k (wrap64 (Int.tmod a1 6)) (Int.tmod (wrap64 (a2)) (wrap64 ((wrap64 (Int.tmod a1 6)) + 1))) t668 (!t704) bt671.1 bt671.2.1 bt671.2.2.1 bt671.2.2.2.1 bt679.1 bt679.2.1 bt679.2.2.1 bt679.2.2.2.1 bt690.1 bt690.2.1 bt690.2.2.1 bt690.2.2.2.1)))) else (none)) else (none)) else (none)))))))
theorem attestorlaw07_TreeCaps.mono_l : ∀ k, (∀ y0 y1 y2 y3 y4 y5 y6 y7 y8 y9 y10 y11 y12 y13 y14 y15, LeO (attestorlaw07_TreeCaps.j0 k y0 y1 y2 y3 y4 y5 y6 y7 y8 y9 y10 y11 y12 y13 y14 y15) (attestorlaw07_TreeCaps.j0 (k + 1) y0 y1 y2 y3 y4 y5 y6 y7 y8 y9 y10 y11 y12 y13 y14 y15)) ∧ (∀ y0 y1 y2 y3 y4 y5 y6 y7 y8 y9 y10 y11 y12 y13 y14 y15, LeO (attestorlaw07_TreeCaps.l0 k y0 y1 y2 y3 y4 y5 y6 y7 y8 y9 y10 y11 y12 y13 y14 y15) (attestorlaw07_TreeCaps.l0 (k + 1) y0 y1 y2 y3 y4 y5 y6 y7 y8 y9 y10 y11 y12 y13 y14 y15))
  | 0 => ⟨fun _ _ _ _ _ _ _ _ _ _ _ _ _ _ _ _ r h => by simp [attestorlaw07_TreeCaps.j0] at h, fun _ _ _ _ _ _ _ _ _ _ _ _ _ _ _ _ r h => by simp [attestorlaw07_TreeCaps.l0] at h⟩
  | k + 1 => by
    obtain ⟨ih0, ih1⟩ := attestorlaw07_TreeCaps.mono_l k
    refine ⟨?_, ?_⟩
    · intro y0 y1 y2 y3 y4 y5 y6 y7 y8 y9 y10 y11 y12 y13 y14 y15
      unfold attestorlaw07_TreeCaps.j0
      repeat' first
      | (with_reducible exact ih0 _ _ _ _ _ _ _ _ _ _ _ _ _ _ _ _)
      | (with_reducible exact ih1 _ _ _ _ _ _ _ _ _ _ _ _ _ _ _ _)
      | (with_reducible exact attestorlaw07_leaves.mono _ _ _ _)
      | (with_reducible exact attestorlaw07_lives.mono _)
      | (with_reducible exact attestorref07_Equal.mono _ _ _)
      | (with_reducible exact tree_Build.mono _ _ _ _)
      | (with_reducible exact tree_Cap.mono _ _ _ _ _)
      | (with_reducible exact tree_Path.mono _ _ _ _ _ _)
      | (with_reducible exact LeO.refl _)
      | (with_reducible exact LeO.none _)
      | (with_reducible refine LeO.ite ?_ ?_)
      | (with_reducible refine LeO.bind ?_ (fun _ => ?_))
      | exact ih0 _ _ _ _ _ _ _ _ _ _ _ _ _ _ _ _
      | exact ih1 _ _ _ _ _ _ _ _ _ _ _ _ _ _ _ _
      | exact attestorlaw07_leaves.mono _ _ _ _
      | exact attestorlaw07_lives.mono _
      | exact attestorref07_Equal.mono _ _ _
      | exact tree_Build.mono _ _ _ _
      | exact tree_Cap.mono _ _ _ _ _
      | exact tree_Path.mono _ _ _ _ _ _
      | exact LeO.none _
      | refine LeO.ite ?_ ?_
      | refine LeO.bind ?_ (fun _ => ?_)
    · intro y0 y1 y2 y3 y4 y5 y6 y7 y8 y9 y10 y11 y12 y13 y14 y15
      unfold attestorlaw07_TreeCaps.l0
      repeat' first
      | (with_reducible exact ih0 _ _ _ _ _ _ _ _ _ _ _ _ _ _ _ _)
      | (with_reducible exact ih1 _ _ _ _ _ _ _ _ _ _ _ _ _ _ _ _)
      | (with_reducible exact attestorlaw07_leaves.mono _ _ _ _)
      | (with_reducible exact attestorlaw07_lives.mono _)
      | (with_reducible exact attestorref07_Equal.mono _ _ _)
      | (with_reducible exact tree_Build.mono _ _ _ _)
      | (with_reducible exact tree_Cap.mono _ _ _ _ _)
      | (with_reducible exact tree_Path.mono _ _ _ _ _ _)
      | (with_reducible exact LeO.refl _)
      | (with_reducible exact LeO.none _)
      | (with_reducible refine LeO.ite ?_ ?_)
      | (with_reducible refine LeO.bind ?_ (fun _ => ?_))
      | exact ih0 _ _ _ _ _ _ _ _ _ _ _ _ _ _ _ _
      | exact ih1 _ _ _ _ _ _ _ _ _ _ _ _ _ _ _ _
      | exact attestorlaw07_leaves.mono _ _ _ _
      | exact attestorlaw07_lives.mono _
      | exact attestorref07_Equal.mono _ _ _
      | exact tree_Build.mono _ _ _ _
      | exact tree_Cap.mono _ _ _ _ _
      | exact tree_Path.mono _ _ _ _ _ _
      | exact LeO.none _
      | refine LeO.ite ?_ ?_
      | refine LeO.bind ?_ (fun _ => ?_)
theorem attestorlaw07_TreeCaps.mono : ∀ a0 a1 a2 a3 k, LeO (attestorlaw07_TreeCaps.f k a0 a1 a2 a3) (attestorlaw07_TreeCaps.f (k + 1) a0 a1 a2 a3) := by
  intro a0 a1 a2 a3 k
  obtain ⟨ih0, ih1⟩ := attestorlaw07_TreeCaps.mono_l k
  unfold attestorlaw07_TreeCaps.f
  repeat' first
      | (with_reducible exact ih0 _ _ _ _ _ _ _ _ _ _ _ _ _ _ _ _)
      | (with_reducible exact ih1 _ _ _ _ _ _ _ _ _ _ _ _ _ _ _ _)
      | (with_reducible exact attestorlaw07_leaves.mono _ _ _ _)
      | (with_reducible exact attestorlaw07_lives.mono _)
      | (with_reducible exact attestorref07_Equal.mono _ _ _)
      | (with_reducible exact tree_Build.mono _ _ _ _)
      | (with_reducible exact tree_Cap.mono _ _ _ _ _)
      | (with_reducible exact tree_Path.mono _ _ _ _ _ _)
      | (with_reducible exact LeO.refl _)
      | (with_reducible exact LeO.none _)
      | (with_reducible refine LeO.ite ?_ ?_)
      | (with_reducible refine LeO.bind ?_ (fun _ => ?_))
      | exact ih0 _ _ _ _ _ _ _ _ _ _ _ _ _ _ _ _
      | exact ih1 _ _ _ _ _ _ _ _ _ _ _ _ _ _ _ _
      | exact attestorlaw07_leaves.mono _ _ _ _
      | exact attestorlaw07_lives.mono _
      | exact attestorref07_Equal.mono _ _ _
      | exact tree_Build.mono _ _ _ _
      | exact tree_Cap.mono _ _ _ _ _
      | exact tree_Path.mono _ _ _ _ _ _
      | exact LeO.none _
      | refine LeO.ite ?_ ?_
      | refine LeO.bind ?_ (fun _ => ?_)
def attestorlaw07_TreeCaps.T7 : Bool × List (List Nat × List Nat) := (true, [([], []), ([0], [0]), ([1], [1]), ([2], [2]), ([3, 2], [2, 3]), ([2, 4], [2, 4]), ([5, 2], [5]), ([6], [6]), ([7, 6], [6, 7]), ([6, 8], [6, 8]), ([9, 6], [9]), ([10], [10]), ([11, 10, 10], [10, 11]), ([10], [10]), ([13, 12, 10], [10, 13]), ([12, 14, 14, 10], [10, 12, 14]), ([15, 10], [10, 15]), ([10, 16], [10, 16])])
def attestorlaw07_TreeCaps.B7 : List Nat := [0, 1, 3, 7, 15, 31, 63, 127, 255, 511, 1023, 2047, 4095, 2047, 16383, 32767, 65535, 131071]
theorem attestorlaw07_TreeCaps.tab7 : rtab .any (opsOf Tryd.f4 7) = attestorlaw07_TreeCaps.T7 := by kernel_rfl
theorem attestorlaw07_TreeCaps.bits7 : waitsOk attestorlaw07_TreeCaps.T7.2 attestorlaw07_TreeCaps.B7 = true := by kernel_rfl
def attestorlaw07_TreeCaps.T14 : Bool × List (List Nat × List Nat) := (true, [([], []), ([], []), ([], []), ([], []), ([2, 3], [2, 3]), ([1, 4], [1, 4]), ([0, 5], [0, 5]), ([6], [6]), ([7], [7]), ([7], [7]), ([8, 6, 0, 1, 2, 3, 4, 5, 6, 7, 8], [8]), ([9, 10, 0, 1, 2, 3, 4, 5, 6, 7, 8, 9, 10], [9])])
def attestorlaw07_TreeCaps.B14 : List Nat := [0, 0, 0, 0, 12, 30, 63, 127, 255, 255, 511, 2047]
theorem attestorlaw07_TreeCaps.tab14 : rtab .any (opsOf Tryd.f4 14) = attestorlaw07_TreeCaps.T14 := by kernel_rfl
theorem attestorlaw07_TreeCaps.bits14 : waitsOk attestorlaw07_TreeCaps.T14.2 attestorlaw07_TreeCaps.B14 = true := by kernel_rfl
set_option maxHeartbeats 8000000 in
set_option maxRecDepth 100000 in
theorem attestorlaw07_TreeCaps.calls (k : Nat) (a0 : Int) (a1 : Int) (a2 : Int) (A3 : Option Addr) (c3 : Nat) (l3 : List Int) (r : Bool) (w : World) (hr3 : Kd.C (Kd.int .u64) w A3 l3.length l3) (hc3 : l3.length ≤ c3) (hrG : GL w) (h : attestorlaw07_TreeCaps.f k a0 a1 a2 l3 = some r) :
  Calls Tryd.prog 4 #[.int .u8 a0, .int .u8 a1, .int .u8 a2, .slice A3 l3.length c3] w fun e w' => e = .returned (.bool r) ∧ Below w.heap.size w w' := by
 have hu26 := Tryd.underlying26
 have HRG := Aside0.mk hrG
 clear hrG
 have HR3 := Aside0.mk hr3
 have HC3 := Aside0.mk hc3
 clear hr3 hc3
 have HB := Aside0.mk (Below.refl w.heap.size w)
 have H : (if (wrap64 ((wrap64 (Int.tmod a1 6)) + 1)) = 0 then (none) else ((attestorlaw07_leaves.f k (wrap64 (Int.tmod a0 4)) (wrap64 (Int.tmod a1 6)) l3).bind fun t668 => ((tree_Build.f k (wrap64 (Int.tmod a0 4)) t668 0).bind fun bt671 => ((tree_Build.f k (wrap64 (Int.tmod a0 4)) t668 (Int.tmod (wrap64 (a2)) (wrap64 ((wrap64 (Int.tmod a1 6)) + 1)))).bind fun bt679 => ((tree_Cap.f k bt679.1 bt679.2.1 bt679.2.2.1 bt679.2.2.2.1).bind fun t687 => ((tree_Build.f k (wrap64 (Int.tmod a0 4)) t687 0).bind fun bt690 => (if bt671.2.2.2.2 = 0 then (if bt679.2.2.2.2 = 0 then (if bt690.2.2.2.2 = 0 then ((tree_Cap.f k bt671.1 bt671.2.1 bt671.2.2.1 bt671.2.2.2.1).bind fun t698 => ((tree_Cap.f k bt690.1 bt690.2.1 bt690.2.2.1 bt690.2.2.2.1).bind fun t701 => ((attestorref07_Equal.f k t698 t701).bind fun t704 => (attestorlaw07_TreeCaps.j0 k (wrap64 (Int.tmod a1 6)) (Int.tmod (wrap64 (a2)) (wrap64 ((wrap64 (Int.tmod a1 6)) + 1))) t668 (!t704) bt671.1 bt671.2.1 bt671.2.2.1 bt671.2.2.2.1 bt679.1 bt679.2.1 bt679.2.2.1 bt679.2.2.2.1 bt690.1 bt690.2.1 bt690.2.2.1 bt690.2.2.2.1)))) else (none)) else (none)) else (none)))))))) = some r := h
 clear h
 by_cases c5 : (wrap64 ((wrap64 (Int.tmod a1 6)) + 1)) = 0
 ·rw [if_pos c5] at H
  exact absurd H (by simp)
 ·rw [if_neg c5] at H
  have c5b0 : ((wrap64 ((wrap64 (Int.tmod a1 6)) + 1)) == 0) = false := beq_eq_false_iff_ne.mpr c5
  have c5b1 : ((wrap64 ((wrap64 (Int.tmod a1 6)) + 1)) != 0) = true := bne_iff_ne.mpr c5
  replace H := Option.bind_eq_some_iff.mp H
  obtain ⟨t668, A60, H⟩ := H
  have A6 := Aside0.mk A60
  clear A60
  replace H := Option.bind_eq_some_iff.mp H
  obtain ⟨⟨t671, t672, t673, t674, t677⟩, A70, H⟩ := H
  replace H : ((tree_Build.f k (wrap64 (Int.tmod a0 4)) t668 (Int.tmod (wrap64 (a2)) (wrap64 ((wrap64 (Int.tmod a1 6)) + 1)))).bind fun bt679 => ((tree_Cap.f k bt679.1 bt679.2.1 bt679.2.2.1 bt679.2.2.2.1).bind fun t687 => ((tree_Build.f k (wrap64 (Int.tmod a0 4)) t687 0).bind fun bt690 => (if t677 = 0 then (if bt679.2.2.2.2 = 0 then (if bt690.2.2.2.2 = 0 then ((tree_Cap.f k t671 t672 t673 t674).bind fun t698 => ((tree_Cap.f k bt690.1 bt690.2.1 bt690.2.2.1 bt690.2.2.2.1).bind fun t701 => ((attestorref07_Equal.f k t698 t701).bind fun t704 => (attestorlaw07_TreeCaps.j0 k (wrap64 (Int.tmod a1 6)) (Int.tmod (wrap64 (a2)) (wrap64 ((wrap64 (Int.tmod a1 6)) + 1))) t668 (!t704) t671 t672 t673 t674 bt679.1 bt679.2.1 bt679.2.2.1 bt679.2.2.2.1 bt690.1 bt690.2.1 bt690.2.2.1 bt690.2.2.2.1)))) else (none)) else (none)) else (none))))) = some r := H
  have A7 := Aside0.mk A70
  clear A70
  replace H := Option.bind_eq_some_iff.mp H
  obtain ⟨⟨t679, t680, t681, t682, t685⟩, A80, H⟩ := H
  replace H : ((tree_Cap.f k t679 t680 t681 t682).bind fun t687 => ((tree_Build.f k (wrap64 (Int.tmod a0 4)) t687 0).bind fun bt690 => (if t677 = 0 then (if t685 = 0 then (if bt690.2.2.2.2 = 0 then ((tree_Cap.f k t671 t672 t673 t674).bind fun t698 => ((tree_Cap.f k bt690.1 bt690.2.1 bt690.2.2.1 bt690.2.2.2.1).bind fun t701 => ((attestorref07_Equal.f k t698 t701).bind fun t704 => (attestorlaw07_TreeCaps.j0 k (wrap64 (Int.tmod a1 6)) (Int.tmod (wrap64 (a2)) (wrap64 ((wrap64 (Int.tmod a1 6)) + 1))) t668 (!t704) t671 t672 t673 t674 t679 t680 t681 t682 bt690.1 bt690.2.1 bt690.2.2.1 bt690.2.2.2.1)))) else (none)) else (none)) else (none)))) = some r := H
  have A8 := Aside0.mk A80
  clear A80
  replace H := Option.bind_eq_some_iff.mp H
  obtain ⟨t687, A90, H⟩ := H
  have A9 := Aside0.mk A90
  clear A90
  replace H := Option.bind_eq_some_iff.mp H
  obtain ⟨⟨t690, t691, t692, t693, t696⟩, A100, H⟩ := H
  replace H : (if t677 = 0 then (if t685 = 0 then (if t696 = 0 then ((tree_Cap.f k t671 t672 t673 t674).bind fun t698 => ((tree_Cap.f k t690 t691 t692 t693).bind fun t701 => ((attestorref07_Equal.f k t698 t701).bind fun t704 => (attestorlaw07_TreeCaps.j0 k (wrap64 (Int.tmod a1 6)) (Int.tmod (wrap64 (a2)) (wrap64 ((wrap64 (Int.tmod a1 6)) + 1))) t668 (!t704) t671 t672 t673 t674 t679 t680 t681 t682 t690 t691 t692 t693)))) else (none)) else (none)) else (none)) = some r := H
  have A10 := Aside0.mk A100
  clear A100
  have HC11 := Aside0.mk H
  clear H
  go_enter Tryd.func4, Tryd.ntmps4
  go_upto_region 7 with (first | ((with_reducible refine gate_callee (f := 22) rfl ?_); refine goesL_ (some 40) rfl rfl Tryd.func22 (by kernel_rfl) rfl #[.int .i64 (wrap64 (Int.tmod a0 4)), .int .i64 (wrap64 (Int.tmod a1 6)), .slice A3 l3.length c3] rfl (by (try simp only [List.map_toArray, List.map_cons, List.map_nil]); first | done | rfl | (go_simp; done)) ?_; (with_reducible refine (attestorlaw07_leaves.calls k (wrap64 (Int.tmod a0 4)) (wrap64 (Int.tmod a1 6)) _ _ l3 t668 _ ?side1 ?side2 A6.out).mono ?_); (case side1 => repeat (first | exact HR3.out | (with_reducible refine Kd.C_alloc ?_ _) | (with_reducible refine Kd.C_drewN ?_ _) | (with_reducible refine Kd.C_drew ?_))); (case side2 => exact HC3.out); rintro e w12 ⟨v669, rfl, ho0, hb⟩; refine ⟨_, rfl, ?_⟩; have n0_ := Aside0.mk (Kd.R_lower ho0 (below_size (by repeat (first | (with_reducible first | exact HB.out | apply below_alloc | apply pw_below_drewN | apply below_drew1) | exact HB.out)))); have n1_ := Aside0.mk (below_step (by repeat (first | (with_reducible first | exact HB.out | apply below_alloc | apply pw_below_drewN | apply below_drew1) | exact HB.out)) hb); clear HB; have HO670 := n0_; have HB := n1_; clear n0_ n1_; (try clear hb); (try clear hb2); (try clear hk); (try clear hi); (try clear ho0); obtain ⟨Ao13, co13, eo13⟩ := Kd.R_slice HO670.out; subst eo13) | ((with_reducible refine gate_callee (f := 13) rfl ?_); refine goesL_ (some 44) rfl rfl Tryd.func13 (by kernel_rfl) rfl #[.int .i64 (wrap64 (Int.tmod a0 4)), .slice Ao13 t668.length co13, .int .i64 0] rfl (by (try simp only [List.map_toArray, List.map_cons, List.map_nil]); first | done | rfl | (go_simp; done)) ?_; (with_reducible refine (tree_Build.calls k (wrap64 (Int.tmod a0 4)) _ _ t668 0 t671 t672 t673 t674 t677 _ ?side1 ?side2 ?side3 A7.out).mono ?_); (case side1 => repeat (first | exact (Kd.R_reads' HO670.out).2.2 | (with_reducible refine Kd.C_alloc ?_ _) | (with_reducible refine Kd.C_drewN ?_ _) | (with_reducible refine Kd.C_drew ?_))); (case side2 => exact (Kd.R_reads' HO670.out).2.1); (case side3 => repeat (first | exact (GL.below HRG.out HB.out) | (with_reducible refine GL.alloc ?_ _) | (with_reducible refine GL.drewN ?_ _) | (with_reducible refine GL.drew ?_))); rintro e w14 ⟨v675, rfl, ho0, hb⟩; refine ⟨_, rfl, ?_⟩; have n0_ := Aside0.mk (Kd.R_below (by (with_reducible repeat (first | apply Kd.R_alloc | apply Kd.R_drewN | apply Kd.R_drew)); exact HO670.out) hb); have n1_ := Aside0.mk (Kd.S_lower (Kd.S_new' ho0 (Kd.R_lt (by (with_reducible repeat (first | apply Kd.R_alloc | apply Kd.R_drewN | apply Kd.R_drew)); exact HO670.out))) (below_size (by repeat (first | (with_reducible first | exact HB.out | apply below_alloc | apply pw_below_drewN | apply below_drew1) | exact HB.out)))); have n2_ := Aside0.mk (below_step (by repeat (first | (with_reducible first | exact HB.out | apply below_alloc | apply pw_below_drewN | apply below_drew1) | exact HB.out)) hb); clear HO670; clear HB; have HO670 := n0_; have HO676 := n1_; have HB := n2_; clear n0_ n1_ n2_; (try clear hb); (try clear hb2); (try clear hk); (try clear hi); (try clear ho0)) | ((with_reducible refine gate_dst (N := 13) rfl ?_); refine box_event ?hg (N := 13) ?hd (cs := #[.int .i64 0, .int .i64 0, .int .i64 0, .slice none 0 0]) (t := 26) ?hr ?_; (case hd => rfl); (case hg => rfl); (case hr => first | (go_simp; done) | (go_simp; rfl)); intro g678 hg w15 hbox hb; have n0_ := Aside0.mk (Kd.R_below (by (with_reducible repeat (first | apply Kd.R_alloc | apply Kd.R_drewN | apply Kd.R_drew)); exact HO670.out) hb); have n1_ := Aside0.mk (Kd.S_below (by (with_reducible repeat (first | apply Kd.S_alloc | apply Kd.S_drewN | apply Kd.S_drew)); exact HO676.out) hb); have n2_ := Aside0.mk (below_step (by repeat (first | (with_reducible first | exact HB.out | apply below_alloc | apply pw_below_drewN | apply below_drew1) | exact HB.out)) hb); have n3_ := Aside0.mk (hbox); have n4_ := Aside0.mk ((by rw [hg]; exact (below_size (by repeat (first | (with_reducible first | exact HB.out | apply below_alloc | apply pw_below_drewN | apply below_drew1) | exact HB.out))) : w.heap.size ≤ g678)); have n5_ := Aside0.mk ((by rw [hg]; exact (below_size (by repeat (first | (with_reducible first | exact HB.out | apply below_alloc | apply pw_below_drewN | apply below_drew1) | exact HB.out))) : w.heap.size ≤ g678)); clear HO670; clear HO676; clear HB; have HO670 := n0_; have HO676 := n1_; have HB := n2_; have B678 := n3_; have GW678 := n4_; have GE678 := n5_; clear n0_ n1_ n2_ n3_ n4_ n5_; clear hb hbox hg; have hcz16_0 : w15.cell? ⟨g678, 0, none⟩ = some (.int .i64 0) := bq_ B678 0; have hcz16_1 : w15.cell? ⟨g678, 1, none⟩ = some (.int .i64 0) := bq_ B678 1; have hcz16_2 : w15.cell? ⟨g678, 2, none⟩ = some (.int .i64 0) := bq_ B678 2; have hcz16_3 : w15.cell? ⟨g678, 3, none⟩ = some (.slice none 0 0) := bq_ B678 3; have hfz16_0 := blk_frozen B678.out 0; have hfz16_1 := blk_frozen B678.out 1; have hfz16_2 := blk_frozen B678.out 2; have hfz16_3 := blk_frozen B678.out 3; obtain ⟨Ao17, co17, eo17⟩ := Kd.S_slice HO676.out; subst eo17) | ((with_reducible refine gate_callee (f := 13) rfl ?_); refine goesL_ (some 51) rfl rfl Tryd.func13 (by kernel_rfl) rfl #[.int .i64 (wrap64 (Int.tmod a0 4)), .slice Ao13 t668.length co13, .int .i64 (Int.tmod (wrap64 (a2)) (wrap64 ((wrap64 (Int.tmod a1 6)) + 1)))] rfl (by (try simp only [List.map_toArray, List.map_cons, List.map_nil]); first | done | rfl | (go_simp; done)) ?_; (with_reducible refine (tree_Build.calls k (wrap64 (Int.tmod a0 4)) _ _ t668 (Int.tmod (wrap64 (a2)) (wrap64 ((wrap64 (Int.tmod a1 6)) + 1))) t679 t680 t681 t682 t685 _ ?side1 ?side2 ?side3 A8.out).mono ?_); (case side1 => refine (Kd.R_reads' (e := 36) (base := w.heap.size) (ok := fun k_ => True) (n := t668.length) (c := co13) ?_).2.2; exact (by (with_reducible repeat (first | apply Kd.R_alloc | apply Kd.R_drewN | apply Kd.R_drew)); exact (Kd.R_mono (Kd.R_far (p := ⟨g678, 3, none⟩) (Kd.R_far (p := ⟨g678, 2, none⟩) (Kd.R_far (p := ⟨g678, 1, none⟩) (Kd.R_far (p := ⟨g678, 0, none⟩) (Kd.R_types HO670.out B678.out (by decide)) (fun _ hk => hk.2) (.int .i64 t671)) (fun _ hk => hk.2) (.int .i64 t672)) (fun _ hk => hk.2) (.int .i64 t673)) (fun _ hk => hk.2) (.slice Ao17 t674.length co17)) (fun _ h_ => h_.1)))); (case side2 => exact (Kd.R_reads' HO670.out).2.1); (case side3 => exact GL.below HRG.out (by repeat (first | (with_reducible first | exact HB.out | apply below_alloc | apply pw_below_drewN | apply below_drew1 | refine below_set ?_ GE678.out) | exact HB.out))); rintro e w18 ⟨v683, rfl, ho0, hb⟩; refine ⟨_, rfl, ?_⟩; have n0_ := Aside0.mk (Kd.R_below (by (with_reducible repeat (first | apply Kd.R_alloc | apply Kd.R_drewN | apply Kd.R_drew)); exact (Kd.R_mono (Kd.R_far (p := ⟨g678, 3, none⟩) (Kd.R_far (p := ⟨g678, 2, none⟩) (Kd.R_far (p := ⟨g678, 1, none⟩) (Kd.R_far (p := ⟨g678, 0, none⟩) (Kd.R_types HO670.out B678.out (by decide)) (fun _ hk => hk.2) (.int .i64 t671)) (fun _ hk => hk.2) (.int .i64 t672)) (fun _ hk => hk.2) (.int .i64 t673)) (fun _ hk => hk.2) (.slice Ao17 t674.length co17)) (fun _ h_ => h_.1))) hb); have n1_ := Aside0.mk (Kd.S_elder' (by (with_reducible repeat (first | apply Kd.S_alloc | apply Kd.S_drewN | apply Kd.S_drew)); exact (Kd.S_mono (Kd.S_far (p := ⟨g678, 3, none⟩) (Kd.S_far (p := ⟨g678, 2, none⟩) (Kd.S_far (p := ⟨g678, 1, none⟩) (Kd.S_far (p := ⟨g678, 0, none⟩) (Kd.S_types HO676.out B678.out (by decide)) (fun _ hk => hk.2) (.int .i64 t671)) (fun _ hk => hk.2) (.int .i64 t672)) (fun _ hk => hk.2) (.int .i64 t673)) (fun _ hk => hk.2) (.slice Ao17 t674.length co17)) (fun _ h_ => h_.1))) (Kd.S_base ho0) hb); have n2_ := Aside0.mk (Kd.S_lower (Kd.S_new' (Kd.S_new' ho0 (Kd.R_lt (by (with_reducible repeat (first | apply Kd.R_alloc | apply Kd.R_drewN | apply Kd.R_drew)); exact (Kd.R_mono (Kd.R_far (p := ⟨g678, 3, none⟩) (Kd.R_far (p := ⟨g678, 2, none⟩) (Kd.R_far (p := ⟨g678, 1, none⟩) (Kd.R_far (p := ⟨g678, 0, none⟩) (Kd.R_types HO670.out B678.out (by decide)) (fun _ hk => hk.2) (.int .i64 t671)) (fun _ hk => hk.2) (.int .i64 t672)) (fun _ hk => hk.2) (.int .i64 t673)) (fun _ hk => hk.2) (.slice Ao17 t674.length co17)) (fun _ h_ => h_.1))))) (Kd.S_lt (by (with_reducible repeat (first | apply Kd.S_alloc | apply Kd.S_drewN | apply Kd.S_drew)); exact (Kd.S_mono (Kd.S_far (p := ⟨g678, 3, none⟩) (Kd.S_far (p := ⟨g678, 2, none⟩) (Kd.S_far (p := ⟨g678, 1, none⟩) (Kd.S_far (p := ⟨g678, 0, none⟩) (Kd.S_types HO676.out B678.out (by decide)) (fun _ hk => hk.2) (.int .i64 t671)) (fun _ hk => hk.2) (.int .i64 t672)) (fun _ hk => hk.2) (.int .i64 t673)) (fun _ hk => hk.2) (.slice Ao17 t674.length co17)) (fun _ h_ => h_.1))))) (below_size (by repeat (first | (with_reducible first | exact HB.out | apply below_alloc | apply pw_below_drewN | apply below_drew1 | refine below_set ?_ GE678.out) | exact HB.out)))); have n3_ := Aside0.mk (blk_below (g := g678) (o := .cells #[.int .i64 t671, .int .i64 t672, .int .i64 t673, .slice Ao17 t674.length co17] 26 (0, 0)) (by refine blk_put (cs := #[.int .i64 t671, .int .i64 t672, .int .i64 t673, .slice none 0 0]) ?_ 3 _ rfl; refine blk_put (cs := #[.int .i64 t671, .int .i64 t672, .int .i64 0, .slice none 0 0]) ?_ 2 _ rfl; refine blk_put (cs := #[.int .i64 t671, .int .i64 0, .int .i64 0, .slice none 0 0]) ?_ 1 _ rfl; refine blk_put (cs := #[.int .i64 0, .int .i64 0, .int .i64 0, .slice none 0 0]) ?_ 0 _ rfl; exact B678.out) hb); have n4_ := Aside0.mk (below_step (by repeat (first | (with_reducible first | exact HB.out | apply below_alloc | apply pw_below_drewN | apply below_drew1 | refine below_set ?_ GE678.out) | exact HB.out)) hb); clear HO670; clear HO676; clear B678; clear HB; have HO670 := n0_; have HO676 := n1_; have HO684 := n2_; have B678 := n3_; have HB := n4_; clear n0_ n1_ n2_ n3_ n4_; (try clear hb); (try clear hb2); (try clear hk); (try clear hi); (try clear ho0)) | ((with_reducible refine gate_dst (N := 15) rfl ?_); refine box_event ?hg (N := 15) ?hd (cs := #[.int .i64 0, .int .i64 0, .int .i64 0, .slice none 0 0]) (t := 26) ?hr ?_; (case hd => rfl); (case hg => rfl); (case hr => first | (go_simp; done) | (go_simp; rfl)); intro g686 hg w19 hbox hb; have n0_ := Aside0.mk (Kd.R_below (by (with_reducible repeat (first | apply Kd.R_alloc | apply Kd.R_drewN | apply Kd.R_drew)); exact HO670.out) hb); have n1_ := Aside0.mk (Kd.S_below (by (with_reducible repeat (first | apply Kd.S_alloc | apply Kd.S_drewN | apply Kd.S_drew)); exact HO676.out) hb); have n2_ := Aside0.mk (Kd.S_below (by (with_reducible repeat (first | apply Kd.S_alloc | apply Kd.S_drewN | apply Kd.S_drew)); exact HO684.out) hb); have n3_ := Aside0.mk (blk_below (g := g678) (o := .cells #[.int .i64 t671, .int .i64 t672, .int .i64 t673, .slice Ao17 t674.length co17] 26 (0, 0)) (by exact B678.out) hb); have n4_ := Aside0.mk (below_step (by repeat (first | (with_reducible first | exact HB.out | apply below_alloc | apply pw_below_drewN | apply below_drew1 | refine below_set ?_ GE678.out) | exact HB.out)) hb); have n5_ := Aside0.mk (hbox); have n6_ := Aside0.mk ((by rw [hg]; exact (below_size (by repeat (first | (with_reducible first | exact HB.out | apply below_alloc | apply pw_below_drewN | apply below_drew1 | refine below_set ?_ GE678.out) | exact HB.out))) : w.heap.size ≤ g686)); have n7_ := Aside0.mk ((by rw [hg]; exact (below_size (by repeat (first | (with_reducible first | exact HB.out | apply below_alloc | apply pw_below_drewN | apply below_drew1 | refine below_set ?_ GE678.out) | exact HB.out))) : w.heap.size ≤ g686)); have n8_ := Aside0.mk ((by rw [hg]; exact Nat.ne_of_lt (blk_lt (g := g678) (o := .cells #[.int .i64 t671, .int .i64 t672, .int .i64 t673, .slice Ao17 t674.length co17] 26 (0, 0)) (by exact B678.out)) : g678 ≠ g686)); have n9_ := Aside0.mk ((by rw [hg]; exact Nat.ne_of_gt (blk_lt (g := g678) (o := .cells #[.int .i64 t671, .int .i64 t672, .int .i64 t673, .slice Ao17 t674.length co17] 26 (0, 0)) (by exact B678.out)) : g686 ≠ g678)); clear HO670; clear HO676; clear HO684; clear B678; clear HB; have HO670 := n0_; have HO676 := n1_; have HO684 := n2_; have B678 := n3_; have HB := n4_; have B686 := n5_; have GW686 := n6_; have GE686 := n7_; have NB678_686 := n8_; have NB686_678 := n9_; clear n0_ n1_ n2_ n3_ n4_ n5_ n6_ n7_ n8_ n9_; clear hb hbox hg; have hnb20 := NB686_678.out; have hnc20 := NB678_686.out; have hcz21_0 : w19.cell? ⟨g686, 0, none⟩ = some (.int .i64 0) := bq_ B686 0; have hcz21_1 : w19.cell? ⟨g686, 1, none⟩ = some (.int .i64 0) := bq_ B686 1; have hcz21_2 : w19.cell? ⟨g686, 2, none⟩ = some (.int .i64 0) := bq_ B686 2; have hcz21_3 : w19.cell? ⟨g686, 3, none⟩ = some (.slice none 0 0) := bq_ B686 3; have hfz21_0 := blk_frozen B686.out 0; have hfz21_1 := blk_frozen B686.out 1; have hfz21_2 := blk_frozen B686.out 2; have hfz21_3 := blk_frozen B686.out 3; obtain ⟨Ao22, co22, eo22⟩ := Kd.S_slice HO684.out; subst eo22) | ((with_reducible refine gate_callee (f := 19) rfl ?_); refine goesL_ (some 57) rfl rfl Tryd.func19 (by kernel_rfl) rfl #[.agg #[.int .i64 t679, .int .i64 t680, .int .i64 t681, .slice Ao22 t682.length co22]] rfl (by (try simp only [List.map_toArray, List.map_cons, List.map_nil]); first | done | rfl | (go_simp; done)) ?_; (with_reducible refine (tree_Cap.calls k t679 t680 t681 _ _ t682 t687 _ ?side1 ?side2 ?side3 A9.out).mono ?_); (case side1 => refine (Kd.S_reads' (e := 22) (base := w.heap.size) (ok := fun k_ => ((True ∧ some k_ ≠ (.slice Ao13 t668.length co13 : Value).ownBlock) ∧ some k_ ≠ (.slice Ao17 t674.length co17 : Value).ownBlock)) (n := t682.length) (c := co22) ?_).2.2; exact (by (with_reducible repeat (first | apply Kd.S_alloc | apply Kd.S_drewN | apply Kd.S_drew)); exact (Kd.S_mono (Kd.S_far (p := ⟨g686, 3, none⟩) (Kd.S_far (p := ⟨g686, 2, none⟩) (Kd.S_far (p := ⟨g686, 1, none⟩) (Kd.S_far (p := ⟨g686, 0, none⟩) (Kd.S_types HO684.out B686.out (by decide)) (fun _ hk => hk.2) (.int .i64 t679)) (fun _ hk => hk.2) (.int .i64 t680)) (fun _ hk => hk.2) (.int .i64 t681)) (fun _ hk => hk.2) (.slice Ao22 t682.length co22)) (fun _ h_ => h_.1)))); (case side2 => exact (Kd.S_reads' HO684.out).2.1); (case side3 => exact GL.below HRG.out (by repeat (first | (with_reducible first | exact HB.out | apply below_alloc | apply pw_below_drewN | apply below_drew1 | refine below_set ?_ GE678.out | refine below_set ?_ GE686.out) | exact HB.out))); rintro e w23 ⟨v688, rfl, ho0, hb⟩; refine ⟨_, rfl, ?_⟩; have n0_ := Aside0.mk (Kd.R_elder' (by (with_reducible repeat (first | apply Kd.R_alloc | apply Kd.R_drewN | apply Kd.R_drew)); exact (Kd.R_mono (Kd.R_far (p := ⟨g686, 3, none⟩) (Kd.R_far (p := ⟨g686, 2, none⟩) (Kd.R_far (p := ⟨g686, 1, none⟩) (Kd.R_far (p := ⟨g686, 0, none⟩) (Kd.R_types HO670.out B686.out (by decide)) (fun _ hk => hk.2) (.int .i64 t679)) (fun _ hk => hk.2) (.int .i64 t680)) (fun _ hk => hk.2) (.int .i64 t681)) (fun _ hk => hk.2) (.slice Ao22 t682.length co22)) (fun _ h_ => h_.1))) (Kd.R_base ho0) hb); have n1_ := Aside0.mk (Kd.S_elder' (by (with_reducible repeat (first | apply Kd.S_alloc | apply Kd.S_drewN | apply Kd.S_drew)); exact (Kd.S_mono (Kd.S_far (p := ⟨g686, 3, none⟩) (Kd.S_far (p := ⟨g686, 2, none⟩) (Kd.S_far (p := ⟨g686, 1, none⟩) (Kd.S_far (p := ⟨g686, 0, none⟩) (Kd.S_types HO676.out B686.out (by decide)) (fun _ hk => hk.2) (.int .i64 t679)) (fun _ hk => hk.2) (.int .i64 t680)) (fun _ hk => hk.2) (.int .i64 t681)) (fun _ hk => hk.2) (.slice Ao22 t682.length co22)) (fun _ h_ => h_.1))) (Kd.R_base ho0) hb); have n2_ := Aside0.mk (Kd.S_elder' (by (with_reducible repeat (first | apply Kd.S_alloc | apply Kd.S_drewN | apply Kd.S_drew)); exact (Kd.S_mono (Kd.S_far (p := ⟨g686, 3, none⟩) (Kd.S_far (p := ⟨g686, 2, none⟩) (Kd.S_far (p := ⟨g686, 1, none⟩) (Kd.S_far (p := ⟨g686, 0, none⟩) (Kd.S_types HO684.out B686.out (by decide)) (fun _ hk => hk.2) (.int .i64 t679)) (fun _ hk => hk.2) (.int .i64 t680)) (fun _ hk => hk.2) (.int .i64 t681)) (fun _ hk => hk.2) (.slice Ao22 t682.length co22)) (fun _ h_ => h_.1))) (Kd.R_base ho0) hb); have n3_ := Aside0.mk (Kd.R_lower (Kd.R_new' ho0 (Kd.R_lt (by (with_reducible repeat (first | apply Kd.R_alloc | apply Kd.R_drewN | apply Kd.R_drew)); exact (Kd.R_mono (Kd.R_far (p := ⟨g686, 3, none⟩) (Kd.R_far (p := ⟨g686, 2, none⟩) (Kd.R_far (p := ⟨g686, 1, none⟩) (Kd.R_far (p := ⟨g686, 0, none⟩) (Kd.R_types HO670.out B686.out (by decide)) (fun _ hk => hk.2) (.int .i64 t679)) (fun _ hk => hk.2) (.int .i64 t680)) (fun _ hk => hk.2) (.int .i64 t681)) (fun _ hk => hk.2) (.slice Ao22 t682.length co22)) (fun _ h_ => h_.1))))) (below_size (by repeat (first | (with_reducible first | exact HB.out | apply below_alloc | apply pw_below_drewN | apply below_drew1 | refine below_set ?_ GE678.out | refine below_set ?_ GE686.out) | exact HB.out)))); have n4_ := Aside0.mk (blk_below (g := g678) (o := .cells #[.int .i64 t671, .int .i64 t672, .int .i64 t673, .slice Ao17 t674.length co17] 26 (0, 0)) (by refine blk_far ?_ NB678_686.out _; refine blk_far ?_ NB678_686.out _; refine blk_far ?_ NB678_686.out _; refine blk_far ?_ NB678_686.out _; exact B678.out) hb); have n5_ := Aside0.mk (blk_below (g := g686) (o := .cells #[.int .i64 t679, .int .i64 t680, .int .i64 t681, .slice Ao22 t682.length co22] 26 (0, 0)) (by refine blk_put (cs := #[.int .i64 t679, .int .i64 t680, .int .i64 t681, .slice none 0 0]) ?_ 3 _ rfl; refine blk_put (cs := #[.int .i64 t679, .int .i64 t680, .int .i64 0, .slice none 0 0]) ?_ 2 _ rfl; refine blk_put (cs := #[.int .i64 t679, .int .i64 0, .int .i64 0, .slice none 0 0]) ?_ 1 _ rfl; refine blk_put (cs := #[.int .i64 0, .int .i64 0, .int .i64 0, .slice none 0 0]) ?_ 0 _ rfl; exact B686.out) hb); have n6_ := Aside0.mk (below_step (by repeat (first | (with_reducible first | exact HB.out | apply below_alloc | apply pw_below_drewN | apply below_drew1 | refine below_set ?_ GE678.out | refine below_set ?_ GE686.out) | exact HB.out)) hb); clear HO670; clear HO676; clear HO684; clear B678; clear B686; clear HB; have HO670 := n0_; have HO676 := n1_; have HO684 := n2_; have HO689 := n3_; have B678 := n4_; have B686 := n5_; have HB := n6_; clear n0_ n1_ n2_ n3_ n4_ n5_ n6_; (try clear hb); (try clear hb2); (try clear hk); (try clear hi); (try clear ho0); obtain ⟨Ao24, co24, eo24⟩ := Kd.R_slice HO689.out; subst eo24) | ((with_reducible refine gate_callee (f := 13) rfl ?_); refine goesL_ (some 58) rfl rfl Tryd.func13 (by kernel_rfl) rfl #[.int .i64 (wrap64 (Int.tmod a0 4)), .slice Ao24 t687.length co24, .int .i64 0] rfl (by (try simp only [List.map_toArray, List.map_cons, List.map_nil]); first | done | rfl | (go_simp; done)) ?_; (with_reducible refine (tree_Build.calls k (wrap64 (Int.tmod a0 4)) _ _ t687 0 t690 t691 t692 t693 t696 _ ?side1 ?side2 ?side3 A10.out).mono ?_); (case side1 => repeat (first | exact (Kd.R_reads' HO689.out).2.2 | (with_reducible refine Kd.C_alloc ?_ _) | (with_reducible refine Kd.C_drewN ?_ _) | (with_reducible refine Kd.C_drew ?_))); (case side2 => exact (Kd.R_reads' HO689.out).2.1); (case side3 => repeat (first | exact (GL.below HRG.out HB.out) | (with_reducible refine GL.alloc ?_ _) | (with_reducible refine GL.drewN ?_ _) | (with_reducible refine GL.drew ?_))); rintro e w25 ⟨v694, rfl, ho0, hb⟩; refine ⟨_, rfl, ?_⟩; have n0_ := Aside0.mk (Kd.R_below (by (with_reducible repeat (first | apply Kd.R_alloc | apply Kd.R_drewN | apply Kd.R_drew)); exact HO670.out) hb); have n1_ := Aside0.mk (Kd.S_elder' (by (with_reducible repeat (first | apply Kd.S_alloc | apply Kd.S_drewN | apply Kd.S_drew)); exact HO676.out) (Kd.S_base ho0) hb); have n2_ := Aside0.mk (Kd.S_elder' (by (with_reducible repeat (first | apply Kd.S_alloc | apply Kd.S_drewN | apply Kd.S_drew)); exact HO684.out) (Kd.S_base ho0) hb); have n3_ := Aside0.mk (Kd.R_below (by (with_reducible repeat (first | apply Kd.R_alloc | apply Kd.R_drewN | apply Kd.R_drew)); exact HO689.out) hb); have n4_ := Aside0.mk (Kd.S_lower (Kd.S_new' (Kd.S_new' (Kd.S_new' (Kd.S_new' ho0 (Kd.R_lt (by (with_reducible repeat (first | apply Kd.R_alloc | apply Kd.R_drewN | apply Kd.R_drew)); exact HO670.out))) (Kd.S_lt (by (with_reducible repeat (first | apply Kd.S_alloc | apply Kd.S_drewN | apply Kd.S_drew)); exact HO676.out))) (Kd.S_lt (by (with_reducible repeat (first | apply Kd.S_alloc | apply Kd.S_drewN | apply Kd.S_drew)); exact HO684.out))) (Kd.R_lt (by (with_reducible repeat (first | apply Kd.R_alloc | apply Kd.R_drewN | apply Kd.R_drew)); exact HO689.out))) (below_size (by repeat (first | (with_reducible first | exact HB.out | apply below_alloc | apply pw_below_drewN | apply below_drew1 | refine below_set ?_ GE678.out | refine below_set ?_ GE686.out) | exact HB.out)))); have n5_ := Aside0.mk (blk_below (g := g678) (o := .cells #[.int .i64 t671, .int .i64 t672, .int .i64 t673, .slice Ao17 t674.length co17] 26 (0, 0)) (by exact B678.out) hb); have n6_ := Aside0.mk (blk_below (g := g686) (o := .cells #[.int .i64 t679, .int .i64 t680, .int .i64 t681, .slice Ao22 t682.length co22] 26 (0, 0)) (by exact B686.out) hb); have n7_ := Aside0.mk (below_step (by repeat (first | (with_reducible first | exact HB.out | apply below_alloc | apply pw_below_drewN | apply below_drew1 | refine below_set ?_ GE678.out | refine below_set ?_ GE686.out) | exact HB.out)) hb); clear HO670; clear HO676; clear HO684; clear HO689; clear B678; clear B686; clear HB; have HO670 := n0_; have HO676 := n1_; have HO684 := n2_; have HO689 := n3_; have HO695 := n4_; have B678 := n5_; have B686 := n6_; have HB := n7_; clear n0_ n1_ n2_ n3_ n4_ n5_ n6_ n7_; (try clear hb); (try clear hb2); (try clear hk); (try clear hi); (try clear ho0)) | ((with_reducible refine gate_dst (N := 17) rfl ?_); refine box_event ?hg (N := 17) ?hd (cs := #[.int .i64 0, .int .i64 0, .int .i64 0, .slice none 0 0]) (t := 26) ?hr ?_; (case hd => rfl); (case hg => rfl); (case hr => first | (go_simp; done) | (go_simp; rfl)); intro g697 hg w26 hbox hb; have n0_ := Aside0.mk (Kd.R_below (by (with_reducible repeat (first | apply Kd.R_alloc | apply Kd.R_drewN | apply Kd.R_drew)); exact HO670.out) hb); have n1_ := Aside0.mk (Kd.S_below (by (with_reducible repeat (first | apply Kd.S_alloc | apply Kd.S_drewN | apply Kd.S_drew)); exact HO676.out) hb); have n2_ := Aside0.mk (Kd.S_below (by (with_reducible repeat (first | apply Kd.S_alloc | apply Kd.S_drewN | apply Kd.S_drew)); exact HO684.out) hb); have n3_ := Aside0.mk (Kd.R_below (by (with_reducible repeat (first | apply Kd.R_alloc | apply Kd.R_drewN | apply Kd.R_drew)); exact HO689.out) hb); have n4_ := Aside0.mk (Kd.S_below (by (with_reducible repeat (first | apply Kd.S_alloc | apply Kd.S_drewN | apply Kd.S_drew)); exact HO695.out) hb); have n5_ := Aside0.mk (blk_below (g := g678) (o := .cells #[.int .i64 t671, .int .i64 t672, .int .i64 t673, .slice Ao17 t674.length co17] 26 (0, 0)) (by exact B678.out) hb); have n6_ := Aside0.mk (blk_below (g := g686) (o := .cells #[.int .i64 t679, .int .i64 t680, .int .i64 t681, .slice Ao22 t682.length co22] 26 (0, 0)) (by exact B686.out) hb); have n7_ := Aside0.mk (below_step (by repeat (first | (with_reducible first | exact HB.out | apply below_alloc | apply pw_below_drewN | apply below_drew1 | refine below_set ?_ GE678.out | refine below_set ?_ GE686.out) | exact HB.out)) hb); have n8_ := Aside0.mk (hbox); have n9_ := Aside0.mk ((by rw [hg]; exact (below_size (by repeat (first | (with_reducible first | exact HB.out | apply below_alloc | apply pw_below_drewN | apply below_drew1 | refine below_set ?_ GE678.out | refine below_set ?_ GE686.out) | exact HB.out))) : w.heap.size ≤ g697)); have n10_ := Aside0.mk ((by rw [hg]; exact (below_size (by repeat (first | (with_reducible first | exact HB.out | apply below_alloc | apply pw_below_drewN | apply below_drew1 | refine below_set ?_ GE678.out | refine below_set ?_ GE686.out) | exact HB.out))) : w.heap.size ≤ g697)); have n11_ := Aside0.mk ((by rw [hg]; exact Nat.ne_of_lt (blk_lt (g := g678) (o := .cells #[.int .i64 t671, .int .i64 t672, .int .i64 t673, .slice Ao17 t674.length co17] 26 (0, 0)) (by exact B678.out)) : g678 ≠ g697)); have n12_ := Aside0.mk ((by rw [hg]; exact Nat.ne_of_gt (blk_lt (g := g678) (o := .cells #[.int .i64 t671, .int .i64 t672, .int .i64 t673, .slice Ao17 t674.length co17] 26 (0, 0)) (by exact B678.out)) : g697 ≠ g678)); have n13_ := Aside0.mk ((by rw [hg]; exact Nat.ne_of_lt (blk_lt (g := g686) (o := .cells #[.int .i64 t679, .int .i64 t680, .int .i64 t681, .slice Ao22 t682.length co22] 26 (0, 0)) (by exact B686.out)) : g686 ≠ g697)); have n14_ := Aside0.mk ((by rw [hg]; exact Nat.ne_of_gt (blk_lt (g := g686) (o := .cells #[.int .i64 t679, .int .i64 t680, .int .i64 t681, .slice Ao22 t682.length co22] 26 (0, 0)) (by exact B686.out)) : g697 ≠ g686)); clear HO670; clear HO676; clear HO684; clear HO689; clear HO695; clear B678; clear B686; clear HB; have HO670 := n0_; have HO676 := n1_; have HO684 := n2_; have HO689 := n3_; have HO695 := n4_; have B678 := n5_; have B686 := n6_; have HB := n7_; have B697 := n8_; have GW697 := n9_; have GE697 := n10_; have NB678_697 := n11_; have NB697_678 := n12_; have NB686_697 := n13_; have NB697_686 := n14_; clear n0_ n1_ n2_ n3_ n4_ n5_ n6_ n7_ n8_ n9_ n10_ n11_ n12_ n13_ n14_; clear hb hbox hg; have hnb27 := NB697_678.out; have hnc27 := NB678_697.out; have hnb28 := NB697_686.out; have hnc28 := NB686_697.out; have hcz29_0 : w26.cell? ⟨g697, 0, none⟩ = some (.int .i64 0) := bq_ B697 0; have hcz29_1 : w26.cell? ⟨g697, 1, none⟩ = some (.int .i64 0) := bq_ B697 1; have hcz29_2 : w26.cell? ⟨g697, 2, none⟩ = some (.int .i64 0) := bq_ B697 2; have hcz29_3 : w26.cell? ⟨g697, 3, none⟩ = some (.slice none 0 0) := bq_ B697 3; have hfz29_0 := blk_frozen B697.out 0; have hfz29_1 := blk_frozen B697.out 1; have hfz29_2 := blk_frozen B697.out 2; have hfz29_3 := blk_frozen B697.out 3; obtain ⟨Ao30, co30, eo30⟩ := Kd.S_slice HO695.out; subst eo30))
  (try simp only [Act.put, sa_, sb_, sc_])
  go_cut [78] (fun v78 wc => ∃ (kq : Nat) (x78_10 : Bool), v78 = .bool x78_10 ∧ Aside0 (attestorlaw07_TreeCaps.j0 kq (wrap64 (Int.tmod a1 6)) (Int.tmod (wrap64 (a2)) (wrap64 ((wrap64 (Int.tmod a1 6)) + 1))) t668 x78_10 t671 t672 t673 t674 t679 t680 t681 t682 t690 t691 t692 t693 = some r) ∧ Aside0 (kq ≤ k) ∧ Aside0 (Kd.R k36 36 wc w.heap.size (fun _ => True) (.slice Ao13 t668.length co13) t668) ∧ Aside0 (Kd.S (Kd.slice 36 k36) 22 wc w.heap.size (fun k_ => some k_ ≠ ((.slice Ao13 t668.length co13) : Value).ownBlock ∧ some k_ ≠ ((.slice Ao22 t682.length co22) : Value).ownBlock ∧ some k_ ≠ ((.slice Ao30 t693.length co30) : Value).ownBlock) (.slice Ao17 t674.length co17) t674) ∧ Aside0 (Kd.S (Kd.slice 36 k36) 22 wc w.heap.size (fun k_ => some k_ ≠ ((.slice Ao13 t668.length co13) : Value).ownBlock ∧ some k_ ≠ ((.slice Ao17 t674.length co17) : Value).ownBlock ∧ some k_ ≠ ((.slice Ao30 t693.length co30) : Value).ownBlock) (.slice Ao22 t682.length co22) t682) ∧ Aside0 (Kd.S (Kd.slice 36 k36) 22 wc w.heap.size (fun k_ => some k_ ≠ ((.slice Ao13 t668.length co13) : Value).ownBlock ∧ some k_ ≠ ((.slice Ao17 t674.length co17) : Value).ownBlock ∧ some k_ ≠ ((.slice Ao22 t682.length co22) : Value).ownBlock) (.slice Ao30 t693.length co30) t693) ∧ Aside0 (wc.heap[g678]? = some (.cells #[.int .i64 t671, .int .i64 t672, .int .i64 t673, (.slice Ao17 t674.length co17)] 26 (0, 0))) ∧ Aside0 (wc.heap[g686]? = some (.cells #[.int .i64 t679, .int .i64 t680, .int .i64 t681, (.slice Ao22 t682.length co22)] 26 (0, 0))) ∧ Aside0 (wc.heap[g697]? = some (.cells #[.int .i64 t690, .int .i64 t691, .int .i64 t692, (.slice Ao30 t693.length co30)] 26 (0, 0))) ∧ Aside0 (Below w.heap.size w wc))
  case first =>
   have H := HC11.out
   clear HC11
   by_cases c31 : t677 = 0
   ·rw [if_pos c31] at H
    have c31b0 : (t677 == 0) = true := beq_iff_eq.mpr c31
    have c31b1 : (t677 != 0) = false := bne_eq_false_iff_eq.mpr c31
    clear c31
    (first | rw [c31b0] | (simp only [i64_w, i32_w]; rw [c31b0]) | skip)
    by_cases c32 : t685 = 0
    ·rw [if_pos c32] at H
     have c32b0 : (t685 == 0) = true := beq_iff_eq.mpr c32
     have c32b1 : (t685 != 0) = false := bne_eq_false_iff_eq.mpr c32
     clear c32
     by_cases c33 : t696 = 0
     ·rw [if_pos c33] at H
      have c33b0 : (t696 == 0) = true := beq_iff_eq.mpr c33
      have c33b1 : (t696 != 0) = false := bne_eq_false_iff_eq.mpr c33
      clear c33
      replace H := Option.bind_eq_some_iff.mp H
      obtain ⟨t698, A340, H⟩ := H
      have A34 := Aside0.mk A340
      clear A340
      replace H := Option.bind_eq_some_iff.mp H
      obtain ⟨t701, A350, H⟩ := H
      have A35 := Aside0.mk A350
      clear A350
      replace H := Option.bind_eq_some_iff.mp H
      obtain ⟨t704, A360, H⟩ := H
      have A36 := Aside0.mk A360
      clear A360
      have H' := Aside0.mk H
      clear H
      try go_wp2
      have n0_ : Aside0 (Kd.R k36 36 ((((w26.setCell ⟨g697, 0, none⟩ (.int .i64 t690)).setCell ⟨g697, 1, none⟩ (.int .i64 t691)).setCell ⟨g697, 2, none⟩ (.int .i64 t692)).setCell ⟨g697, 3, none⟩ (.slice Ao30 t693.length co30)) w.heap.size (fun k_ => some k_ ≠ (.slice Ao24 t687.length co24 : Value).ownBlock) (.slice Ao13 t668.length co13) t668) := ⟨by (with_reducible repeat (first | apply Kd.R_alloc | apply Kd.R_drewN | apply Kd.R_drew)); exact Kd.R_mono (Kd.R_far (p := ⟨g697, 3, none⟩) (Kd.R_far (p := ⟨g697, 2, none⟩) (Kd.R_far (p := ⟨g697, 1, none⟩) (Kd.R_far (p := ⟨g697, 0, none⟩) (Kd.R_types HO670.out B697.out (by decide)) (fun _ hk => hk.2) (.int .i64 t690)) (fun _ hk => hk.2) (.int .i64 t691)) (fun _ hk => hk.2) (.int .i64 t692)) (fun _ hk => hk.2) (.slice Ao30 t693.length co30)) (fun _ hk => hk.1.2)⟩
      have n1_ : Aside0 (Kd.S (Kd.slice 36 k36) 22 ((((w26.setCell ⟨g697, 0, none⟩ (.int .i64 t690)).setCell ⟨g697, 1, none⟩ (.int .i64 t691)).setCell ⟨g697, 2, none⟩ (.int .i64 t692)).setCell ⟨g697, 3, none⟩ (.slice Ao30 t693.length co30)) w.heap.size (fun k_ => some k_ ≠ (.slice Ao13 t668.length co13 : Value).ownBlock ∧ some k_ ≠ (.slice Ao22 t682.length co22 : Value).ownBlock ∧ some k_ ≠ (.slice Ao24 t687.length co24 : Value).ownBlock ∧ some k_ ≠ (.slice Ao30 t693.length co30 : Value).ownBlock) (.slice Ao17 t674.length co17) t674) := ⟨by (with_reducible repeat (first | apply Kd.S_alloc | apply Kd.S_drewN | apply Kd.S_drew)); exact Kd.S_mono (Kd.S_far (p := ⟨g697, 3, none⟩) (Kd.S_far (p := ⟨g697, 2, none⟩) (Kd.S_far (p := ⟨g697, 1, none⟩) (Kd.S_far (p := ⟨g697, 0, none⟩) (Kd.S_types HO676.out B697.out (by decide)) (fun _ hk => hk.2) (.int .i64 t690)) (fun _ hk => hk.2) (.int .i64 t691)) (fun _ hk => hk.2) (.int .i64 t692)) (fun _ hk => hk.2) (.slice Ao30 t693.length co30)) (fun _ hk => ⟨hk.1.1.1.1.2, ⟨hk.1.1.1.2, ⟨hk.1.1.2, hk.1.2⟩⟩⟩)⟩
      have n2_ : Aside0 (Kd.S (Kd.slice 36 k36) 22 ((((w26.setCell ⟨g697, 0, none⟩ (.int .i64 t690)).setCell ⟨g697, 1, none⟩ (.int .i64 t691)).setCell ⟨g697, 2, none⟩ (.int .i64 t692)).setCell ⟨g697, 3, none⟩ (.slice Ao30 t693.length co30)) w.heap.size (fun k_ => some k_ ≠ (.slice Ao13 t668.length co13 : Value).ownBlock ∧ some k_ ≠ (.slice Ao17 t674.length co17 : Value).ownBlock ∧ some k_ ≠ (.slice Ao24 t687.length co24 : Value).ownBlock ∧ some k_ ≠ (.slice Ao30 t693.length co30 : Value).ownBlock) (.slice Ao22 t682.length co22) t682) := ⟨by (with_reducible repeat (first | apply Kd.S_alloc | apply Kd.S_drewN | apply Kd.S_drew)); exact Kd.S_mono (Kd.S_far (p := ⟨g697, 3, none⟩) (Kd.S_far (p := ⟨g697, 2, none⟩) (Kd.S_far (p := ⟨g697, 1, none⟩) (Kd.S_far (p := ⟨g697, 0, none⟩) (Kd.S_types HO684.out B697.out (by decide)) (fun _ hk => hk.2) (.int .i64 t690)) (fun _ hk => hk.2) (.int .i64 t691)) (fun _ hk => hk.2) (.int .i64 t692)) (fun _ hk => hk.2) (.slice Ao30 t693.length co30)) (fun _ hk => ⟨hk.1.1.1.1.2, ⟨hk.1.1.1.2, ⟨hk.1.1.2, hk.1.2⟩⟩⟩)⟩
      have n3_ : Aside0 (Kd.R k36 36 ((((w26.setCell ⟨g697, 0, none⟩ (.int .i64 t690)).setCell ⟨g697, 1, none⟩ (.int .i64 t691)).setCell ⟨g697, 2, none⟩ (.int .i64 t692)).setCell ⟨g697, 3, none⟩ (.slice Ao30 t693.length co30)) w.heap.size (fun k_ => some k_ ≠ (.slice Ao13 t668.length co13 : Value).ownBlock) (.slice Ao24 t687.length co24) t687) := ⟨by (with_reducible repeat (first | apply Kd.R_alloc | apply Kd.R_drewN | apply Kd.R_drew)); exact Kd.R_mono (Kd.R_far (p := ⟨g697, 3, none⟩) (Kd.R_far (p := ⟨g697, 2, none⟩) (Kd.R_far (p := ⟨g697, 1, none⟩) (Kd.R_far (p := ⟨g697, 0, none⟩) (Kd.R_types HO689.out B697.out (by decide)) (fun _ hk => hk.2) (.int .i64 t690)) (fun _ hk => hk.2) (.int .i64 t691)) (fun _ hk => hk.2) (.int .i64 t692)) (fun _ hk => hk.2) (.slice Ao30 t693.length co30)) (fun _ hk => hk.1.2)⟩
      have n4_ : Aside0 (Kd.S (Kd.slice 36 k36) 22 ((((w26.setCell ⟨g697, 0, none⟩ (.int .i64 t690)).setCell ⟨g697, 1, none⟩ (.int .i64 t691)).setCell ⟨g697, 2, none⟩ (.int .i64 t692)).setCell ⟨g697, 3, none⟩ (.slice Ao30 t693.length co30)) w.heap.size (fun k_ => some k_ ≠ (.slice Ao13 t668.length co13 : Value).ownBlock ∧ some k_ ≠ (.slice Ao17 t674.length co17 : Value).ownBlock ∧ some k_ ≠ (.slice Ao22 t682.length co22 : Value).ownBlock ∧ some k_ ≠ (.slice Ao24 t687.length co24 : Value).ownBlock) (.slice Ao30 t693.length co30) t693) := ⟨by (with_reducible repeat (first | apply Kd.S_alloc | apply Kd.S_drewN | apply Kd.S_drew)); exact Kd.S_mono (Kd.S_far (p := ⟨g697, 3, none⟩) (Kd.S_far (p := ⟨g697, 2, none⟩) (Kd.S_far (p := ⟨g697, 1, none⟩) (Kd.S_far (p := ⟨g697, 0, none⟩) (Kd.S_types HO695.out B697.out (by decide)) (fun _ hk => hk.2) (.int .i64 t690)) (fun _ hk => hk.2) (.int .i64 t691)) (fun _ hk => hk.2) (.int .i64 t692)) (fun _ hk => hk.2) (.slice Ao30 t693.length co30)) (fun _ hk => ⟨hk.1.1.1.1.2, ⟨hk.1.1.1.2, ⟨hk.1.1.2, hk.1.2⟩⟩⟩)⟩
      have n5_ : Aside0 (((((w26.setCell ⟨g697, 0, none⟩ (.int .i64 t690)).setCell ⟨g697, 1, none⟩ (.int .i64 t691)).setCell ⟨g697, 2, none⟩ (.int .i64 t692)).setCell ⟨g697, 3, none⟩ (.slice Ao30 t693.length co30)).heap[g678]? = some (.cells #[.int .i64 t671, .int .i64 t672, .int .i64 t673, .slice Ao17 t674.length co17] 26 (0, 0))) := ⟨by refine blk_far ?_ NB678_697.out _; refine blk_far ?_ NB678_697.out _; refine blk_far ?_ NB678_697.out _; refine blk_far ?_ NB678_697.out _; exact B678.out⟩
      have n6_ : Aside0 (((((w26.setCell ⟨g697, 0, none⟩ (.int .i64 t690)).setCell ⟨g697, 1, none⟩ (.int .i64 t691)).setCell ⟨g697, 2, none⟩ (.int .i64 t692)).setCell ⟨g697, 3, none⟩ (.slice Ao30 t693.length co30)).heap[g686]? = some (.cells #[.int .i64 t679, .int .i64 t680, .int .i64 t681, .slice Ao22 t682.length co22] 26 (0, 0))) := ⟨by refine blk_far ?_ NB686_697.out _; refine blk_far ?_ NB686_697.out _; refine blk_far ?_ NB686_697.out _; refine blk_far ?_ NB686_697.out _; exact B686.out⟩
      have n7_ : Aside0 (((((w26.setCell ⟨g697, 0, none⟩ (.int .i64 t690)).setCell ⟨g697, 1, none⟩ (.int .i64 t691)).setCell ⟨g697, 2, none⟩ (.int .i64 t692)).setCell ⟨g697, 3, none⟩ (.slice Ao30 t693.length co30)).heap[g697]? = some (.cells #[.int .i64 t690, .int .i64 t691, .int .i64 t692, .slice Ao30 t693.length co30] 26 (0, 0))) := ⟨by refine blk_put (cs := #[.int .i64 t690, .int .i64 t691, .int .i64 t692, .slice none 0 0]) ?_ 3 _ rfl; refine blk_put (cs := #[.int .i64 t690, .int .i64 t691, .int .i64 0, .slice none 0 0]) ?_ 2 _ rfl; refine blk_put (cs := #[.int .i64 t690, .int .i64 0, .int .i64 0, .slice none 0 0]) ?_ 1 _ rfl; refine blk_put (cs := #[.int .i64 0, .int .i64 0, .int .i64 0, .slice none 0 0]) ?_ 0 _ rfl; exact B697.out⟩
      have n8_ : Aside0 (Below w.heap.size w ((((w26.setCell ⟨g697, 0, none⟩ (.int .i64 t690)).setCell ⟨g697, 1, none⟩ (.int .i64 t691)).setCell ⟨g697, 2, none⟩ (.int .i64 t692)).setCell ⟨g697, 3, none⟩ (.slice Ao30 t693.length co30))) := ⟨by repeat (first | (with_reducible first | exact HB.out | apply below_alloc | apply pw_below_drewN | apply below_drew1 | refine below_set ?_ GE678.out | refine below_set ?_ GE686.out | refine below_set ?_ GE697.out) | exact HB.out)⟩
      (try clear HO670)
      (try clear HO676)
      (try clear HO684)
      (try clear HO689)
      (try clear HO695)
      (try clear B678)
      (try clear B686)
      (try clear B697)
      (try clear HB)
      generalize ((((w26.setCell ⟨g697, 0, none⟩ (.int .i64 t690)).setCell ⟨g697, 1, none⟩ (.int .i64 t691)).setCell ⟨g697, 2, none⟩ (.int .i64 t692)).setCell ⟨g697, 3, none⟩ (.slice Ao30 t693.length co30)) = w37 at n0_ n1_ n2_ n3_ n4_ n5_ n6_ n7_ n8_ ⊢
      have HO670 := n0_
      have HO676 := n1_
      have HO684 := n2_
      have HO689 := n3_
      have HO695 := n4_
      have B678 := n5_
      have B686 := n6_
      have B697 := n7_
      have HB := n8_
      clear n0_ n1_ n2_ n3_ n4_ n5_ n6_ n7_ n8_
      have n0_ := Aside0.mk (Kd.R_drew HO670.out)
      have n1_ := Aside0.mk (Kd.S_drew HO676.out)
      have n2_ := Aside0.mk (Kd.S_drew HO684.out)
      have n3_ := Aside0.mk (Kd.R_drew HO689.out)
      have n4_ := Aside0.mk (Kd.S_drew HO695.out)
      have n5_ := Aside0.mk (blk_drew B678.out)
      have n6_ := Aside0.mk (blk_drew B686.out)
      have n7_ := Aside0.mk (blk_drew B697.out)
      have n8_ := Aside0.mk (below_drew1 HB.out)
      clear HO670
      clear HO676
      clear HO684
      clear HO689
      clear HO695
      clear B678
      clear B686
      clear B697
      clear HB
      have HO670 := n0_
      have HO676 := n1_
      have HO684 := n2_
      have HO689 := n3_
      have HO695 := n4_
      have B678 := n5_
      have B686 := n6_
      have B697 := n7_
      have HB := n8_
      clear n0_ n1_ n2_ n3_ n4_ n5_ n6_ n7_ n8_
      refine start_ (n := 18) (S := fun w' => w'.cell? ⟨g678, 0, none⟩ = some (.int .i64 t671) ∧ w'.cell? ⟨g678, 1, none⟩ = some (.int .i64 t672) ∧ w'.cell? ⟨g678, 2, none⟩ = some (.int .i64 t673) ∧ w'.cell? ⟨g678, 3, none⟩ = some (.slice Ao17 t674.length co17) ∧ w'.cell? ⟨g697, 0, none⟩ = some (.int .i64 t690) ∧ w'.cell? ⟨g697, 1, none⟩ = some (.int .i64 t691) ∧ w'.cell? ⟨g697, 2, none⟩ = some (.int .i64 t692) ∧ w'.cell? ⟨g697, 3, none⟩ = some (.slice Ao30 t693.length co30)) (ds := []) z4_0_ (by kernel_rfl) rfl rfl ⟨bq_ B678 0, bq_ B678 1, bq_ B678 2, bq_ B678 3, bq_ B697 0, bq_ B697 1, bq_ B697 2, bq_ B697 3⟩ (fun hL => ?_); refine with_tabW attestorlaw07_TreeCaps.tab7 attestorlaw07_TreeCaps.bits7 (fun T_ W_ => ?_)
      generalize w37.drew = w38 at HO670 HO676 HO684 HO689 HO695 B678 B686 B697 HB hL ⊢
      refine pure_ (i := 0) (N := some 61) (v := ?_) (a' := ?_) z4_1_ rfl rfl (an_ T_) (fun _ _ _ h => h) (Or.inl ⟨by rfl, ?_⟩) ?_ ?_
      rotate_left; · intro w'; go_simp; with_reducible rfl
      rotate_left; · simp only [Act.put, sa_, sb_, sc_, i64_w, i32_w]; rfl
      refine pure_ (i := 1) (N := some 62) (v := ?_) (a' := ?_) z4_2_ rfl rfl (an_ T_) (fun _ _ _ h => h) (Or.inl ⟨by rfl, ?_⟩) ?_ ?_
      rotate_left; · intro w'; go_simp; with_reducible rfl
      rotate_left; · simp only [Act.put, sa_, sb_, sc_, i64_w, i32_w]; rfl
      refine pure_ (i := 2) (N := some 63) (v := ?_) (a' := ?_) z4_3_ rfl rfl (an_ T_) (fun _ _ _ h => h) (Or.inl ⟨by rfl, ?_⟩) ?_ ?_
      rotate_left; · intro w'; go_simp; with_reducible rfl
      rotate_left; · simp only [Act.put, sa_, sb_, sc_, i64_w, i32_w]; rfl
      refine pure_ (i := 3) (N := some 64) (v := ?_) (a' := ?_) z4_4_ rfl rfl (an_ T_) (fun _ _ _ h => h) (Or.inl ⟨by rfl, ?_⟩) ?_ ?_
      rotate_left; · intro w'; go_simp; with_reducible rfl
      rotate_left; · simp only [Act.put, sa_, sb_, sc_, i64_w, i32_w]; rfl
      refine pure_ (i := 4) (N := some 65) (v := ?_) (a' := ?_) z4_5_ rfl rfl (an_ T_) (fun _ _ _ h => h) (Or.inl ⟨by rfl, ?_⟩) ?_ ?_
      rotate_left; · intro w'; go_simp; with_reducible rfl
      rotate_left; · simp only [Act.put, sa_, sb_, sc_, i64_w, i32_w]; rfl
      refine pure_ (i := 5) (N := some 66) (v := ?_) (a' := ?_) z4_6_ rfl rfl (an_ T_) (fun _ _ _ h => h) (Or.inl ⟨by rfl, ?_⟩) ?_ ?_
      rotate_left; · intro w'; go_simp; with_reducible rfl
      rotate_left; · simp only [Act.put, sa_, sb_, sc_, i64_w, i32_w]; rfl
      refine pure_ (i := 6) (N := some 67) (v := ?_) (a' := ?_) z4_7_ rfl rfl (an_ T_) (fun _ _ _ h => h) (Or.inl ⟨by rfl, ?_⟩) ?_ ?_
      rotate_left; · intro w'; go_simp; with_reducible rfl
      rotate_left; · simp only [Act.put, sa_, sb_, sc_, i64_w, i32_w]; rfl
      refine pure_ (i := 7) (N := some 68) (v := ?_) (a' := ?_) z4_8_ rfl rfl (an_ T_) (fun _ _ _ h => h) (Or.inl ⟨by rfl, ?_⟩) ?_ ?_
      rotate_left; · intro w'; go_simp; with_reducible rfl
      rotate_left; · simp only [Act.put, sa_, sb_, sc_, i64_w, i32_w]; rfl
      refine pure_ (i := 8) (N := some 69) (v := ?_) (a' := ?_) z4_9_ rfl rfl (an_ T_) (fun _ _ _ h => h) (Or.inl ⟨by rfl, ?_⟩) ?_ ?_
      rotate_left; · intro w'; go_simp; with_reducible rfl
      rotate_left; · simp only [Act.put, sa_, sb_, sc_, i64_w, i32_w]; rfl
      refine pure_ (i := 9) (N := some 70) (v := ?_) (a' := ?_) z4_10_ rfl rfl (an_ T_) (fun _ _ _ h => h) (Or.inl ⟨by rfl, ?_⟩) ?_ ?_
      rotate_left; · intro w'; go_simp; with_reducible rfl
      rotate_left; · simp only [Act.put, sa_, sb_, sc_, i64_w, i32_w]; rfl
      refine pure_ (i := 10) (N := some 71) (v := ?_) (a' := ?_) z4_11_ rfl rfl (an_ T_) (fun _ _ _ h => h) (Or.inl ⟨by rfl, ?_⟩) ?_ ?_
      rotate_left; · intro w'; go_simp; with_reducible rfl
      rotate_left; · simp only [Act.put, sa_, sb_, sc_, i64_w, i32_w]; rfl
      refine take_ (i := 11) (N := some 72) (v := ?_) (a' := ?_) z4_12_ rfl rfl (tk_ T_ W_) (fun _ _ _ h => h) (Or.inl ⟨by rfl, ?_⟩) hL ?_ ?_
      rotate_left
      ·rintro w' ⟨s0, s1, s2, s3, s4, s5, s6, s7⟩
       go_simp
       with_reducible rfl
      rotate_left
      ·simp only [Act.put, sa_, sb_, sc_, i64_w, i32_w]
       rfl
      refine take_ (i := 13) (N := some 74) (v := ?_) (a' := ?_) z4_13_ rfl rfl (tk_ T_ W_) (fun _ _ _ h => h) (Or.inl ⟨by rfl, ?_⟩) hL ?_ ?_
      rotate_left
      ·rintro w' ⟨s0, s1, s2, s3, s4, s5, s6, s7⟩
       go_simp
       with_reducible rfl
      rotate_left
      ·simp only [Act.put, sa_, sb_, sc_, i64_w, i32_w]
       rfl
      refine one_ (i := 12) (N := some 73) z4_14_ rfl rfl (on_ T_) (by decide) (fun K hK => ?_)
      refine goes_ Tryd.func19 (by kernel_rfl) rfl #[.agg #[.int .i64 t671, .int .i64 t672, .int .i64 t673, .slice Ao17 t674.length co17]] (by rfl) rfl rfl (by (try simp only [List.map_toArray, List.map_cons, List.map_nil]); first | done | rfl | (go_simp; done)) ?_
      with_reducible refine (tree_Cap.calls k t671 t672 t673 _ _ t674 t698 _ ?side1 ?side2 ?side3 A34.out).mono ?_
      (case side1 => repeat (first | exact (Kd.S_reads' HO676.out).2.2 | (with_reducible refine Kd.C_alloc ?_ _) | (with_reducible refine Kd.C_drewN ?_ _) | (with_reducible refine Kd.C_drew ?_)))
      (case side2 => exact (Kd.S_reads' HO676.out).2.1)
      (case side3 => repeat (first | exact (GL.below HRG.out HB.out) | (with_reducible refine GL.alloc ?_ _) | (with_reducible refine GL.drewN ?_ _) | (with_reducible refine GL.drew ?_)))
      rintro e w39 ⟨v699, rfl, ho0, hb⟩
      refine ⟨_, rfl, ?_⟩
      have n0_ := Aside0.mk (Kd.R_elder' (by (with_reducible repeat (first | apply Kd.R_alloc | apply Kd.R_drewN | apply Kd.R_drew)); exact HO670.out) (Kd.R_base ho0) hb)
      have n1_ := Aside0.mk (Kd.S_elder' (by (with_reducible repeat (first | apply Kd.S_alloc | apply Kd.S_drewN | apply Kd.S_drew)); exact HO676.out) (Kd.R_base ho0) hb)
      have n2_ := Aside0.mk (Kd.S_elder' (by (with_reducible repeat (first | apply Kd.S_alloc | apply Kd.S_drewN | apply Kd.S_drew)); exact HO684.out) (Kd.R_base ho0) hb)
      have n3_ := Aside0.mk (Kd.R_elder' (by (with_reducible repeat (first | apply Kd.R_alloc | apply Kd.R_drewN | apply Kd.R_drew)); exact HO689.out) (Kd.R_base ho0) hb)
      have n4_ := Aside0.mk (Kd.S_elder' (by (with_reducible repeat (first | apply Kd.S_alloc | apply Kd.S_drewN | apply Kd.S_drew)); exact HO695.out) (Kd.R_base ho0) hb)
      have n5_ := Aside0.mk (Kd.R_lower (Kd.R_new' (Kd.R_new' ho0 (Kd.R_lt (by (with_reducible repeat (first | apply Kd.R_alloc | apply Kd.R_drewN | apply Kd.R_drew)); exact HO670.out))) (Kd.R_lt (by (with_reducible repeat (first | apply Kd.R_alloc | apply Kd.R_drewN | apply Kd.R_drew)); exact HO689.out))) (below_size (by repeat (first | (with_reducible first | exact HB.out | apply below_alloc | apply pw_below_drewN | apply below_drew1 | refine below_set ?_ GE678.out | refine below_set ?_ GE686.out | refine below_set ?_ GE697.out) | exact HB.out))))
      have n6_ := Aside0.mk (blk_below (g := g678) (o := .cells #[.int .i64 t671, .int .i64 t672, .int .i64 t673, .slice Ao17 t674.length co17] 26 (0, 0)) (by exact B678.out) hb)
      have n7_ := Aside0.mk (blk_below (g := g686) (o := .cells #[.int .i64 t679, .int .i64 t680, .int .i64 t681, .slice Ao22 t682.length co22] 26 (0, 0)) (by exact B686.out) hb)
      have n8_ := Aside0.mk (blk_below (g := g697) (o := .cells #[.int .i64 t690, .int .i64 t691, .int .i64 t692, .slice Ao30 t693.length co30] 26 (0, 0)) (by exact B697.out) hb)
      have n9_ := Aside0.mk (below_step (by repeat (first | (with_reducible first | exact HB.out | apply below_alloc | apply pw_below_drewN | apply below_drew1 | refine below_set ?_ GE678.out | refine below_set ?_ GE686.out | refine below_set ?_ GE697.out) | exact HB.out)) hb)
      clear HO670
      clear HO676
      clear HO684
      clear HO689
      clear HO695
      clear B678
      clear B686
      clear B697
      clear HB
      have HO670 := n0_
      have HO676 := n1_
      have HO684 := n2_
      have HO689 := n3_
      have HO695 := n4_
      have HO700 := n5_
      have B678 := n6_
      have B686 := n7_
      have B697 := n8_
      have HB := n9_
      clear n0_ n1_ n2_ n3_ n4_ n5_ n6_ n7_ n8_ n9_
      (try clear hb)
      (try clear hb2)
      (try clear hk)
      (try clear hi)
      (try clear ho0)
      refine hK.out _ _ ⟨bq_ B678 0, bq_ B678 1, bq_ B678 2, bq_ B678 3, bq_ B697 0, bq_ B697 1, bq_ B697 2, bq_ B697 3⟩ (fun hL => ?_)
      clear hK K
      refine norm_ (a' := ?_) ?_ ?_
      rotate_left
      ·show Act.put _ (some 73) _ = _
       simp only [Act.put, sa_, sb_, sc_, i64_w, i32_w]
       rfl
      refine one_ (i := 14) (N := some 75) z4_15_ rfl rfl (on_ T_) (by decide) (fun K hK => ?_)
      refine goes_ Tryd.func19 (by kernel_rfl) rfl #[.agg #[.int .i64 t690, .int .i64 t691, .int .i64 t692, .slice Ao30 t693.length co30]] (by rfl) rfl rfl (by (try simp only [List.map_toArray, List.map_cons, List.map_nil]); first | done | rfl | (go_simp; done)) ?_
      with_reducible refine (tree_Cap.calls k t690 t691 t692 _ _ t693 t701 _ ?side1 ?side2 ?side3 A35.out).mono ?_
      (case side1 => repeat (first | exact (Kd.S_reads' HO695.out).2.2 | (with_reducible refine Kd.C_alloc ?_ _) | (with_reducible refine Kd.C_drewN ?_ _) | (with_reducible refine Kd.C_drew ?_)))
      (case side2 => exact (Kd.S_reads' HO695.out).2.1)
      (case side3 => repeat (first | exact (GL.below HRG.out HB.out) | (with_reducible refine GL.alloc ?_ _) | (with_reducible refine GL.drewN ?_ _) | (with_reducible refine GL.drew ?_)))
      rintro e w40 ⟨v702, rfl, ho0, hb⟩
      refine ⟨_, rfl, ?_⟩
      have n0_ := Aside0.mk (Kd.R_elder' (by (with_reducible repeat (first | apply Kd.R_alloc | apply Kd.R_drewN | apply Kd.R_drew)); exact HO670.out) (Kd.R_base ho0) hb)
      have n1_ := Aside0.mk (Kd.S_elder' (by (with_reducible repeat (first | apply Kd.S_alloc | apply Kd.S_drewN | apply Kd.S_drew)); exact HO676.out) (Kd.R_base ho0) hb)
      have n2_ := Aside0.mk (Kd.S_elder' (by (with_reducible repeat (first | apply Kd.S_alloc | apply Kd.S_drewN | apply Kd.S_drew)); exact HO684.out) (Kd.R_base ho0) hb)
      have n3_ := Aside0.mk (Kd.R_elder' (by (with_reducible repeat (first | apply Kd.R_alloc | apply Kd.R_drewN | apply Kd.R_drew)); exact HO689.out) (Kd.R_base ho0) hb)
      have n4_ := Aside0.mk (Kd.S_elder' (by (with_reducible repeat (first | apply Kd.S_alloc | apply Kd.S_drewN | apply Kd.S_drew)); exact HO695.out) (Kd.R_base ho0) hb)
      have n5_ := Aside0.mk (Kd.R_elder' (by (with_reducible repeat (first | apply Kd.R_alloc | apply Kd.R_drewN | apply Kd.R_drew)); exact HO700.out) (Kd.R_base ho0) hb)
      have n6_ := Aside0.mk (Kd.R_lower (Kd.R_new' (Kd.R_new' (Kd.R_new' ho0 (Kd.R_lt (by (with_reducible repeat (first | apply Kd.R_alloc | apply Kd.R_drewN | apply Kd.R_drew)); exact HO670.out))) (Kd.R_lt (by (with_reducible repeat (first | apply Kd.R_alloc | apply Kd.R_drewN | apply Kd.R_drew)); exact HO689.out))) (Kd.R_lt (by (with_reducible repeat (first | apply Kd.R_alloc | apply Kd.R_drewN | apply Kd.R_drew)); exact HO700.out))) (below_size (by repeat (first | (with_reducible first | exact HB.out | apply below_alloc | apply pw_below_drewN | apply below_drew1 | refine below_set ?_ GE678.out | refine below_set ?_ GE686.out | refine below_set ?_ GE697.out) | exact HB.out))))
      have n7_ := Aside0.mk (blk_below (g := g678) (o := .cells #[.int .i64 t671, .int .i64 t672, .int .i64 t673, .slice Ao17 t674.length co17] 26 (0, 0)) (by exact B678.out) hb)
      have n8_ := Aside0.mk (blk_below (g := g686) (o := .cells #[.int .i64 t679, .int .i64 t680, .int .i64 t681, .slice Ao22 t682.length co22] 26 (0, 0)) (by exact B686.out) hb)
      have n9_ := Aside0.mk (blk_below (g := g697) (o := .cells #[.int .i64 t690, .int .i64 t691, .int .i64 t692, .slice Ao30 t693.length co30] 26 (0, 0)) (by exact B697.out) hb)
      have n10_ := Aside0.mk (below_step (by repeat (first | (with_reducible first | exact HB.out | apply below_alloc | apply pw_below_drewN | apply below_drew1 | refine below_set ?_ GE678.out | refine below_set ?_ GE686.out | refine below_set ?_ GE697.out) | exact HB.out)) hb)
      clear HO670
      clear HO676
      clear HO684
      clear HO689
      clear HO695
      clear HO700
      clear B678
      clear B686
      clear B697
      clear HB
      have HO670 := n0_
      have HO676 := n1_
      have HO684 := n2_
      have HO689 := n3_
      have HO695 := n4_
      have HO700 := n5_
      have HO703 := n6_
      have B678 := n7_
      have B686 := n8_
      have B697 := n9_
      have HB := n10_
      clear n0_ n1_ n2_ n3_ n4_ n5_ n6_ n7_ n8_ n9_ n10_
      (try clear hb)
      (try clear hb2)
      (try clear hk)
      (try clear hi)
      (try clear ho0)
      obtain ⟨Ao41, co41, eo41⟩ := Kd.R_slice HO700.out
      (first | subst eo41 | (injection eo41 with f1_ f2_ f3_; have f4_ := f1_.symm; have f5_ := f3_.symm; clear f1_ f2_ f3_; subst f4_; subst f5_))
      obtain ⟨Ao42, co42, eo42⟩ := Kd.R_slice HO703.out
      (first | subst eo42 | (injection eo42 with f1_ f2_ f3_; have f4_ := f1_.symm; have f5_ := f3_.symm; clear f1_ f2_ f3_; subst f4_; subst f5_))
      refine hK.out _ _ ⟨bq_ B678 0, bq_ B678 1, bq_ B678 2, bq_ B678 3, bq_ B697 0, bq_ B697 1, bq_ B697 2, bq_ B697 3⟩ (fun hL => ?_)
      clear hK K
      refine norm_ (a' := ?_) ?_ ?_
      rotate_left
      ·show Act.put _ (some 75) _ = _
       simp only [Act.put, sa_, sb_, sc_, i64_w, i32_w]
       rfl
      refine one_ (i := 15) (N := some 76) z4_16_ rfl rfl (on_ T_) (by decide) (fun K hK => ?_)
      refine goes_ Tryd.func18 (by kernel_rfl) rfl #[.slice Ao41 t698.length co41, .slice Ao42 t701.length co42] (by rfl) rfl rfl (by (try simp only [List.map_toArray, List.map_cons, List.map_nil]); first | done | rfl | (go_simp; done)) ?_
      with_reducible refine (attestorref07_Equal.calls k _ _ t698 _ _ t701 t704 _ ?side1 ?side2 ?side3 ?side4 A36.out).mono ?_
      (case side1 => repeat (first | exact (Kd.R_reads' HO700.out).2.2 | (with_reducible refine Kd.C_alloc ?_ _) | (with_reducible refine Kd.C_drewN ?_ _) | (with_reducible refine Kd.C_drew ?_)))
      (case side2 => exact (Kd.R_reads' HO700.out).2.1)
      (case side3 => repeat (first | exact (Kd.R_reads' HO703.out).2.2 | (with_reducible refine Kd.C_alloc ?_ _) | (with_reducible refine Kd.C_drewN ?_ _) | (with_reducible refine Kd.C_drew ?_)))
      (case side4 => exact (Kd.R_reads' HO703.out).2.1)
      rintro e w' ⟨rfl, ⟨nd, rfl⟩⟩
      refine ⟨_, rfl, ?_⟩
      refine hK.out _ _ ⟨bq_ B678 0, bq_ B678 1, bq_ B678 2, bq_ B678 3, bq_ B697 0, bq_ B697 1, bq_ B697 2, bq_ B697 3⟩ (fun hL => ?_)
      clear hK K
      refine norm_ (a' := ?_) ?_ ?_
      rotate_left
      ·show Act.put _ (some 76) _ = _
       simp only [Act.put, sa_, sb_, sc_, i64_w, i32_w]
       rfl
      refine pure_ (i := 16) (N := some 77) (v := ?_) (a' := ?_) z4_17_ rfl rfl (an_ T_) (fun _ _ _ h => h) (Or.inl ⟨by rfl, ?_⟩) ?_ ?_
      rotate_left; · intro w'; go_simp; with_reducible rfl
      rotate_left; · simp only [Act.put, sa_, sb_, sc_, i64_w, i32_w]; rfl
      refine pure_ (i := 17) (N := some 78) (v := ?_) (a' := ?_) z4_18_ rfl rfl (an_ T_) (fun _ _ _ h => h) (Or.inl ⟨by rfl, ?_⟩) ?_ ?_
      rotate_left; · intro w'; go_simp; with_reducible rfl
      rotate_left; · simp only [Act.put, sa_, sb_, sc_, i64_w, i32_w]; rfl
      refine done_ (done_of T_.out (by kernel_rfl)) ?_
      try go_wp2
      go_meet
      case rel => exact ⟨_, (!t704), (by first | rfl | (simp; done) | (simp [*]; done) | (simp; rfl) | (simp; decide +kernel)), H', ⟨by first | omega | exact Nat.le_refl _⟩, ⟨by (with_reducible repeat (first | apply Kd.R_alloc | apply Kd.R_drewN | apply Kd.R_drew)); exact Kd.R_mono HO670.out (fun _ hk => trivial)⟩, ⟨by (with_reducible repeat (first | apply Kd.S_alloc | apply Kd.S_drewN | apply Kd.S_drew)); exact Kd.S_mono HO676.out (fun _ hk => ⟨hk.1.1.1, ⟨hk.1.1.2.1, hk.1.1.2.2.2⟩⟩)⟩, ⟨by (with_reducible repeat (first | apply Kd.S_alloc | apply Kd.S_drewN | apply Kd.S_drew)); exact Kd.S_mono HO684.out (fun _ hk => ⟨hk.1.1.1, ⟨hk.1.1.2.1, hk.1.1.2.2.2⟩⟩)⟩, ⟨by (with_reducible repeat (first | apply Kd.S_alloc | apply Kd.S_drewN | apply Kd.S_drew)); exact Kd.S_mono HO695.out (fun _ hk => ⟨hk.1.1.1, ⟨hk.1.1.2.1, hk.1.1.2.2.1⟩⟩)⟩, ⟨by exact B678.out⟩, ⟨by exact B686.out⟩, ⟨by exact B697.out⟩, ⟨by repeat (first | (with_reducible first | exact HB.out | apply below_alloc | apply pw_below_drewN | apply below_drew1 | refine below_set ?_ GE678.out | refine below_set ?_ GE686.out | refine below_set ?_ GE697.out) | exact HB.out)⟩⟩
     ·rw [if_neg c33] at H
      exact absurd H (by simp)
    ·rw [if_neg c32] at H
     exact absurd H (by simp)
   ·rw [if_neg c31] at H
    exact absurd H (by simp)
  case rest =>
   clear HC11
   try clear c1
   try clear c2
   try clear p2
   try clear c3
   try clear c4
   try clear c5
   try clear c5b0
   try clear c5b1
   try clear p6
   try clear c13
   try clear c18
   try clear c19
   try clear c20
   try clear c22
   try clear c27
   try clear c28
   try clear c31
   try clear c31b0
   try clear c31b1
   try clear c32
   try clear c32b0
   try clear c32b1
   try clear c33
   try clear c33b0
   try clear c33b1
   try clear hcz16_0
   try clear hcz16_1
   try clear hcz16_2
   try clear hcz16_3
   try clear hcz21_0
   try clear hcz21_1
   try clear hcz21_2
   try clear hcz21_3
   try clear hcz29_0
   try clear hcz29_1
   try clear hcz29_2
   try clear hcz29_3
   try clear hfz16_0
   try clear hfz16_1
   try clear hfz16_2
   try clear hfz16_3
   try clear hfz21_0
   try clear hfz21_1
   try clear hfz21_2
   try clear hfz21_3
   try clear hfz29_0
   try clear hfz29_1
   try clear hfz29_2
   try clear hfz29_3
   obtain ⟨kq, x78_10, rfl, HA, HJ10, HO_12, HO_679003, HO_687003, HO_698003, B678, B686, B697, HB⟩ := hcut
   cases kq with
   | zero => exact absurd HA.out (by simp [attestorlaw07_TreeCaps.j0])
   | succ kj10 =>
    have H := HA.out
    clear HA
    simp only [attestorlaw07_TreeCaps.j0] at H
    by_cases c43 : x78_10 = true
    ·subst c43
     have H1 : (none) = some r := by rw [if_pos rfl] at H; exact H
     clear H
     have H := H1
     clear H1
     exact absurd H (by simp)
    ·replace c43 := Bool.eq_false_iff.mpr c43
     subst c43
     have H1 : (attestorlaw07_TreeCaps.l0 kj10 (wrap64 (Int.tmod a1 6)) (Int.tmod (wrap64 (a2)) (wrap64 ((wrap64 (Int.tmod a1 6)) + 1))) t668 0 t671 t672 t673 t674 t679 t680 t681 t682 t690 t691 t692 t693) = some r := by rw [if_neg (show ¬ (false = true) by decide)] at H; exact H
     clear H
     have H := H1
     clear H1
     have H' := Aside0.mk H
     clear H
     go_wp2
     go_loopg [19] kj10 (fun kq v19 w' => ∃ (x19_2 : Int), v19 = .int .i64 x19_2 ∧ Aside0 (attestorlaw07_TreeCaps.l0 kq (wrap64 (Int.tmod a1 6)) (Int.tmod (wrap64 (a2)) (wrap64 ((wrap64 (Int.tmod a1 6)) + 1))) t668 x19_2 t671 t672 t673 t674 t679 t680 t681 t682 t690 t691 t692 t693 = some r) ∧ Aside0 (kq ≤ kj10) ∧ Aside0 (Kd.R k36 36 w' w.heap.size (fun _ => True) (.slice Ao13 t668.length co13) t668) ∧ Aside0 (Kd.S (Kd.slice 36 k36) 22 w' w.heap.size (fun k_ => some k_ ≠ ((.slice Ao13 t668.length co13) : Value).ownBlock ∧ some k_ ≠ ((.slice Ao22 t682.length co22) : Value).ownBlock ∧ some k_ ≠ ((.slice Ao30 t693.length co30) : Value).ownBlock) (.slice Ao17 t674.length co17) t674) ∧ Aside0 (Kd.S (Kd.slice 36 k36) 22 w' w.heap.size (fun k_ => some k_ ≠ ((.slice Ao13 t668.length co13) : Value).ownBlock ∧ some k_ ≠ ((.slice Ao17 t674.length co17) : Value).ownBlock ∧ some k_ ≠ ((.slice Ao30 t693.length co30) : Value).ownBlock) (.slice Ao22 t682.length co22) t682) ∧ Aside0 (Kd.S (Kd.slice 36 k36) 22 w' w.heap.size (fun k_ => some k_ ≠ ((.slice Ao13 t668.length co13) : Value).ownBlock ∧ some k_ ≠ ((.slice Ao17 t674.length co17) : Value).ownBlock ∧ some k_ ≠ ((.slice Ao22 t682.length co22) : Value).ownBlock) (.slice Ao30 t693.length co30) t693) ∧ Aside0 (w'.heap[g678]? = some (.cells #[.int .i64 t671, .int .i64 t672, .int .i64 t673, (.slice Ao17 t674.length co17)] 26 (0, 0))) ∧ Aside0 (w'.heap[g686]? = some (.cells #[.int .i64 t679, .int .i64 t680, .int .i64 t681, (.slice Ao22 t682.length co22)] 26 (0, 0))) ∧ Aside0 (w'.heap[g697]? = some (.cells #[.int .i64 t690, .int .i64 t691, .int .i64 t692, (.slice Ao30 t693.length co30)] 26 (0, 0))) ∧ Aside0 (Below w.heap.size w w'))
     case atStart => exact ⟨(0), (by first | rfl | (simp; done) | (simp [*]; done) | (simp; rfl) | (simp; decide +kernel)), H', ⟨Nat.le_refl _⟩, ⟨by (with_reducible repeat (first | apply Kd.R_alloc | apply Kd.R_drewN | apply Kd.R_drew)); exact HO_12.out⟩, ⟨by (with_reducible repeat (first | apply Kd.S_alloc | apply Kd.S_drewN | apply Kd.S_drew)); exact HO_679003.out⟩, ⟨by (with_reducible repeat (first | apply Kd.S_alloc | apply Kd.S_drewN | apply Kd.S_drew)); exact HO_687003.out⟩, ⟨by (with_reducible repeat (first | apply Kd.S_alloc | apply Kd.S_drewN | apply Kd.S_drew)); exact HO_698003.out⟩, ⟨by exact B678.out⟩, ⟨by exact B686.out⟩, ⟨by exact B697.out⟩, ⟨by repeat (first | (with_reducible first | exact HB.out | apply below_alloc | apply pw_below_drewN | apply below_drew1 | refine below_set ?_ GE678.out | refine below_set ?_ GE686.out | refine below_set ?_ GE697.out) | exact HB.out)⟩⟩
     case round =>
      clear H'
      try clear c1
      try clear c2
      try clear p2
      try clear c3
      try clear c4
      try clear c5
      try clear c5b0
      try clear c5b1
      try clear p6
      try clear c13
      try clear c18
      try clear c19
      try clear c20
      try clear c22
      try clear c27
      try clear c28
      try clear c31
      try clear c31b0
      try clear c31b1
      try clear c32
      try clear c32b0
      try clear c32b1
      try clear c33
      try clear c33b0
      try clear c33b1
      try clear c43
      try clear hcz16_0
      try clear hcz16_1
      try clear hcz16_2
      try clear hcz16_3
      try clear hcz21_0
      try clear hcz21_1
      try clear hcz21_2
      try clear hcz21_3
      try clear hcz29_0
      try clear hcz29_1
      try clear hcz29_2
      try clear hcz29_3
      try clear hfz16_0
      try clear hfz16_1
      try clear hfz16_2
      try clear hfz16_3
      try clear hfz21_0
      try clear hfz21_1
      try clear hfz21_2
      try clear hfz21_3
      try clear hfz29_0
      try clear hfz29_1
      try clear hfz29_2
      try clear hfz29_3
      try clear p2
      try clear p6
      obtain ⟨x19_2, rfl, HA, HK2, HO_12, HO_679003, HO_687003, HO_698003, B678, B686, B697, HB⟩ := hrel
      cases gk with
      | zero => exact absurd HA.out (by simp [attestorlaw07_TreeCaps.l0])
      | succ k2 =>
       have H := HA.out
       clear HA
       simp only [attestorlaw07_TreeCaps.l0] at H
       by_cases c44 : x19_2 < (t668.length : Int)
       ·rw [if_pos c44] at H
        have c44b0 : decide (x19_2 < (t668.length : Int)) = true := decide_eq_true c44
        clear c44
        replace H := Option.bind_eq_some_iff.mp H
        obtain ⟨⟨t706, t709⟩, A450, H⟩ := H
        replace H : ((tree_Path.f k2 t679 t680 t681 t682 x19_2).bind fun bt710 => (if 0 ≤ (wrap64 ((wrap64 (Int.tmod a1 6)) - (Int.tmod (wrap64 (a2)) (wrap64 ((wrap64 (Int.tmod a1 6)) + 1))))) then ((tree_Path.f k2 t690 t691 t692 t693 (shr .i64 x19_2 (wrap64 ((wrap64 (Int.tmod a1 6)) - (Int.tmod (wrap64 (a2)) (wrap64 ((wrap64 (Int.tmod a1 6)) + 1))))))).bind fun bt714 => ((attestorlaw07_cut.f bt710.1 20).bind fun t718 => (if t718.length + bt714.1.length < 8796093022208 then ((attestorref07_Equal.f k2 t706 (t718 ++ bt714.1)).bind fun t724 => (if t724 = true then (attestorlaw07_TreeCaps.l0 k2 (wrap64 (Int.tmod a1 6)) (Int.tmod (wrap64 (a2)) (wrap64 ((wrap64 (Int.tmod a1 6)) + 1))) t668 (wrap64 (x19_2 + 1)) t671 t672 t673 t674 t679 t680 t681 t682 t690 t691 t692 t693) else (none))) else (none)))) else (none))) = some r := H
        have A45 := Aside0.mk A450
        clear A450
        replace H := Option.bind_eq_some_iff.mp H
        obtain ⟨⟨t710, t713⟩, A460, H⟩ := H
        replace H : (if 0 ≤ (wrap64 ((wrap64 (Int.tmod a1 6)) - (Int.tmod (wrap64 (a2)) (wrap64 ((wrap64 (Int.tmod a1 6)) + 1))))) then ((tree_Path.f k2 t690 t691 t692 t693 (shr .i64 x19_2 (wrap64 ((wrap64 (Int.tmod a1 6)) - (Int.tmod (wrap64 (a2)) (wrap64 ((wrap64 (Int.tmod a1 6)) + 1))))))).bind fun bt714 => ((attestorlaw07_cut.f t710 20).bind fun t718 => (if t718.length + bt714.1.length < 8796093022208 then ((attestorref07_Equal.f k2 t706 (t718 ++ bt714.1)).bind fun t724 => (if t724 = true then (attestorlaw07_TreeCaps.l0 k2 (wrap64 (Int.tmod a1 6)) (Int.tmod (wrap64 (a2)) (wrap64 ((wrap64 (Int.tmod a1 6)) + 1))) t668 (wrap64 (x19_2 + 1)) t671 t672 t673 t674 t679 t680 t681 t682 t690 t691 t692 t693) else (none))) else (none)))) else (none)) = some r := H
        have A46 := Aside0.mk A460
        clear A460
        obtain ⟨ji47, hji47⟩ : ∃ j_ : Int, (wrap64 ((wrap64 (Int.tmod a1 6)) - (Int.tmod (wrap64 (a2)) (wrap64 ((wrap64 (Int.tmod a1 6)) + 1))))) = j_ := ⟨_, rfl⟩
        replace H : (if 0 ≤ (ji47) then ((tree_Path.f k2 t690 t691 t692 t693 (shr .i64 x19_2 (ji47))).bind fun bt714 => ((attestorlaw07_cut.f t710 20).bind fun t718 => (if t718.length + bt714.1.length < 8796093022208 then ((attestorref07_Equal.f k2 t706 (t718 ++ bt714.1)).bind fun t724 => (if t724 = true then (attestorlaw07_TreeCaps.l0 k2 (wrap64 (Int.tmod a1 6)) (Int.tmod (wrap64 (a2)) (wrap64 ((wrap64 (Int.tmod a1 6)) + 1))) t668 (wrap64 (x19_2 + 1)) t671 t672 t673 t674 t679 t680 t681 t682 t690 t691 t692 t693) else (none))) else (none)))) else (none)) = some r := by first | (rw [hji47] at H; exact H) | (simp only [hji47] at H ⊢; exact H)
        (try rw [hji47] at A45)
        (try rw [hji47] at A46)
        have hji47w : (IntKind.i64.wrap ((wrap64 (Int.tmod a1 6)) - (Int.tmod (wrap64 (a2)) (wrap64 ((wrap64 (Int.tmod a1 6)) + 1))))) = ji47 := (i64_w _).trans hji47
        by_cases c48 : 0 ≤ (ji47)
        ·rw [if_pos c48] at H
         have c48b0 := eq_true c48
         have c48b1 : decide (0 ≤ (ji47)) = true := decide_eq_true c48
         clear c48
         obtain ⟨ji49, hji49⟩ : ∃ j_ : Int, (shr .i64 x19_2 (ji47)) = j_ := ⟨_, rfl⟩
         replace H : ((tree_Path.f k2 t690 t691 t692 t693 (ji49)).bind fun bt714 => ((attestorlaw07_cut.f t710 20).bind fun t718 => (if t718.length + bt714.1.length < 8796093022208 then ((attestorref07_Equal.f k2 t706 (t718 ++ bt714.1)).bind fun t724 => (if t724 = true then (attestorlaw07_TreeCaps.l0 k2 (wrap64 (Int.tmod a1 6)) (Int.tmod (wrap64 (a2)) (wrap64 ((wrap64 (Int.tmod a1 6)) + 1))) t668 (wrap64 (x19_2 + 1)) t671 t672 t673 t674 t679 t680 t681 t682 t690 t691 t692 t693) else (none))) else (none)))) = some r := by first | (rw [hji49] at H; exact H) | (simp only [hji49] at H ⊢; exact H)
         (try rw [hji49] at A45)
         (try rw [hji49] at A46)
         have hji49_ : (x19_2 / 2 ^ min (ji47).toNat 64) = ji49 := hji49
         have hji49z : (ji47) ≤ 64 → (x19_2 / 2 ^ (ji47).toNat) = ji49 := shr_small hji49
         replace H := Option.bind_eq_some_iff.mp H
         obtain ⟨⟨t714, t717⟩, A500, H⟩ := H
         replace H : ((attestorlaw07_cut.f t710 20).bind fun t718 => (if t718.length + t714.length < 8796093022208 then ((attestorref07_Equal.f k2 t706 (t718 ++ t714)).bind fun t724 => (if t724 = true then (attestorlaw07_TreeCaps.l0 k2 (wrap64 (Int.tmod a1 6)) (Int.tmod (wrap64 (a2)) (wrap64 ((wrap64 (Int.tmod a1 6)) + 1))) t668 (wrap64 (x19_2 + 1)) t671 t672 t673 t674 t679 t680 t681 t682 t690 t691 t692 t693) else (none))) else (none))) = some r := H
         have A50 := Aside0.mk A500
         clear A500
         replace H := Option.bind_eq_some_iff.mp H
         obtain ⟨t718, A510, H⟩ := H
         have A51 := Aside0.mk A510
         clear A510
         by_cases c52 : t718.length + t714.length < 8796093022208
         ·rw [if_pos c52] at H
          have LMc52 := Aside0.mk c52
          clear c52
          obtain ⟨y721, hy721⟩ : ∃ y_ : List (S36), y_ = (t718 ++ t714) := ⟨_, rfl⟩
          replace H : ((attestorref07_Equal.f k2 t706 y721).bind fun t724 => (if t724 = true then (attestorlaw07_TreeCaps.l0 k2 (wrap64 (Int.tmod a1 6)) (Int.tmod (wrap64 (a2)) (wrap64 ((wrap64 (Int.tmod a1 6)) + 1))) t668 (wrap64 (x19_2 + 1)) t671 t672 t673 t674 t679 t680 t681 t682 t690 t691 t692 t693) else (none))) = some r := by first | (rw [hy721]; with_reducible exact H) | (have H2_ := (Option.bind_some _ _).symm.trans H; rw [hy721]; with_reducible exact H2_) | (have H2_ := (Option.bind_some _ _).symm.trans H; with_reducible exact H2_) | with_reducible exact H | (rw [hy721]; exact H) | exact H
          have Ny721 := Aside0.mk hy721
          clear hy721
          replace H := Option.bind_eq_some_iff.mp H
          obtain ⟨t724, A530, H⟩ := H
          have A53 := Aside0.mk A530
          clear A530
          by_cases c54 : t724 = true
          ·subst c54
           have H1 : (attestorlaw07_TreeCaps.l0 k2 (wrap64 (Int.tmod a1 6)) (Int.tmod (wrap64 (a2)) (wrap64 ((wrap64 (Int.tmod a1 6)) + 1))) t668 (wrap64 (x19_2 + 1)) t671 t672 t673 t674 t679 t680 t681 t682 t690 t691 t692 t693) = some r := by rw [if_pos rfl] at H; exact H
           clear H
           have H := H1
           clear H1
           have H' := Aside0.mk H
           clear H
           have hnb55 := NB678_686.out
           have hnc55 := NB686_678.out
           have hnb56 := NB678_697.out
           have hnc56 := NB697_678.out
           have hcz57_0 : wr.cell? ⟨g678, 0, none⟩ = some (.int .i64 t671) := bq_ B678 0
           have hcz57_1 : wr.cell? ⟨g678, 1, none⟩ = some (.int .i64 t672) := bq_ B678 1
           have hcz57_2 : wr.cell? ⟨g678, 2, none⟩ = some (.int .i64 t673) := bq_ B678 2
           have hcz57_3 : wr.cell? ⟨g678, 3, none⟩ = some (.slice Ao17 t674.length co17) := bq_ B678 3
           have hfz57_0 := blk_frozen B678.out 0
           have hfz57_1 := blk_frozen B678.out 1
           have hfz57_2 := blk_frozen B678.out 2
           have hfz57_3 := blk_frozen B678.out 3
           try go_wp2_with (first | ((with_reducible refine gate_callee (f := 23) rfl ?_); refine goesL_ (some 88) rfl rfl Tryd.func23 (by kernel_rfl) rfl #[.agg #[.int .i64 t671, .int .i64 t672, .int .i64 t673, .slice Ao17 t674.length co17], .int .i64 x19_2] rfl (by (try simp only [List.map_toArray, List.map_cons, List.map_nil]); first | done | rfl | (go_simp; done)) ?_; (with_reducible refine (tree_Path.calls k2 t671 t672 t673 _ _ t674 x19_2 t706 t709 _ ?side1 ?side2 ?side3 A45.out).mono ?_); (case side1 => repeat (first | exact (Kd.S_reads' HO_679003.out).2.2 | (with_reducible refine Kd.C_alloc ?_ _) | (with_reducible refine Kd.C_drewN ?_ _) | (with_reducible refine Kd.C_drew ?_))); (case side2 => exact (Kd.S_reads' HO_679003.out).2.1); (case side3 => repeat (first | exact (GL.below HRG.out HB.out) | (with_reducible refine GL.alloc ?_ _) | (with_reducible refine GL.drewN ?_ _) | (with_reducible refine GL.drew ?_))); rintro e w58 ⟨v707, rfl, ho0, hb⟩; refine ⟨_, rfl, ?_⟩; have n0_ := Aside0.mk (Kd.R_elder' (by (with_reducible repeat (first | apply Kd.R_alloc | apply Kd.R_drewN | apply Kd.R_drew)); exact HO_12.out) (Kd.R_base ho0) hb); have n1_ := Aside0.mk (Kd.S_elder' (by (with_reducible repeat (first | apply Kd.S_alloc | apply Kd.S_drewN | apply Kd.S_drew)); exact HO_679003.out) (Kd.R_base ho0) hb); have n2_ := Aside0.mk (Kd.S_elder' (by (with_reducible repeat (first | apply Kd.S_alloc | apply Kd.S_drewN | apply Kd.S_drew)); exact HO_687003.out) (Kd.R_base ho0) hb); have n3_ := Aside0.mk (Kd.S_elder' (by (with_reducible repeat (first | apply Kd.S_alloc | apply Kd.S_drewN | apply Kd.S_drew)); exact HO_698003.out) (Kd.R_base ho0) hb); have n4_ := Aside0.mk (Kd.R_lower (Kd.R_new' ho0 (Kd.R_lt (by (with_reducible repeat (first | apply Kd.R_alloc | apply Kd.R_drewN | apply Kd.R_drew)); exact HO_12.out))) (below_size (by repeat (first | (with_reducible first | exact HB.out | apply below_alloc | apply pw_below_drewN | apply below_drew1 | refine below_set ?_ GE678.out | refine below_set ?_ GE686.out | refine below_set ?_ GE697.out) | exact HB.out)))); have n5_ := Aside0.mk (blk_below (g := g678) (o := .cells #[.int .i64 t671, .int .i64 t672, .int .i64 t673, .slice Ao17 t674.length co17] 26 (0, 0)) (by exact B678.out) hb); have n6_ := Aside0.mk (blk_below (g := g686) (o := .cells #[.int .i64 t679, .int .i64 t680, .int .i64 t681, .slice Ao22 t682.length co22] 26 (0, 0)) (by exact B686.out) hb); have n7_ := Aside0.mk (blk_below (g := g697) (o := .cells #[.int .i64 t690, .int .i64 t691, .int .i64 t692, .slice Ao30 t693.length co30] 26 (0, 0)) (by exact B697.out) hb); have n8_ := Aside0.mk (below_step (by repeat (first | (with_reducible first | exact HB.out | apply below_alloc | apply pw_below_drewN | apply below_drew1 | refine below_set ?_ GE678.out | refine below_set ?_ GE686.out | refine below_set ?_ GE697.out) | exact HB.out)) hb); clear HO_12; clear HO_679003; clear HO_687003; clear HO_698003; clear B678; clear B686; clear B697; clear HB; have HO_12 := n0_; have HO_679003 := n1_; have HO_687003 := n2_; have HO_698003 := n3_; have HO708 := n4_; have B678 := n5_; have B686 := n6_; have B697 := n7_; have HB := n8_; clear n0_ n1_ n2_ n3_ n4_ n5_ n6_ n7_ n8_; (try clear hb); (try clear hb2); (try clear hk); (try clear hi); (try clear ho0); have hnb59 := NB686_697.out; have hnc59 := NB697_686.out; have hcz60_0 : w58.cell? ⟨g686, 0, none⟩ = some (.int .i64 t679) := bq_ B686 0; have hcz60_1 : w58.cell? ⟨g686, 1, none⟩ = some (.int .i64 t680) := bq_ B686 1; have hcz60_2 : w58.cell? ⟨g686, 2, none⟩ = some (.int .i64 t681) := bq_ B686 2; have hcz60_3 : w58.cell? ⟨g686, 3, none⟩ = some (.slice Ao22 t682.length co22) := bq_ B686 3; have hfz60_0 := blk_frozen B686.out 0; have hfz60_1 := blk_frozen B686.out 1; have hfz60_2 := blk_frozen B686.out 2; have hfz60_3 := blk_frozen B686.out 3) | ((with_reducible refine gate_callee (f := 23) rfl ?_); refine goesL_ (some 94) rfl rfl Tryd.func23 (by kernel_rfl) rfl #[.agg #[.int .i64 t679, .int .i64 t680, .int .i64 t681, .slice Ao22 t682.length co22], .int .i64 x19_2] rfl (by (try simp only [List.map_toArray, List.map_cons, List.map_nil]); first | done | rfl | (go_simp; done)) ?_; (with_reducible refine (tree_Path.calls k2 t679 t680 t681 _ _ t682 x19_2 t710 t713 _ ?side1 ?side2 ?side3 A46.out).mono ?_); (case side1 => repeat (first | exact (Kd.S_reads' HO_687003.out).2.2 | (with_reducible refine Kd.C_alloc ?_ _) | (with_reducible refine Kd.C_drewN ?_ _) | (with_reducible refine Kd.C_drew ?_))); (case side2 => exact (Kd.S_reads' HO_687003.out).2.1); (case side3 => repeat (first | exact (GL.below HRG.out HB.out) | (with_reducible refine GL.alloc ?_ _) | (with_reducible refine GL.drewN ?_ _) | (with_reducible refine GL.drew ?_))); rintro e w61 ⟨v711, rfl, ho0, hb⟩; refine ⟨_, rfl, ?_⟩; have n0_ := Aside0.mk (Kd.R_elder' (by (with_reducible repeat (first | apply Kd.R_alloc | apply Kd.R_drewN | apply Kd.R_drew)); exact HO_12.out) (Kd.R_base ho0) hb); have n1_ := Aside0.mk (Kd.S_elder' (by (with_reducible repeat (first | apply Kd.S_alloc | apply Kd.S_drewN | apply Kd.S_drew)); exact HO_679003.out) (Kd.R_base ho0) hb); have n2_ := Aside0.mk (Kd.S_elder' (by (with_reducible repeat (first | apply Kd.S_alloc | apply Kd.S_drewN | apply Kd.S_drew)); exact HO_687003.out) (Kd.R_base ho0) hb); have n3_ := Aside0.mk (Kd.S_elder' (by (with_reducible repeat (first | apply Kd.S_alloc | apply Kd.S_drewN | apply Kd.S_drew)); exact HO_698003.out) (Kd.R_base ho0) hb); have n4_ := Aside0.mk (Kd.R_elder' (by (with_reducible repeat (first | apply Kd.R_alloc | apply Kd.R_drewN | apply Kd.R_drew)); exact HO708.out) (Kd.R_base ho0) hb); have n5_ := Aside0.mk (Kd.R_lower (Kd.R_new' (Kd.R_new' ho0 (Kd.R_lt (by (with_reducible repeat (first | apply Kd.R_alloc | apply Kd.R_drewN | apply Kd.R_drew)); exact HO_12.out))) (Kd.R_lt (by (with_reducible repeat (first | apply Kd.R_alloc | apply Kd.R_drewN | apply Kd.R_drew)); exact HO708.out))) (below_size (by repeat (first | (with_reducible first | exact HB.out | apply below_alloc | apply pw_below_drewN | apply below_drew1 | refine below_set ?_ GE678.out | refine below_set ?_ GE686.out | refine below_set ?_ GE697.out) | exact HB.out)))); have n6_ := Aside0.mk (blk_below (g := g678) (o := .cells #[.int .i64 t671, .int .i64 t672, .int .i64 t673, .slice Ao17 t674.length co17] 26 (0, 0)) (by exact B678.out) hb); have n7_ := Aside0.mk (blk_below (g := g686) (o := .cells #[.int .i64 t679, .int .i64 t680, .int .i64 t681, .slice Ao22 t682.length co22] 26 (0, 0)) (by exact B686.out) hb); have n8_ := Aside0.mk (blk_below (g := g697) (o := .cells #[.int .i64 t690, .int .i64 t691, .int .i64 t692, .slice Ao30 t693.length co30] 26 (0, 0)) (by exact B697.out) hb); have n9_ := Aside0.mk (below_step (by repeat (first | (with_reducible first | exact HB.out | apply below_alloc | apply pw_below_drewN | apply below_drew1 | refine below_set ?_ GE678.out | refine below_set ?_ GE686.out | refine below_set ?_ GE697.out) | exact HB.out)) hb); clear HO_12; clear HO_679003; clear HO_687003; clear HO_698003; clear HO708; clear B678; clear B686; clear B697; clear HB; have HO_12 := n0_; have HO_679003 := n1_; have HO_687003 := n2_; have HO_698003 := n3_; have HO708 := n4_; have HO712 := n5_; have B678 := n6_; have B686 := n7_; have B697 := n8_; have HB := n9_; clear n0_ n1_ n2_ n3_ n4_ n5_ n6_ n7_ n8_ n9_; (try clear hb); (try clear hb2); (try clear hk); (try clear hi); (try clear ho0)))
           have n0_ := Aside0.mk (Kd.R_drew HO_12.out)
           have n1_ := Aside0.mk (Kd.S_drew HO_679003.out)
           have n2_ := Aside0.mk (Kd.S_drew HO_687003.out)
           have n3_ := Aside0.mk (Kd.S_drew HO_698003.out)
           have n4_ := Aside0.mk (Kd.R_drew HO708.out)
           have n5_ := Aside0.mk (Kd.R_drew HO712.out)
           have n6_ := Aside0.mk (blk_drew B678.out)
           have n7_ := Aside0.mk (blk_drew B686.out)
           have n8_ := Aside0.mk (blk_drew B697.out)
           have n9_ := Aside0.mk (below_drew1 HB.out)
           clear HO_12
           clear HO_679003
           clear HO_687003
           clear HO_698003
           clear HO708
           clear HO712
           clear B678
           clear B686
           clear B697
           clear HB
           have HO_12 := n0_
           have HO_679003 := n1_
           have HO_687003 := n2_
           have HO_698003 := n3_
           have HO708 := n4_
           have HO712 := n5_
           have B678 := n6_
           have B686 := n7_
           have B697 := n8_
           have HB := n9_
           clear n0_ n1_ n2_ n3_ n4_ n5_ n6_ n7_ n8_ n9_
           refine start_ (n := 12) (S := fun w' => w'.cell? ⟨g697, 0, none⟩ = some (.int .i64 t690) ∧ w'.cell? ⟨g697, 1, none⟩ = some (.int .i64 t691) ∧ w'.cell? ⟨g697, 2, none⟩ = some (.int .i64 t692) ∧ w'.cell? ⟨g697, 3, none⟩ = some (.slice Ao30 t693.length co30)) (ds := []) z4_19_ (by kernel_rfl) rfl rfl ⟨bq_ B697 0, bq_ B697 1, bq_ B697 2, bq_ B697 3⟩ (fun hL => ?_); refine with_tabW attestorlaw07_TreeCaps.tab14 attestorlaw07_TreeCaps.bits14 (fun T_ W_ => ?_)
           generalize w61.drew = w62 at HO_12 HO_679003 HO_687003 HO_698003 HO708 HO712 B678 B686 B697 HB hL ⊢
           refine pure_ (i := 1) (N := some 99) (v := ?_) (a' := ?_) z4_20_ rfl rfl (an_ T_) (fun _ _ _ h => h) (Or.inl ⟨by rfl, ?_⟩) ?_ ?_
           rotate_left; · intro w'; go_simp; with_reducible rfl
           rotate_left; · simp only [Act.put, sa_, sb_, sc_, i64_w, i32_w]; rfl
           refine pure_ (i := 2) (N := some 100) (v := ?_) (a' := ?_) z4_21_ rfl rfl (an_ T_) (fun _ _ _ h => h) (Or.inl ⟨by rfl, ?_⟩) ?_ ?_
           rotate_left; · intro w'; go_simp; with_reducible rfl
           rotate_left; · simp only [Act.put, sa_, sb_, sc_, i64_w, i32_w]; rfl
           refine pure_ (i := 3) (N := some 101) (v := ?_) (a' := ?_) z4_22_ rfl rfl (an_ T_) (fun _ _ _ h => h) (Or.inl ⟨by rfl, ?_⟩) ?_ ?_
           rotate_left; · intro w'; go_simp; with_reducible rfl
           rotate_left; · simp only [Act.put, sa_, sb_, sc_, i64_w, i32_w]; rfl
           refine pure_ (i := 4) (N := some 102) (v := ?_) (a' := ?_) z4_23_ rfl rfl (an_ T_) (fun _ _ _ h => h) (Or.inl ⟨by rfl, ?_⟩) ?_ ?_
           rotate_left; · intro w'; go_simp; with_reducible rfl
           rotate_left; · simp only [Act.put, sa_, sb_, sc_, i64_w, i32_w]; rfl
           refine pure_ (i := 5) (N := some 103) (v := ?_) (a' := ?_) z4_24_ rfl rfl (an_ T_) (fun _ _ _ h => h) (Or.inl ⟨by rfl, ?_⟩) ?_ ?_
           rotate_left; · intro w'; go_simp; with_reducible rfl
           rotate_left; · simp only [Act.put, sa_, sb_, sc_, i64_w, i32_w]; rfl
           refine take_ (i := 0) (N := some 98) (v := ?_) (a' := ?_) z4_25_ rfl rfl (tk_ T_ W_) (fun _ _ _ h => h) (Or.inl ⟨by rfl, ?_⟩) hL ?_ ?_
           rotate_left
           ·rintro w' ⟨s0, s1, s2, s3⟩
            go_simp
            with_reducible rfl
           rotate_left
           ·simp only [Act.put, sa_, sb_, sc_, i64_w, i32_w]
            rfl
           refine one_ (i := 6) (N := some 104) z4_26_ rfl rfl (on_ T_) (by decide) (fun K hK => ?_)
           refine goes_ Tryd.func23 (by kernel_rfl) rfl #[.agg #[.int .i64 t690, .int .i64 t691, .int .i64 t692, .slice Ao30 t693.length co30], .int .i64 ji49] (by rfl) rfl rfl (by (try simp only [List.map_toArray, List.map_cons, List.map_nil]); first | done | (simp only [hji49]; rfl) | rfl | (simp only [List.length_drop, List.length_take]; rfl) | (go_simp; done) | (go_simp; rw [Int.tmod_eq_emod_of_nonneg (by omega)]; omega)) ?_
           with_reducible refine (tree_Path.calls k2 t690 t691 t692 _ _ t693 ji49 t714 t717 _ ?side1 ?side2 ?side3 A50.out).mono ?_
           (case side1 => repeat (first | exact (Kd.S_reads' HO_698003.out).2.2 | (with_reducible refine Kd.C_alloc ?_ _) | (with_reducible refine Kd.C_drewN ?_ _) | (with_reducible refine Kd.C_drew ?_)))
           (case side2 => exact (Kd.S_reads' HO_698003.out).2.1)
           (case side3 => repeat (first | exact (GL.below HRG.out HB.out) | (with_reducible refine GL.alloc ?_ _) | (with_reducible refine GL.drewN ?_ _) | (with_reducible refine GL.drew ?_)))
           rintro e w63 ⟨v715, rfl, ho0, hb⟩
           refine ⟨_, rfl, ?_⟩
           have n0_ := Aside0.mk (Kd.R_elder' (by (with_reducible repeat (first | apply Kd.R_alloc | apply Kd.R_drewN | apply Kd.R_drew)); exact HO_12.out) (Kd.R_base ho0) hb)
           have n1_ := Aside0.mk (Kd.S_elder' (by (with_reducible repeat (first | apply Kd.S_alloc | apply Kd.S_drewN | apply Kd.S_drew)); exact HO_679003.out) (Kd.R_base ho0) hb)
           have n2_ := Aside0.mk (Kd.S_elder' (by (with_reducible repeat (first | apply Kd.S_alloc | apply Kd.S_drewN | apply Kd.S_drew)); exact HO_687003.out) (Kd.R_base ho0) hb)
           have n3_ := Aside0.mk (Kd.S_elder' (by (with_reducible repeat (first | apply Kd.S_alloc | apply Kd.S_drewN | apply Kd.S_drew)); exact HO_698003.out) (Kd.R_base ho0) hb)
           have n4_ := Aside0.mk (Kd.R_elder' (by (with_reducible repeat (first | apply Kd.R_alloc | apply Kd.R_drewN | apply Kd.R_drew)); exact HO708.out) (Kd.R_base ho0) hb)
           have n5_ := Aside0.mk (Kd.R_elder' (by (with_reducible repeat (first | apply Kd.R_alloc | apply Kd.R_drewN | apply Kd.R_drew)); exact HO712.out) (Kd.R_base ho0) hb)
           have n6_ := Aside0.mk (Kd.R_lower (Kd.R_new' (Kd.R_new' (Kd.R_new' ho0 (Kd.R_lt (by (with_reducible repeat (first | apply Kd.R_alloc | apply Kd.R_drewN | apply Kd.R_drew)); exact HO_12.out))) (Kd.R_lt (by (with_reducible repeat (first | apply Kd.R_alloc | apply Kd.R_drewN | apply Kd.R_drew)); exact HO708.out))) (Kd.R_lt (by (with_reducible repeat (first | apply Kd.R_alloc | apply Kd.R_drewN | apply Kd.R_drew)); exact HO712.out))) (below_size (by repeat (first | (with_reducible first | exact HB.out | apply below_alloc | apply pw_below_drewN | apply below_drew1 | refine below_set ?_ GE678.out | refine below_set ?_ GE686.out | refine below_set ?_ GE697.out) | exact HB.out))))
           have n7_ := Aside0.mk (blk_below (g := g678) (o := .cells #[.int .i64 t671, .int .i64 t672, .int .i64 t673, .slice Ao17 t674.length co17] 26 (0, 0)) (by exact B678.out) hb)
           have n8_ := Aside0.mk (blk_below (g := g686) (o := .cells #[.int .i64 t679, .int .i64 t680, .int .i64 t681, .slice Ao22 t682.length co22] 26 (0, 0)) (by exact B686.out) hb)
           have n9_ := Aside0.mk (blk_below (g := g697) (o := .cells #[.int .i64 t690, .int .i64 t691, .int .i64 t692, .slice Ao30 t693.length co30] 26 (0, 0)) (by exact B697.out) hb)
           have n10_ := Aside0.mk (below_step (by repeat (first | (with_reducible first | exact HB.out | apply below_alloc | apply pw_below_drewN | apply below_drew1 | refine below_set ?_ GE678.out | refine below_set ?_ GE686.out | refine below_set ?_ GE697.out) | exact HB.out)) hb)
           clear HO_12
           clear HO_679003
           clear HO_687003
           clear HO_698003
           clear HO708
           clear HO712
           clear B678
           clear B686
           clear B697
           clear HB
           have HO_12 := n0_
           have HO_679003 := n1_
           have HO_687003 := n2_
           have HO_698003 := n3_
           have HO708 := n4_
           have HO712 := n5_
           have HO716 := n6_
           have B678 := n7_
           have B686 := n8_
           have B697 := n9_
           have HB := n10_
           clear n0_ n1_ n2_ n3_ n4_ n5_ n6_ n7_ n8_ n9_ n10_
           (try clear hb)
           (try clear hb2)
           (try clear hk)
           (try clear hi)
           (try clear ho0)
           refine hK.out _ _ ⟨bq_ B697 0, bq_ B697 1, bq_ B697 2, bq_ B697 3⟩ (fun hL => ?_)
           clear hK K
           refine norm_ (a' := ?_) ?_ ?_
           rotate_left
           ·show Act.put _ (some 104) _ = _
            simp only [Act.put, sa_, sb_, sc_, i64_w, i32_w]
            rfl
           refine pure_ (i := 7) (N := some 97) (v := ?_) (a' := ?_) z4_27_ rfl rfl (an_ T_) (fun _ _ _ h => h) (Or.inl ⟨by rfl, ?_⟩) ?_ ?_
           rotate_left; · intro w'; go_simp; with_reducible rfl
           rotate_left; · simp only [Act.put, sa_, sb_, sc_, i64_w, i32_w]; rfl
           refine pure_ (i := 8) (N := some 105) (v := ?_) (a' := ?_) z4_28_ rfl rfl (an_ T_) (fun _ _ _ h => h) (Or.inl ⟨by rfl, ?_⟩) ?_ ?_
           rotate_left; · intro w'; go_simp; with_reducible rfl
           rotate_left; · simp only [Act.put, sa_, sb_, sc_, i64_w, i32_w]; rfl
           refine pure_ (i := 9) (N := some 106) (v := ?_) (a' := ?_) z4_29_ rfl rfl (an_ T_) (fun _ _ _ h => h) (Or.inl ⟨by rfl, ?_⟩) ?_ ?_
           rotate_left; · intro w'; go_simp; with_reducible rfl
           rotate_left; · simp only [Act.put, sa_, sb_, sc_, i64_w, i32_w]; rfl
           refine pure_ (i := 10) (N := some 24) (v := ?_) (a' := ?_) z4_30_ rfl rfl (an_ T_) (fun _ _ _ h => h) (Or.inl ⟨by rfl, ?_⟩) ?_ ?_
           rotate_left; · intro w'; go_simp; with_reducible rfl
           rotate_left; · simp only [Act.put, sa_, sb_, sc_, i64_w, i32_w]; rfl
           refine pure_ (i := 11) (N := some 25) (v := ?_) (a' := ?_) z4_31_ rfl rfl (an_ T_) (fun _ _ _ h => h) (Or.inl ⟨by rfl, ?_⟩) ?_ ?_
           rotate_left; · intro w'; go_simp; with_reducible rfl
           rotate_left; · simp only [Act.put, sa_, sb_, sc_, i64_w, i32_w]; rfl
           refine done_ (done_of T_.out (by kernel_rfl)) ?_
           obtain ⟨Ao64, co64, eo64⟩ := Kd.R_slice HO712.out
           subst eo64
           try go_wp2_with (first | ((with_reducible refine gate_callee (f := 12) rfl ?_); refine goesL_ (some 109) rfl rfl Tryd.func12 (by kernel_rfl) rfl #[.slice Ao64 t710.length co64, .int .i64 20] rfl (by (try simp only [List.map_toArray, List.map_cons, List.map_nil]); first | done | rfl | (go_simp; done)) ?_; (with_reducible refine (attestorlaw07_cut.calls _ _ t710 20 t718 _ ?side1 ?side2 A51.out).mono ?_); (case side1 => repeat (first | exact (Kd.R_reads' HO712.out).2.2 | (with_reducible refine Kd.C_alloc ?_ _) | (with_reducible refine Kd.C_drewN ?_ _) | (with_reducible refine Kd.C_drew ?_))); (case side2 => exact (Kd.R_reads' HO712.out).2.1); rintro e w65 ⟨v719, rfl, ho0, hb⟩; refine ⟨_, rfl, ?_⟩; have n0_ := Aside0.mk (Kd.R_elder' (by (with_reducible repeat (first | apply Kd.R_alloc | apply Kd.R_drewN | apply Kd.R_drew)); exact HO_12.out) (Kd.R_base ho0) hb); have n1_ := Aside0.mk (Kd.S_elder' (by (with_reducible repeat (first | apply Kd.S_alloc | apply Kd.S_drewN | apply Kd.S_drew)); exact HO_679003.out) (Kd.R_base ho0) hb); have n2_ := Aside0.mk (Kd.S_elder' (by (with_reducible repeat (first | apply Kd.S_alloc | apply Kd.S_drewN | apply Kd.S_drew)); exact HO_687003.out) (Kd.R_base ho0) hb); have n3_ := Aside0.mk (Kd.S_elder' (by (with_reducible repeat (first | apply Kd.S_alloc | apply Kd.S_drewN | apply Kd.S_drew)); exact HO_698003.out) (Kd.R_base ho0) hb); have n4_ := Aside0.mk (Kd.R_elder' (by (with_reducible repeat (first | apply Kd.R_alloc | apply Kd.R_drewN | apply Kd.R_drew)); exact HO708.out) (Kd.R_base ho0) hb); have n5_ := Aside0.mk (Kd.R_elder' (by (with_reducible repeat (first | apply Kd.R_alloc | apply Kd.R_drewN | apply Kd.R_drew)); exact HO712.out) (Kd.R_base ho0) hb); have n6_ := Aside0.mk (Kd.R_elder' (by (with_reducible repeat (first | apply Kd.R_alloc | apply Kd.R_drewN | apply Kd.R_drew)); exact HO716.out) (Kd.R_base ho0) hb); have n7_ := Aside0.mk (Kd.R_lower (Kd.R_new' (Kd.R_new' (Kd.R_new' (Kd.R_new' ho0 (Kd.R_lt (by (with_reducible repeat (first | apply Kd.R_alloc | apply Kd.R_drewN | apply Kd.R_drew)); exact HO_12.out))) (Kd.R_lt (by (with_reducible repeat (first | apply Kd.R_alloc | apply Kd.R_drewN | apply Kd.R_drew)); exact HO708.out))) (Kd.R_lt (by (with_reducible repeat (first | apply Kd.R_alloc | apply Kd.R_drewN | apply Kd.R_drew)); exact HO712.out))) (Kd.R_lt (by (with_reducible repeat (first | apply Kd.R_alloc | apply Kd.R_drewN | apply Kd.R_drew)); exact HO716.out))) (below_size (by repeat (first | (with_reducible first | exact HB.out | apply below_alloc | apply pw_below_drewN | apply below_drew1 | refine below_set ?_ GE678.out | refine below_set ?_ GE686.out | refine below_set ?_ GE697.out) | exact HB.out)))); have n8_ := Aside0.mk (blk_below (g := g678) (o := .cells #[.int .i64 t671, .int .i64 t672, .int .i64 t673, .slice Ao17 t674.length co17] 26 (0, 0)) (by exact B678.out) hb); have n9_ := Aside0.mk (blk_below (g := g686) (o := .cells #[.int .i64 t679, .int .i64 t680, .int .i64 t681, .slice Ao22 t682.length co22] 26 (0, 0)) (by exact B686.out) hb); have n10_ := Aside0.mk (blk_below (g := g697) (o := .cells #[.int .i64 t690, .int .i64 t691, .int .i64 t692, .slice Ao30 t693.length co30] 26 (0, 0)) (by exact B697.out) hb); have n11_ := Aside0.mk (below_step (by repeat (first | (with_reducible first | exact HB.out | apply below_alloc | apply pw_below_drewN | apply below_drew1 | refine below_set ?_ GE678.out | refine below_set ?_ GE686.out | refine below_set ?_ GE697.out) | exact HB.out)) hb); clear HO_12; clear HO_679003; clear HO_687003; clear HO_698003; clear HO708; clear HO712; clear HO716; clear B678; clear B686; clear B697; clear HB; have HO_12 := n0_; have HO_679003 := n1_; have HO_687003 := n2_; have HO_698003 := n3_; have HO708 := n4_; have HO712 := n5_; have HO716 := n6_; have HO720 := n7_; have B678 := n8_; have B686 := n9_; have B697 := n10_; have HB := n11_; clear n0_ n1_ n2_ n3_ n4_ n5_ n6_ n7_ n8_ n9_ n10_ n11_; (try clear hb); (try clear hb2); (try clear hk); (try clear hi); (try clear ho0); obtain ⟨Ao67, co67, eo67⟩ := Kd.R_slice HO716.out; subst eo67) | ((with_reducible refine gate_builtin (b := .append) (xs := #[.tmp 109, .tmp 110]) rfl ?_); at_builtin; refine Kd.R_append_rows k36 (w0 := w) w.heap.size rfl (.tmp 109) (.tmp 110) 22 36 (.agg #[(.int .u64 0), (.int .u64 0)]) 16 rfl Tryd.underlying22 info36 rfl (by decide) (by omega) v719 t718 t714 _ _ _ (fun k_ => some k_ ≠ (.slice Ao13 t668.length co13 : Value).ownBlock ∧ some k_ ≠ (v707 : Value).ownBlock ∧ some k_ ≠ (.slice Ao64 t710.length co64 : Value).ownBlock ∧ some k_ ≠ (.slice Ao67 t714.length co67 : Value).ownBlock) (fun _ => False) rfl rfl ?aO ?aR (fun _ _ h => h) (fun _ h => h.elim) ?aF ?aB ?aS ?aL ?_; (case aR => repeat (first | exact (Kd.R_reads' HO716.out).2.2 | (with_reducible refine Kd.C_alloc ?_ _) | (with_reducible refine Kd.C_drewN ?_ _) | (with_reducible refine Kd.C_drew ?_))); (case aB => exact (by repeat (first | (with_reducible first | exact HB.out | apply below_alloc | apply pw_below_drewN | apply below_drew1 | refine below_set ?_ GE678.out | refine below_set ?_ GE686.out | refine below_set ?_ GE697.out) | exact HB.out))); (case aF => exact (fun k_ hk => ⟨Kd.fresh' (Kd.R_lt (by (with_reducible repeat (first | apply Kd.R_alloc | apply Kd.R_drewN | apply Kd.R_drew)); exact HO_12.out)) k_ hk, Kd.fresh' (Kd.R_lt (by (with_reducible repeat (first | apply Kd.R_alloc | apply Kd.R_drewN | apply Kd.R_drew)); exact HO708.out)) k_ hk, Kd.fresh' (Kd.R_lt (by (with_reducible repeat (first | apply Kd.R_alloc | apply Kd.R_drewN | apply Kd.R_drew)); exact HO712.out)) k_ hk, Kd.fresh' (Kd.R_lt (by (with_reducible repeat (first | apply Kd.R_alloc | apply Kd.R_drewN | apply Kd.R_drew)); exact HO716.out)) k_ hk⟩)); (case aO => exact (by (with_reducible repeat (first | apply Kd.R_alloc | apply Kd.R_drewN | apply Kd.R_drew)); exact Kd.R_mono HO720.out (fun _ hk => ⟨hk.1.1.1.2, ⟨hk.1.1.2, ⟨hk.1.2, hk.2⟩⟩⟩))); (case aS => exact (below_size (by repeat (first | (with_reducible first | exact HB.out | apply below_alloc | apply pw_below_drewN | apply below_drew1 | refine below_set ?_ GE678.out | refine below_set ?_ GE686.out | refine below_set ?_ GE697.out) | exact HB.out)))); (case aL => have := LMc52.out; omega); intro v722 w66 ho hb hg hat; rw [← Ny721.out] at ho; have n0_ := Aside0.mk (Kd.R_after (ok := (fun k_ => some k_ ≠ (v707 : Value).ownBlock ∧ some k_ ≠ (.slice Ao64 t710.length co64 : Value).ownBlock ∧ some k_ ≠ (.slice Ao67 t714.length co67 : Value).ownBlock)) (by (with_reducible repeat (first | apply Kd.R_alloc | apply Kd.R_drewN | apply Kd.R_drew)); exact Kd.R_mono HO_12.out (fun _ hk => ⟨⟨hk.1.1.1.2, ⟨hk.1.1.2, hk.1.2⟩⟩, hk.2⟩)) hg hat); have n1_ := Aside0.mk (Kd.S_after (ok := (fun k_ => some k_ ≠ (.slice Ao13 t668.length co13 : Value).ownBlock ∧ some k_ ≠ (.slice Ao22 t682.length co22 : Value).ownBlock ∧ some k_ ≠ (.slice Ao30 t693.length co30 : Value).ownBlock ∧ some k_ ≠ (v707 : Value).ownBlock ∧ some k_ ≠ (.slice Ao64 t710.length co64 : Value).ownBlock ∧ some k_ ≠ (.slice Ao67 t714.length co67 : Value).ownBlock)) (by (with_reducible repeat (first | apply Kd.S_alloc | apply Kd.S_drewN | apply Kd.S_drew)); exact Kd.S_mono HO_679003.out (fun _ hk => ⟨⟨hk.1.1.1.1.1, ⟨hk.1.1.1.1.2.1, ⟨hk.1.1.1.1.2.2, ⟨hk.1.1.1.2, ⟨hk.1.1.2, hk.1.2⟩⟩⟩⟩⟩, hk.2⟩)) hg hat); have n2_ := Aside0.mk (Kd.S_after (ok := (fun k_ => some k_ ≠ (.slice Ao13 t668.length co13 : Value).ownBlock ∧ some k_ ≠ (.slice Ao17 t674.length co17 : Value).ownBlock ∧ some k_ ≠ (.slice Ao30 t693.length co30 : Value).ownBlock ∧ some k_ ≠ (v707 : Value).ownBlock ∧ some k_ ≠ (.slice Ao64 t710.length co64 : Value).ownBlock ∧ some k_ ≠ (.slice Ao67 t714.length co67 : Value).ownBlock)) (by (with_reducible repeat (first | apply Kd.S_alloc | apply Kd.S_drewN | apply Kd.S_drew)); exact Kd.S_mono HO_687003.out (fun _ hk => ⟨⟨hk.1.1.1.1.1, ⟨hk.1.1.1.1.2.1, ⟨hk.1.1.1.1.2.2, ⟨hk.1.1.1.2, ⟨hk.1.1.2, hk.1.2⟩⟩⟩⟩⟩, hk.2⟩)) hg hat); have n3_ := Aside0.mk (Kd.S_after (ok := (fun k_ => some k_ ≠ (.slice Ao13 t668.length co13 : Value).ownBlock ∧ some k_ ≠ (.slice Ao17 t674.length co17 : Value).ownBlock ∧ some k_ ≠ (.slice Ao22 t682.length co22 : Value).ownBlock ∧ some k_ ≠ (v707 : Value).ownBlock ∧ some k_ ≠ (.slice Ao64 t710.length co64 : Value).ownBlock ∧ some k_ ≠ (.slice Ao67 t714.length co67 : Value).ownBlock)) (by (with_reducible repeat (first | apply Kd.S_alloc | apply Kd.S_drewN | apply Kd.S_drew)); exact Kd.S_mono HO_698003.out (fun _ hk => ⟨⟨hk.1.1.1.1.1, ⟨hk.1.1.1.1.2.1, ⟨hk.1.1.1.1.2.2, ⟨hk.1.1.1.2, ⟨hk.1.1.2, hk.1.2⟩⟩⟩⟩⟩, hk.2⟩)) hg hat); have n4_ := Aside0.mk (blk_grown (g := g678) (o := .cells #[.int .i64 t671, .int .i64 t672, .int .i64 t673, .slice Ao17 t674.length co17] 26 (0, 0)) (by exact B678.out) hg (Kd.R_ne HO720.out B678.out (by decide))); have n5_ := Aside0.mk (blk_grown (g := g686) (o := .cells #[.int .i64 t679, .int .i64 t680, .int .i64 t681, .slice Ao22 t682.length co22] 26 (0, 0)) (by exact B686.out) hg (Kd.R_ne HO720.out B686.out (by decide))); have n6_ := Aside0.mk (blk_grown (g := g697) (o := .cells #[.int .i64 t690, .int .i64 t691, .int .i64 t692, .slice Ao30 t693.length co30] 26 (0, 0)) (by exact B697.out) hg (Kd.R_ne HO720.out B697.out (by decide))); have n7_ := Aside0.mk (Kd.R_after (ok := (fun k_ => some k_ ≠ (.slice Ao13 t668.length co13 : Value).ownBlock ∧ some k_ ≠ (.slice Ao64 t710.length co64 : Value).ownBlock ∧ some k_ ≠ (.slice Ao67 t714.length co67 : Value).ownBlock)) (by (with_reducible repeat (first | apply Kd.R_alloc | apply Kd.R_drewN | apply Kd.R_drew)); exact Kd.R_mono HO708.out (fun _ hk => ⟨⟨hk.1.1.1.2, ⟨hk.1.1.2, hk.1.2⟩⟩, hk.2⟩)) hg hat); have n8_ := Aside0.mk (Kd.R_after (ok := (fun k_ => some k_ ≠ (.slice Ao13 t668.length co13 : Value).ownBlock ∧ some k_ ≠ (v707 : Value).ownBlock ∧ some k_ ≠ (.slice Ao67 t714.length co67 : Value).ownBlock)) (by (with_reducible repeat (first | apply Kd.R_alloc | apply Kd.R_drewN | apply Kd.R_drew)); exact Kd.R_mono HO712.out (fun _ hk => ⟨⟨hk.1.1.1.2, ⟨hk.1.1.2, hk.1.2⟩⟩, hk.2⟩)) hg hat); have n9_ := Aside0.mk (Kd.R_after (ok := (fun k_ => some k_ ≠ (.slice Ao13 t668.length co13 : Value).ownBlock ∧ some k_ ≠ (v707 : Value).ownBlock ∧ some k_ ≠ (.slice Ao64 t710.length co64 : Value).ownBlock)) (by (with_reducible repeat (first | apply Kd.R_alloc | apply Kd.R_drewN | apply Kd.R_drew)); exact Kd.R_mono HO716.out (fun _ hk => ⟨⟨hk.1.1.1.2, ⟨hk.1.1.2, hk.1.2⟩⟩, hk.2⟩)) hg hat); have n10_ := Aside0.mk (hb); have n11_ := Aside0.mk (ho); clear HO_12; clear HO_679003; clear HO_687003; clear HO_698003; clear B678; clear B686; clear B697; clear HO708; clear HO712; clear HO716; clear HB; clear HO720; have HO_12 := n0_; have HO_679003 := n1_; have HO_687003 := n2_; have HO_698003 := n3_; have B678 := n4_; have B686 := n5_; have B697 := n6_; have HO708 := n7_; have HO712 := n8_; have HO716 := n9_; have HB := n10_; have HO723 := n11_; clear n0_ n1_ n2_ n3_ n4_ n5_ n6_ n7_ n8_ n9_ n10_ n11_; clear ho hb hg hat; obtain ⟨Ao68, co68, eo68⟩ := Kd.R_slice HO708.out; subst eo68; obtain ⟨Ao69, co69, eo69⟩ := Kd.R_slice HO723.out; subst eo69) | ((with_reducible refine gate_callee (f := 18) rfl ?_); refine goesL_ (some 112) rfl rfl Tryd.func18 (by kernel_rfl) rfl #[.slice Ao68 t706.length co68, .slice Ao69 y721.length co69] rfl (by (try simp only [List.map_toArray, List.map_cons, List.map_nil]); first | done | rfl | (go_simp; done)) ?_; (with_reducible refine (attestorref07_Equal.calls k2 _ _ t706 _ _ y721 true _ ?side1 ?side2 ?side3 ?side4 A53.out).mono ?_); (case side1 => repeat (first | exact (Kd.R_reads' HO708.out).2.2 | (with_reducible refine Kd.C_alloc ?_ _) | (with_reducible refine Kd.C_drewN ?_ _) | (with_reducible refine Kd.C_drew ?_))); (case side2 => exact (Kd.R_reads' HO708.out).2.1); (case side3 => repeat (first | exact (Kd.R_reads' HO723.out).2.2 | (with_reducible refine Kd.C_alloc ?_ _) | (with_reducible refine Kd.C_drewN ?_ _) | (with_reducible refine Kd.C_drew ?_))); (case side4 => exact (Kd.R_reads' HO723.out).2.1); rintro e w' ⟨rfl, ⟨nd, rfl⟩⟩; refine ⟨_, rfl, ?_⟩))
           go_roundg k2
           case measure => have := HJ10.out; have := HK2.out; omega
           case rel => exact ⟨(wrap64 (x19_2 + 1)), (by first | rfl | (simp; done) | (simp [*]; done) | (simp; rfl) | (simp; decide +kernel)), H', ⟨by have := HJ10.out; have := HK2.out; omega⟩, ⟨by (with_reducible repeat (first | apply Kd.R_alloc | apply Kd.R_drewN | apply Kd.R_drew)); exact Kd.R_mono HO_12.out (fun _ hk => trivial)⟩, ⟨by (with_reducible repeat (first | apply Kd.S_alloc | apply Kd.S_drewN | apply Kd.S_drew)); exact Kd.S_mono HO_679003.out (fun _ hk => ⟨hk.1.1, ⟨hk.1.2.1, hk.1.2.2.1⟩⟩)⟩, ⟨by (with_reducible repeat (first | apply Kd.S_alloc | apply Kd.S_drewN | apply Kd.S_drew)); exact Kd.S_mono HO_687003.out (fun _ hk => ⟨hk.1.1, ⟨hk.1.2.1, hk.1.2.2.1⟩⟩)⟩, ⟨by (with_reducible repeat (first | apply Kd.S_alloc | apply Kd.S_drewN | apply Kd.S_drew)); exact Kd.S_mono HO_698003.out (fun _ hk => ⟨hk.1.1, ⟨hk.1.2.1, hk.1.2.2.1⟩⟩)⟩, ⟨by exact B678.out⟩, ⟨by exact B686.out⟩, ⟨by exact B697.out⟩, ⟨by repeat (first | (with_reducible first | exact HB.out | apply below_alloc | apply pw_below_drewN | apply below_drew1 | refine below_set ?_ GE678.out | refine below_set ?_ GE686.out | refine below_set ?_ GE697.out) | exact HB.out)⟩⟩
          ·replace c54 := Bool.eq_false_iff.mpr c54
           subst c54
           have H1 : (none) = some r := by rw [if_neg (show ¬ (false = true) by decide)] at H; exact H
           clear H
           have H := H1
           clear H1
           exact absurd H (by simp)
         ·rw [if_neg c52] at H
          exact absurd H (by simp)
        ·rw [if_neg c48] at H
         exact absurd H (by simp)
       ·rw [if_neg c44] at H
        have c44b0 : decide (x19_2 < (t668.length : Int)) = false := decide_eq_false c44
        clear c44
        replace H := Option.bind_eq_some_iff.mp H
        obtain ⟨t705, A700, H⟩ := H
        have A70 := Aside0.mk A700
        clear A700
        obtain rfl := Option.some.inj H
        go_wp2_with (first | ((with_reducible refine gate_callee (f := 21) rfl ?_); refine goesL_ (some 114) rfl rfl Tryd.func21 (by kernel_rfl) rfl #[] rfl (by (try simp only [List.map_toArray, List.map_cons, List.map_nil]); first | done | rfl | (go_simp; done)) ?_; (with_reducible refine (attestorlaw07_lives.calls k2  t705 _ ?side1 A70.out).mono ?_); (case side1 => repeat (first | exact (GL.below HRG.out HB.out) | (with_reducible refine GL.alloc ?_ _) | (with_reducible refine GL.drewN ?_ _) | (with_reducible refine GL.drew ?_))); rintro e w71 ⟨rfl, hb⟩; refine ⟨_, rfl, ?_⟩; have n0_ := Aside0.mk (Kd.R_below (by (with_reducible repeat (first | apply Kd.R_alloc | apply Kd.R_drewN | apply Kd.R_drew)); exact HO_12.out) hb); have n1_ := Aside0.mk (Kd.S_below (by (with_reducible repeat (first | apply Kd.S_alloc | apply Kd.S_drewN | apply Kd.S_drew)); exact HO_679003.out) hb); have n2_ := Aside0.mk (Kd.S_below (by (with_reducible repeat (first | apply Kd.S_alloc | apply Kd.S_drewN | apply Kd.S_drew)); exact HO_687003.out) hb); have n3_ := Aside0.mk (Kd.S_below (by (with_reducible repeat (first | apply Kd.S_alloc | apply Kd.S_drewN | apply Kd.S_drew)); exact HO_698003.out) hb); have n4_ := Aside0.mk (blk_below (g := g678) (o := .cells #[.int .i64 t671, .int .i64 t672, .int .i64 t673, .slice Ao17 t674.length co17] 26 (0, 0)) (by exact B678.out) hb); have n5_ := Aside0.mk (blk_below (g := g686) (o := .cells #[.int .i64 t679, .int .i64 t680, .int .i64 t681, .slice Ao22 t682.length co22] 26 (0, 0)) (by exact B686.out) hb); have n6_ := Aside0.mk (blk_below (g := g697) (o := .cells #[.int .i64 t690, .int .i64 t691, .int .i64 t692, .slice Ao30 t693.length co30] 26 (0, 0)) (by exact B697.out) hb); have n7_ := Aside0.mk (below_step (by repeat (first | (with_reducible first | exact HB.out | apply below_alloc | apply pw_below_drewN | apply below_drew1 | refine below_set ?_ GE678.out | refine below_set ?_ GE686.out | refine below_set ?_ GE697.out) | exact HB.out)) hb); clear HO_12; clear HO_679003; clear HO_687003; clear HO_698003; clear B678; clear B686; clear B697; clear HB; have HO_12 := n0_; have HO_679003 := n1_; have HO_687003 := n2_; have HO_698003 := n3_; have B678 := n4_; have B686 := n5_; have B697 := n6_; have HB := n7_; clear n0_ n1_ n2_ n3_ n4_ n5_ n6_ n7_; (try clear hb); (try clear hb2); (try clear hk); (try clear hi)))
        go_ret
        exact ⟨by first | rfl | (simp [errW_none, errW_some] <;> rfl) | (simp [*, errW_none, errW_some] <;> rfl), by repeat (first | (with_reducible first | exact HB.out | apply below_alloc | apply pw_below_drewN | apply below_drew1 | refine below_set ?_ GE678.out | refine below_set ?_ GE686.out | refine below_set ?_ GE697.out) | exact HB.out)⟩

end Go.Proofs.YtpnpmeogffodgaaDoor.Q
end
section
namespace Go.Proofs.YtpnpmeogffodgaaDoor.Q
open Go.RowKit Go.Proofs.YtpnpmeogffodgaaDoorW.PrintWords Go.Proofs.YtpnpmeogffodgaaDoorW.PrintLast Go.Proofs.YtpnpmeogffodgaaDoorW.PrintMore
open Go.Proofs.YtpnpmeogffodgaaDoor.Num
set_option linter.unusedVariables false
set_option linter.unusedSimpArgs false
theorem caps_l {f : Int} (hv : 0 ≤ f ∧ f < 4) (n c : Nat) (hn : n + c ≤ 5) (l : List S36) (hl : l.length = 2 ^ (n + c)) (h : ∀ d ∈ l, pD f d) : ∀ m j k, m + j = l.length → m + 1100 < k → attestorlaw07_TreeCaps.l0 k ((n + c : Nat) : Int) (c : Int) l (j : Int) f ((n + c : Nat) : Int) 0 (lvl f (n + c) l) f ((n + c : Nat) : Int) (c : Int) (lvl f n l) f (c : Int) 0 (lvl f c (top f n l)) = some true
  | _, _, 0, _, hk => by omega
  | 0, j, k + 1, hj, hk => by
    rw [attestorlaw07_TreeCaps.l0, if_neg (by omega)]
    exact bnd (lives_true k (by omega)) rfl
  | m + 1, j, k + 1, hj, hk => by
    have hb : 2 ^ (n + c) ≤ 2 ^ 5 := Nat.pow_le_pow_right (by omega) hn
    have e1 : tree_Path.f k f ((n + c : Nat) : Int) 0 (lvl f (n + c) l) (j : Int) = some (pth f (n + c) l j, 0) := tpath_f hv (n + c) 0 k j l (by omega) (by omega) hl h (by omega)
    have e2 := tpath_f hv n c k j l (by omega) (by omega) hl h (by omega)
    have ht : (top f n l).length = 2 ^ c := top_len f n c l hl
    have hi : j / 2 ^ n < (top f n l).length := by
      rw [ht]
      refine Nat.div_lt_of_lt_mul ?_
      rw [← Nat.pow_add, ← hl]; omega
    have e3 : tree_Path.f k f (c : Int) 0 (lvl f c (top f n l)) ((j / 2 ^ n : Nat) : Int) = some (pth f c (top f n l) (j / 2 ^ n), 0) := by
      have := tpath_f hv c 0 k (j / 2 ^ n) (top f n l) (by omega) (by omega) ht (top_p hv n l h) hi
      rw [Nat.add_zero] at this
      exact this
    have hs : shr .i64 (j : Int) (n : Int) = ((j / 2 ^ n : Nat) : Int) := by rw [shr_of _ n (by omega)]; rfl
    rw [attestorlaw07_TreeCaps.l0, if_pos (by omega), show wrap64 (((n + c : Nat) : Int) - (c : Int)) = (n : Int) by unfold wrap64; omega]
    refine bnd e1 (bnd e2 ?_)
    rw [if_pos (by omega), hs]
    refine bnd e3 (bnd (cut_f (pth f n l j) 20 (by omega)) ?_)
    rw [List.take_of_length_le (by rw [pth_len]; omega), if_pos (by rw [pth_len, pth_len]; omega), ← pth_add f n c l j]
    refine bnd (equal_self _ (by rw [pth_len]; omega) k (by omega)) ?_
    rw [if_pos rfl, show wrap64 ((j : Int) + 1) = ((j + 1 : Nat) : Int) by unfold wrap64; omega]
    exact caps_l hv n c hn l hl h m (j + 1) k (by omega) (by omega)
theorem caps_true (a0 a1 a2 : Int) (h0 : 0 ≤ a0 ∧ a0 < 256) (h1 : 0 ≤ a1 ∧ a1 < 256) (h2 : 0 ≤ a2 ∧ a2 < 256) (s : List Int) (hs : ∀ y ∈ s, 0 ≤ y) : attestorlaw07_TreeCaps.f 2000 a0 a1 a2 s = some true := by
  have hv : 0 ≤ wrap64 (Int.tmod a0 4) ∧ wrap64 (Int.tmod a0 4) < 4 := by
    rw [Int.tmod_eq_emod_of_nonneg h0.1]
    unfold wrap64
    omega
  obtain ⟨x, hx, hx5⟩ : ∃ x : Nat, wrap64 (Int.tmod a1 6) = (x : Int) ∧ x ≤ 5 := by
    rw [Int.tmod_eq_emod_of_nonneg h1.1]
    refine ⟨(a1 % 6).toNat, ?_, by omega⟩
    unfold wrap64
    omega
  have w1 : wrap64 ((x : Int) + 1) = ((x + 1 : Nat) : Int) := by unfold wrap64; omega
  obtain ⟨c, hc, hcx⟩ : ∃ c : Nat, Int.tmod (wrap64 a2) ((x + 1 : Nat) : Int) = (c : Int) ∧ c ≤ x := by
    rw [show wrap64 a2 = a2 by unfold wrap64; omega, Int.tmod_eq_emod_of_nonneg h2.1]
    have l := Int.emod_lt_of_pos a2 (show (0 : Int) < ((x + 1 : Nat) : Int) by omega)
    have g := Int.emod_nonneg a2 (show ((x + 1 : Nat) : Int) ≠ 0 by omega)
    exact ⟨(a2 % ((x + 1 : Nat) : Int)).toNat, by omega, by omega⟩
  unfold attestorlaw07_TreeCaps.f
  rw [hx, w1, hc]
  generalize wrap64 (Int.tmod a0 4) = f at hv ⊢
  obtain ⟨n, rfl⟩ : ∃ n, x = n + c := ⟨x - c, by omega⟩
  have hb : 2 ^ (n + c) ≤ 2 ^ 5 := Nat.pow_le_pow_right (by omega) hx5
  obtain ⟨l, hl, hlen, hp⟩ := leaves_f hv (n + c) 2000 (by omega) (by omega) s hs
  have ht : (top f n l).length = 2 ^ c := top_len f n c l hlen
  have hc5 : 2 ^ c ≤ 2 ^ 5 := Nat.pow_le_pow_right (by omega) (by omega)
  have bW : tree_Build.f 2000 f l 0 = some (f, ((n + c : Nat) : Int), 0, lvl f (n + c) l, 0) := build_f hv (n + c) 0 2000 l (by omega) (by omega) hlen hp
  have bH : tree_Build.f 2000 f (top f n l) 0 = some (f, (c : Int), 0, lvl f c (top f n l), 0) := build_f hv c 0 2000 (top f n l) (by omega) (by omega) ht (top_p hv n l hp)
  have cW : tree_Cap.f 2000 f ((n + c : Nat) : Int) 0 (lvl f (n + c) l) = some (top f (n + c) l) := tcap_f hv (n + c) 0 2000 l (by omega) (by omega) hlen hp
  have cH : tree_Cap.f 2000 f (c : Int) 0 (lvl f c (top f n l)) = some (top f c (top f n l)) := tcap_f hv c 0 2000 (top f n l) (by omega) (by omega) ht (top_p hv n l hp)
  have hone : (top f (n + c) l).length = 2 ^ 0 := top_len f (n + c) 0 l (by rw [Nat.add_zero]; exact hlen)
  rw [if_neg (by omega)]
  refine bnd hl (bnd bW (bnd (build_f hv n c 2000 l (by omega) (by omega) hlen hp) (bnd (tcap_f hv n c 2000 l (by omega) (by omega) hlen hp) (bnd bH ?_))))
  rw [if_pos rfl, if_pos rfl, if_pos rfl]
  refine bnd cW (bnd cH ?_)
  rw [← top_add f c n l]
  refine bnd (equal_self _ (by omega) 2000 (by omega)) ?_
  show attestorlaw07_TreeCaps.j0 (1999 + 1) _ _ _ (!true) _ _ _ _ _ _ _ _ _ _ _ _ = some true
  rw [attestorlaw07_TreeCaps.j0, if_neg (by decide)]
  exact caps_l hv n c hx5 l hlen hp l.length 0 1999 (by omega) (by omega)
end Go.Proofs.YtpnpmeogffodgaaDoor.Q
end
section
namespace Go.Proofs.YtpnpmeogffodgaaDoor.Q
open Go.ChangeShapes Go.WideShapes Go.ChangeAt Go.WideMaps Go.WideElems Go.RowKit
open Go.Proofs.YtpnpmeogffodgaaDoorW.PrintWords Go.Proofs.YtpnpmeogffodgaaDoorW.PrintLast Go.Proofs.YtpnpmeogffodgaaDoorW.PrintMore
open Go.Proofs.YtpnpmeogffodgaaDoor.Opn
set_option linter.unusedVariables false

set_option maxRecDepth 100000 in
theorem treeCaps_lifted (os : Os) (started : os.Started) (H : Type) (enc : TypeId × Value → H) :
    ReturnsInHanded {} Tryd.checked os 4 .any (fun w args => (Rows.treeCapsSpec.pre enc Tryd.prog Tryd.f4 [] false w args ∧ laidMetH Tryd.prog laid1 w) ∧ sizedMet enc Tryd.prog Tryd.f4 (OpenSpec.ofChange Rows.treeCapsSpec) false w args)
      (Rows.treeCapsSpec.post enc Tryd.prog Tryd.f4 false true false false) := by
  refine returnsInHanded_of_change_and (C := Tryd.checked) (X := (fun w _ => laidMetH Tryd.prog laid1 w)) (fun _ _ _ hh h => h.of_heap hh) own started (by kernel_rfl) Tryd.func4
    (ChangeSpec.witness_shaped (enc := enc) (C := Tryd.checked) (os := os) (X := (fun w _ => laidMetH Tryd.prog laid1 w)) false (World.doorLaid Tryd.prog 400 os) #[.int .u8 0, .int .u8 0, .int .u8 0, .slice none 0 0] 8 rfl (World.shaped_of_RefB (by kernel_rfl) (by kernel_rfl)) (by kernel_rfl) (by kernel_rfl) (by kernel_rfl) (door_met os _)) ?_
  intro W base args ds gs before hval0 hW _ _ hL _
  have hval : ∀ (j : Nat) t v, Tryd.f4.params[j]? = some t → args[j]? = some v → Value.okWide Tryd.prog W .any base t v := hval0
  have hW' := hW
  obtain ⟨p, q, hA0, hV, rfl, hfz, hnd⟩ := hW
  have hA : DataW.TrodAll enc Tryd.prog W 0 (fun _ => true) true Tryd.f4.params.toList args.toList ds p := hA0
  rw [Tryd.params4] at hA hval
  obtain ⟨v0, vs0, d0, ds0, p0, q0, hargs, rfl, rfl, h0, r0⟩ := trodAll_cons hA
  obtain ⟨v1, vs1, d1, ds1, p1, q1, rfl, rfl, rfl, h1, r1⟩ := trodAll_cons r0
  obtain ⟨v2, vs2, d2, ds2, p2, q2, rfl, rfl, rfl, h2, r2⟩ := trodAll_cons r1
  obtain ⟨v3, vs3, d3, ds3, p3, q3, rfl, rfl, rfl, h3, r3⟩ := trodAll_cons r2
  obtain ⟨rfl, rfl, rfl⟩ := trodAll_nil r3
  obtain rfl : args = #[v0, v1, v2, v3] := by cases args; simp_all
  obtain ⟨rfl, rfl⟩ := trodVars_none hV
  obtain ⟨a0, rfl, rfl, rfl, w0⟩ := open_int Tryd.underlying5 (hval 0 5 v0 rfl rfl) h0
  obtain ⟨a1, rfl, rfl, rfl, w1⟩ := open_int Tryd.underlying5 (hval 1 5 v1 rfl rfl) h1
  obtain ⟨a2, rfl, rfl, rfl, w2⟩ := open_int Tryd.underlying5 (hval 2 5 v2 rfl rfl) h2
  obtain ⟨a3, len3, cap3, rfl⟩ := okWide_slice Tryd.underlying39 (hval 3 39 v3 rfl rfl)
  have k3 := h3
  have lt3 : ∀ x ∈ p3, x.block < W.heap.size := by obtain ⟨m, hm⟩ := k3; exact DataW.trod_lt m _ _ _ hm
  obtain ⟨m3, hm3⟩ := h3
  obtain ⟨l3, ⟨A3, c3, hc3, hle3, hC3⟩, hw3⟩ := opn39 (enc := enc) (W := W) m3 _ _ hm3
  simp only [Value.cells, List.cons.injEq, and_true, Value.slice.injEq] at hc3
  obtain ⟨rfl, rfl, rfl⟩ := hc3
  clear hA0 hval0
  refine (attestorlaw07_TreeCaps.calls 2000 a0 a1 a2 a3 cap3 l3 true W hC3 hle3 (gl_of_laid hL) (caps_true a0 a1 a2 (wf_u8 w0) (wf_u8 w1) (wf_u8 w2) l3 (fun y hy => (wf_u64 (hw3 y hy)).1))).mono fun e W' ⟨he, bel⟩ => ?_
  subst he
  exact ⟨_, rfl, _, _, _, [], _, [], hW', trodAll_mk1 (shut_bool Tryd.underlying4 _), (trodAll_cons_mk (shut_int Tryd.underlying5 w0) (trodAll_cons_mk (shut_int Tryd.underlying5 w1) (trodAll_cons_mk (shut_int Tryd.underlying5 w2) (trodAll_cons_mk (Below.trod laidOut (by kernel_rfl) (of_decide_eq_true (by kernel_rfl)) k3 bel lt3) trodAll_mk0)))), rfl, bel.frame _, fun h => by cases h⟩
theorem treeCaps_row : Rows.TreeCapsSaid :=
  OpenClaim.holds_of_wide 4 Tryd.f4 rfl rfl rfl rfl rfl rfl rfl ⟨rfl, rfl, rfl, rfl, rfl⟩ rfl rfl rfl rfl rfl (by kernel_rfl) Tryd.func4 (by kernel_rfl)
    (of_decide_eq_true (by kernel_rfl)) (by unfold Func.isWrapper; first | (rw [if_pos (by decide +kernel)]; kernel_rfl) | (rw [if_neg (by decide +kernel)]; exact ⟨rfl, rfl⟩))
    (fun os started H enc _ => treeCaps_lifted os started H enc)
theorem treeCaps_card : Rows.TreeCapsCardSaid :=
  Claim7.holds_tied_plain_at .later [] [.widerDeep, .data, .data] true Rows.treeCapsCard.stood.harness false
    treeCaps_row (fun _ h => by cases h) (by kernel_rfl) (fun _ h => by cases h) treeCaps_row_tie rfl ⟨rfl, rfl⟩ (by kernel_rfl) rfl
    (fun f fn hf hfn => by
      obtain rfl : f = 4 := Option.some.inj ((show Tryd.prog.funcNamed "attestor/attestorlaw07.TreeCaps" = some 4 by kernel_rfl).symm.trans hf) |>.symm
      obtain rfl : fn = Tryd.f4 := (Option.some.inj (Tryd.func4.symm.trans hfn)).symm
      exact ⟨by kernel_rfl, fun j t ht => by
        rw [Tryd.params4] at ht
        have hm : t ∈ [5, 5, 5, 39] := by simpa using Array.mem_of_getElem? ht
        have hall : ([5, 5, 5, 39].all fun u => !Tryd.prog.wantsStandIn u) = true := by kernel_rfl
        exact (show Tryd.prog.wantsStandIn t = false by simpa using List.all_eq_true.1 hall t hm)⟩)
    (by kernel_rfl)
end Go.Proofs.YtpnpmeogffodgaaDoor.Q
namespace Go.Proofs.YtpnpmeogffodgaaDoor
/-- Under a short name, for the claim. -/
theorem treeCaps_holds : Rows.TreeCapsCardSaid := Q.treeCaps_card
end Go.Proofs.YtpnpmeogffodgaaDoor
#print axioms Go.Proofs.YtpnpmeogffodgaaDoor.treeCaps_holds
end
