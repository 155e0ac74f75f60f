/- Several texts in one, in build order. What they prove, each by its own first remark:
Written by our own copy of a printing program (a twelfth state) out of the translation. Not trusted: Lean checks it.
A range over a function whose iterator hands out rows that lie in memory: the law of the loop, for a loop whose body only goes on (own statement and proof, over the kit's laws of one round).
tree.rising's closure by hand: an iterator that hands out the levels of a tree, each a row of its own making.
tree.Build by hand (a range over the function that tree.rising hands back): what it computes, and its contract.
Of PTreeA what this claim needs.
From the rows' facts on arguments to what the plain laws ask.
Of PChecks what this claim needs. -/
import Derived.Test.YtpnpmeogffodgaaDoorM2
import Derived.Test.YtpnpmeogffodgaaDoorM3
import Derived.RangeFuncWrites
import Derived.RangeFuncCalls
import Derived.RangeFuncLeaves
import Derived.Shelf.Abstract
import Derived.OwnWalkIn
import Derived.TacticsInMore
import Derived.LoopNIn
import Derived.LoopIn
section
namespace Go.Proofs.YtpnpmeogffodgaaDoor.Q
open Go.RowKit Go.Proofs.YtpnpmeogffodgaaDoorW.PrintWords Go.Proofs.YtpnpmeogffodgaaDoorW.PrintLast Go.Proofs.YtpnpmeogffodgaaDoorW.PrintMore
attribute [local go_sem] max2_int min2_int max_two min_two max_three min_three max_four min_four run_store_fnV run_store_fnc run_store_nfn   -- for this text's walks alone
set_option linter.unusedVariables false
set_option linter.unusedSimpArgs false

attribute [local go_sem high] eqA36
abbrev z26_0_ : Array Bool := #[false, false, false, false, false, false, false, false, false, false, false, false, false, false]
abbrev z26_1_ : Array Bool := #[true, false, false, false, false, false, false, false, false, false, false, false, false, false]
abbrev z26_2_ : Array Bool := #[true, true, false, false, false, false, false, false, false, false, false, false, false, false]
abbrev z26_3_ : Array Bool := #[true, true, false, true, false, false, false, false, false, false, false, false, false, false]
abbrev z26_4_ : Array Bool := #[true, true, false, true, false, true, false, false, false, false, false, false, false, false]
abbrev z26_5_ : Array Bool := #[true, true, false, true, false, true, true, false, false, false, false, false, false, false]
abbrev z26_6_ : Array Bool := #[true, true, false, true, false, true, true, true, false, false, false, false, false, false]
abbrev z26_7_ : Array Bool := #[true, true, false, true, false, true, true, true, true, false, false, false, false, false]
abbrev z26_8_ : Array Bool := #[true, true, false, true, false, true, true, true, true, true, false, false, false, false]
abbrev z26_9_ : Array Bool := #[true, true, false, true, false, true, true, true, true, true, true, false, false, false]
abbrev z26_10_ : Array Bool := #[true, true, true, true, false, true, true, true, true, true, true, false, false, false]
abbrev z26_11_ : Array Bool := #[true, true, true, true, false, true, true, true, true, true, true, true, false, false]
abbrev z26_12_ : Array Bool := #[true, true, true, true, true, true, true, true, true, true, true, true, false, false]
abbrev z26_13_ : Array Bool := #[true, true, true, true, true, true, true, true, true, true, true, true, true, false]
abbrev z26_14_ : Array Bool := #[true, true, true, true, true, true, true, true, true, true, true, true, true, true]
/-! ### tree_Check: function 26 -/
def tree_Check.f (a0 : Int) (l1 : List (S36)) (a2 : Int) (a3_0 : Int) (a3_1 : Int) (l4 : List (S36)) : Option (Bool) := (tree_height.f (l1.length : Int)).bind fun t188 => (if t188 < 0 then (some false) else ((tree_opens.f a0 a2 a3_0 a3_1 l4).bind fun t189 => (if t189 = true then ((tree_proper.f a0 l1).bind fun t190 => (if t190 = true then (if (wrap64 (t188 + (l4.length : Int))) > 18 then (some false) else (if (shr .i64 a2 (l4.length : Int)) ≥ (l1.length : Int) then (some false) else ((tree_climb.f a0 a2 a3_0 a3_1 l4).bind fun bt191 => (if 0 ≤ (shr .i64 a2 (l4.length : Int)) then (if (shr .i64 a2 (l4.length : Int)) < (l1.length : Int) then (some (bt191.1 == ((rd_T36 l1 (shr .i64 a2 (l4.length : Int))).f0) && (bt191.2 == ((rd_T36 l1 (shr .i64 a2 (l4.length : Int))).f1)))) else (none)) else (none))))) else (some false))) else (some false))))
def tree_Check.T4 : Bool × List (List Nat × List Nat) := (true, [([], []), ([], []), ([], []), ([], []), ([0, 1, 2, 3], [0, 1, 2, 3]), ([], []), ([], []), ([], []), ([7], [7]), ([6, 8], [6, 8]), ([5, 9], [5, 9]), ([10], [10]), ([4, 11], [4, 11]), ([12, 4, 0, 1, 2, 3, 4, 5, 6, 7, 8, 9, 10, 11, 12], [12])])
def tree_Check.B4 : List Nat := [0, 0, 0, 0, 15, 0, 0, 0, 128, 448, 992, 2016, 4095, 8191]
theorem tree_Check.tab4 : rtab .any (opsOf Tryd.f26 4) = tree_Check.T4 := by kernel_rfl
theorem tree_Check.bits4 : waitsOk tree_Check.T4.2 tree_Check.B4 = true := by kernel_rfl
set_option maxHeartbeats 8000000 in
set_option maxRecDepth 100000 in
theorem tree_Check.calls (a0 : Int) (A1 : Option Addr) (c1 : Nat) (l1 : List (S36)) (a2 : Int) (a3_0 : Int) (a3_1 : Int) (A4 : Option Addr) (c4 : Nat) (l4 : List (S36)) (r : Bool) (w : World) (hr1 : Kd.C k36 w A1 l1.length l1) (hc1 : l1.length ≤ c1) (hr4 : Kd.C k36 w A4 l4.length l4) (hc4 : l4.length ≤ c4) (hrG : GL w) (h : tree_Check.f a0 l1 a2 a3_0 a3_1 l4 = some r) :
  Calls Tryd.prog 26 #[.int .i64 a0, .slice A1 l1.length c1, .int .i64 a2, .agg #[.int .u64 a3_0, .int .u64 a3_1], .slice A4 l4.length c4] w fun e w' => e = .returned (.bool r) ∧ Below w.heap.size w w' := by
 have hu36 := Tryd.underlying36
 have HRG := Aside0.mk hrG
 clear hrG
 have HR1 := Aside0.mk hr1
 have HC1 := Aside0.mk hc1
 clear hr1 hc1
 have HR4 := Aside0.mk hr4
 have HC4 := Aside0.mk hc4
 clear hr4 hc4
 have HB := Aside0.mk (Below.refl w.heap.size w)
 have H : ((tree_height.f (l1.length : Int)).bind fun t188 => (if t188 < 0 then (some false) else ((tree_opens.f a0 a2 a3_0 a3_1 l4).bind fun t189 => (if t189 = true then ((tree_proper.f a0 l1).bind fun t190 => (if t190 = true then (if (wrap64 (t188 + (l4.length : Int))) > 18 then (some false) else (if (shr .i64 a2 (l4.length : Int)) ≥ (l1.length : Int) then (some false) else ((tree_climb.f a0 a2 a3_0 a3_1 l4).bind fun bt191 => (if 0 ≤ (shr .i64 a2 (l4.length : Int)) then (if (shr .i64 a2 (l4.length : Int)) < (l1.length : Int) then (some (bt191.1 == ((rd_T36 l1 (shr .i64 a2 (l4.length : Int))).f0) && (bt191.2 == ((rd_T36 l1 (shr .i64 a2 (l4.length : Int))).f1)))) else (none)) else (none))))) else (some false))) else (some false))))) = some r := h
 clear h
 replace H := Option.bind_eq_some_iff.mp H
 obtain ⟨t188, A60, H⟩ := H
 have A6 := Aside0.mk A60
 clear A60
 by_cases c7 : t188 < 0
 ·rw [if_pos c7] at H
  have c7b0 : decide (t188 < 0) = true := decide_eq_true c7
  clear c7
  obtain rfl := Option.some.inj H
  go_enter Tryd.func26, Tryd.ntmps26
  go_wp2_with (first | ((with_reducible refine gate_dst (N := 8) rfl ?_); (try (refine gate_guard (by rfl) ?_; dsimp only)); refine box_event ?hg (N := 8) ?hd (cs := #[.int .u64 a3_0, .int .u64 a3_1]) (t := 36) ?hr ?_; (case hd => rfl); (case hg => rfl); (case hr => first | (go_simp; done) | (go_simp; rfl)); intro g187 hg w8 hbox hb; have n0_ := Aside0.mk (below_step (by repeat (first | (with_reducible first | exact HB.out | apply below_alloc | apply pw_below_drewN | apply below_drew1) | exact HB.out)) hb); have n1_ := Aside0.mk (hbox); have n2_ := Aside0.mk ((by rw [hg]; exact (below_size (by repeat (first | (with_reducible first | exact HB.out | apply below_alloc | apply pw_below_drewN | apply below_drew1) | exact HB.out))) : w.heap.size ≤ g187)); have n3_ := Aside0.mk ((by rw [hg]; exact (below_size (by repeat (first | (with_reducible first | exact HB.out | apply below_alloc | apply pw_below_drewN | apply below_drew1) | exact HB.out))) : w.heap.size ≤ g187)); clear HB; have HB := n0_; have B187 := n1_; have GW187 := n2_; have GE187 := n3_; clear n0_ n1_ n2_ n3_; clear hb hbox hg) | ((with_reducible refine gate_callee (f := 37) rfl ?_); refine goesL_ (some 14) rfl rfl Tryd.func37 (by kernel_rfl) rfl #[.int .i64 (l1.length : Int)] rfl (by (try simp only [List.map_toArray, List.map_cons, List.map_nil]); first | done | rfl | (go_simp; done)) ?_; (with_reducible refine (tree_height.calls (l1.length : Int) t188 _ ?side1 A6.out).mono ?_); (case side1 => repeat (first | exact (GL.below HRG.out HB.out) | (with_reducible refine GL.alloc ?_ _) | (with_reducible refine GL.drewN ?_ _) | (with_reducible refine GL.drew ?_))); rintro e w9 ⟨rfl, hb⟩; refine ⟨_, rfl, ?_⟩; have n0_ := Aside0.mk (blk_below (g := g187) (o := .cells #[.int .u64 a3_0, .int .u64 a3_1] 36 (0, 0)) (by exact B187.out) hb); have n1_ := Aside0.mk (below_step (by repeat (first | (with_reducible first | exact HB.out | apply below_alloc | apply pw_below_drewN | apply below_drew1 | refine below_set ?_ GE187.out) | exact HB.out)) hb); clear B187; clear HB; have B187 := n0_; have HB := n1_; clear n0_ n1_; (try clear hb); (try clear hb2); (try clear hk); (try clear hi)))
  go_ret
  exact ⟨by first | rfl | (simp [errW_none, errW_some] <;> rfl) | (simp [*, errW_none, errW_some] <;> rfl), by repeat (first | (with_reducible first | exact HB.out | apply below_alloc | apply pw_below_drewN | apply below_drew1 | refine below_set ?_ GE187.out) | exact HB.out)⟩
 ·rw [if_neg c7] at H
  have c7b0 : decide (t188 < 0) = false := decide_eq_false c7
  clear c7
  replace H := Option.bind_eq_some_iff.mp H
  obtain ⟨t189, A100, H⟩ := H
  have A10 := Aside0.mk A100
  clear A100
  by_cases c11 : t189 = true
  ·subst c11
   have H1 : ((tree_proper.f a0 l1).bind fun t190 => (if t190 = true then (if (wrap64 (t188 + (l4.length : Int))) > 18 then (some false) else (if (shr .i64 a2 (l4.length : Int)) ≥ (l1.length : Int) then (some false) else ((tree_climb.f a0 a2 a3_0 a3_1 l4).bind fun bt191 => (if 0 ≤ (shr .i64 a2 (l4.length : Int)) then (if (shr .i64 a2 (l4.length : Int)) < (l1.length : Int) then (some (bt191.1 == ((rd_T36 l1 (shr .i64 a2 (l4.length : Int))).f0) && (bt191.2 == ((rd_T36 l1 (shr .i64 a2 (l4.length : Int))).f1)))) else (none)) else (none))))) else (some false))) = some r := by rw [if_pos rfl] at H; exact H
   clear H
   have H := H1
   clear H1
   replace H := Option.bind_eq_some_iff.mp H
   obtain ⟨t190, A120, H⟩ := H
   have A12 := Aside0.mk A120
   clear A120
   by_cases c13 : t190 = true
   ·subst c13
    have H1 : (if (wrap64 (t188 + (l4.length : Int))) > 18 then (some false) else (if (shr .i64 a2 (l4.length : Int)) ≥ (l1.length : Int) then (some false) else ((tree_climb.f a0 a2 a3_0 a3_1 l4).bind fun bt191 => (if 0 ≤ (shr .i64 a2 (l4.length : Int)) then (if (shr .i64 a2 (l4.length : Int)) < (l1.length : Int) then (some (bt191.1 == ((rd_T36 l1 (shr .i64 a2 (l4.length : Int))).f0) && (bt191.2 == ((rd_T36 l1 (shr .i64 a2 (l4.length : Int))).f1)))) else (none)) else (none))))) = some r := by rw [if_pos rfl] at H; exact H
    clear H
    have H := H1
    clear H1
    by_cases c14 : (wrap64 (t188 + (l4.length : Int))) > 18
    ·rw [if_pos c14] at H
     have c14b0 : decide (18 < (wrap64 (t188 + (l4.length : Int)))) = true := decide_eq_true c14
     clear c14
     obtain rfl := Option.some.inj H
     go_enter Tryd.func26, Tryd.ntmps26
     go_wp2_with (first | ((with_reducible refine gate_dst (N := 8) rfl ?_); (try (refine gate_guard (by rfl) ?_; dsimp only)); refine box_event ?hg (N := 8) ?hd (cs := #[.int .u64 a3_0, .int .u64 a3_1]) (t := 36) ?hr ?_; (case hd => rfl); (case hg => rfl); (case hr => first | (go_simp; done) | (go_simp; rfl)); intro g187 hg w15 hbox hb; have n0_ := Aside0.mk (below_step (by repeat (first | (with_reducible first | exact HB.out | apply below_alloc | apply pw_below_drewN | apply below_drew1) | exact HB.out)) hb); have n1_ := Aside0.mk (hbox); have n2_ := Aside0.mk ((by rw [hg]; exact (below_size (by repeat (first | (with_reducible first | exact HB.out | apply below_alloc | apply pw_below_drewN | apply below_drew1) | exact HB.out))) : w.heap.size ≤ g187)); have n3_ := Aside0.mk ((by rw [hg]; exact (below_size (by repeat (first | (with_reducible first | exact HB.out | apply below_alloc | apply pw_below_drewN | apply below_drew1) | exact HB.out))) : w.heap.size ≤ g187)); clear HB; have HB := n0_; have B187 := n1_; have GW187 := n2_; have GE187 := n3_; clear n0_ n1_ n2_ n3_; clear hb hbox hg) | ((with_reducible refine gate_callee (f := 37) rfl ?_); refine goesL_ (some 14) rfl rfl Tryd.func37 (by kernel_rfl) rfl #[.int .i64 (l1.length : Int)] rfl (by (try simp only [List.map_toArray, List.map_cons, List.map_nil]); first | done | rfl | (go_simp; done)) ?_; (with_reducible refine (tree_height.calls (l1.length : Int) t188 _ ?side1 A6.out).mono ?_); (case side1 => repeat (first | exact (GL.below HRG.out HB.out) | (with_reducible refine GL.alloc ?_ _) | (with_reducible refine GL.drewN ?_ _) | (with_reducible refine GL.drew ?_))); rintro e w16 ⟨rfl, hb⟩; refine ⟨_, rfl, ?_⟩; have n0_ := Aside0.mk (blk_below (g := g187) (o := .cells #[.int .u64 a3_0, .int .u64 a3_1] 36 (0, 0)) (by exact B187.out) hb); have n1_ := Aside0.mk (below_step (by repeat (first | (with_reducible first | exact HB.out | apply below_alloc | apply pw_below_drewN | apply below_drew1 | refine below_set ?_ GE187.out) | exact HB.out)) hb); clear B187; clear HB; have B187 := n0_; have HB := n1_; clear n0_ n1_; (try clear hb); (try clear hb2); (try clear hk); (try clear hi); have hcz17_0 : w16.cell? ⟨g187, 0, none⟩ = some (.int .u64 a3_0) := bq_ B187 0; have hcz17_1 : w16.cell? ⟨g187, 1, none⟩ = some (.int .u64 a3_1) := bq_ B187 1; have hfz17_0 := blk_frozen B187.out 0; have hfz17_1 := blk_frozen B187.out 1) | (go_at_call 47; (with_reducible refine (tree_opens.calls a0 a2 a3_0 a3_1 _ _ l4 true _ ?side1 ?side2 ?side3 A10.out).mono ?_); (case side1 => repeat (first | exact (Kd.C_below HR4.out HB.out) | (with_reducible refine Kd.C_alloc ?_ _) | (with_reducible refine Kd.C_drewN ?_ _) | (with_reducible refine Kd.C_drew ?_))); (case side2 => exact HC4.out); (case side3 => repeat (first | exact (GL.below HRG.out HB.out) | (with_reducible refine GL.alloc ?_ _) | (with_reducible refine GL.drewN ?_ _) | (with_reducible refine GL.drew ?_))); rintro e w18 ⟨rfl, hb⟩; have n0_ := Aside0.mk (blk_below (g := g187) (o := .cells #[.int .u64 a3_0, .int .u64 a3_1] 36 (0, 0)) (by exact B187.out) hb); have n1_ := Aside0.mk (below_step (by repeat (first | (with_reducible first | exact HB.out | apply below_alloc | apply pw_below_drewN | apply below_drew1 | refine below_set ?_ GE187.out) | exact HB.out)) hb); clear B187; clear HB; have B187 := n0_; have HB := n1_; clear n0_ n1_; (try clear hb); (try clear hb2); (try clear hk); (try clear hi)) | (go_at_call 39; (with_reducible refine (tree_proper.calls a0 _ _ l1 true _ ?side1 ?side2 ?side3 A12.out).mono ?_); (case side1 => repeat (first | exact (Kd.C_below HR1.out HB.out) | (with_reducible refine Kd.C_alloc ?_ _) | (with_reducible refine Kd.C_drewN ?_ _) | (with_reducible refine Kd.C_drew ?_))); (case side2 => exact HC1.out); (case side3 => repeat (first | exact (GL.below HRG.out HB.out) | (with_reducible refine GL.alloc ?_ _) | (with_reducible refine GL.drewN ?_ _) | (with_reducible refine GL.drew ?_))); rintro e w19 ⟨rfl, hb⟩; have n0_ := Aside0.mk (blk_below (g := g187) (o := .cells #[.int .u64 a3_0, .int .u64 a3_1] 36 (0, 0)) (by exact B187.out) hb); have n1_ := Aside0.mk (below_step (by repeat (first | (with_reducible first | exact HB.out | apply below_alloc | apply pw_below_drewN | apply below_drew1 | refine below_set ?_ GE187.out) | exact HB.out)) hb); clear B187; clear HB; have B187 := n0_; have HB := n1_; clear n0_ n1_; (try clear hb); (try clear hb2); (try clear hk); (try clear hi)))
     go_ret
     exact ⟨by first | rfl | (simp [errW_none, errW_some] <;> rfl) | (simp [*, errW_none, errW_some] <;> rfl), by repeat (first | (with_reducible first | exact HB.out | apply below_alloc | apply pw_below_drewN | apply below_drew1 | refine below_set ?_ GE187.out) | exact HB.out)⟩
    ·rw [if_neg c14] at H
     have c14b0 : decide (18 < (wrap64 (t188 + (l4.length : Int)))) = false := decide_eq_false c14
     clear c14
     obtain ⟨ji20, hji20⟩ : ∃ j_ : Int, (shr .i64 a2 (l4.length : Int)) = j_ := ⟨_, rfl⟩
     replace H : (if (ji20) ≥ (l1.length : Int) then (some false) else ((tree_climb.f a0 a2 a3_0 a3_1 l4).bind fun bt191 => (if 0 ≤ (ji20) then (if (ji20) < (l1.length : Int) then (some (bt191.1 == ((rd_T36 l1 (ji20)).f0) && (bt191.2 == ((rd_T36 l1 (ji20)).f1)))) else (none)) else (none)))) = some r := by first | (rw [hji20] at H; exact H) | (simp only [hji20] at H ⊢; exact H)
     (try rw [hji20] at A6)
     (try rw [hji20] at A10)
     (try rw [hji20] at A12)
     have hji20_ : (a2 / 2 ^ min (l4.length : Int).toNat 64) = ji20 := hji20
     have hji20z : (l4.length : Int) ≤ 64 → (a2 / 2 ^ (l4.length : Int).toNat) = ji20 := shr_small hji20
     have hji20p : (a2 / 2 ^ min l4.length 64) = ji20 := hji20_
     have hji20q : (l4.length : Int) ≤ 64 → (a2 / 2 ^ l4.length) = ji20 := hji20z
     by_cases c21 : (ji20) ≥ (l1.length : Int)
     ·rw [if_pos c21] at H
      have c21b0 : decide ((l1.length : Int) ≤ (ji20)) = true := decide_eq_true c21
      clear c21
      obtain rfl := Option.some.inj H
      go_enter Tryd.func26, Tryd.ntmps26
      go_wp2_with (first | ((with_reducible refine gate_dst (N := 8) rfl ?_); (try (refine gate_guard (by rfl) ?_; dsimp only)); refine box_event ?hg (N := 8) ?hd (cs := #[.int .u64 a3_0, .int .u64 a3_1]) (t := 36) ?hr ?_; (case hd => rfl); (case hg => rfl); (case hr => first | (go_simp; done) | (go_simp; rfl)); intro g187 hg w22 hbox hb; have n0_ := Aside0.mk (below_step (by repeat (first | (with_reducible first | exact HB.out | apply below_alloc | apply pw_below_drewN | apply below_drew1) | exact HB.out)) hb); have n1_ := Aside0.mk (hbox); have n2_ := Aside0.mk ((by rw [hg]; exact (below_size (by repeat (first | (with_reducible first | exact HB.out | apply below_alloc | apply pw_below_drewN | apply below_drew1) | exact HB.out))) : w.heap.size ≤ g187)); have n3_ := Aside0.mk ((by rw [hg]; exact (below_size (by repeat (first | (with_reducible first | exact HB.out | apply below_alloc | apply pw_below_drewN | apply below_drew1) | exact HB.out))) : w.heap.size ≤ g187)); clear HB; have HB := n0_; have B187 := n1_; have GW187 := n2_; have GE187 := n3_; clear n0_ n1_ n2_ n3_; clear hb hbox hg) | ((with_reducible refine gate_callee (f := 37) rfl ?_); refine goesL_ (some 14) rfl rfl Tryd.func37 (by kernel_rfl) rfl #[.int .i64 (l1.length : Int)] rfl (by (try simp only [List.map_toArray, List.map_cons, List.map_nil]); first | done | rfl | (go_simp; done)) ?_; (with_reducible refine (tree_height.calls (l1.length : Int) t188 _ ?side1 A6.out).mono ?_); (case side1 => repeat (first | exact (GL.below HRG.out HB.out) | (with_reducible refine GL.alloc ?_ _) | (with_reducible refine GL.drewN ?_ _) | (with_reducible refine GL.drew ?_))); rintro e w23 ⟨rfl, hb⟩; refine ⟨_, rfl, ?_⟩; have n0_ := Aside0.mk (blk_below (g := g187) (o := .cells #[.int .u64 a3_0, .int .u64 a3_1] 36 (0, 0)) (by exact B187.out) hb); have n1_ := Aside0.mk (below_step (by repeat (first | (with_reducible first | exact HB.out | apply below_alloc | apply pw_below_drewN | apply below_drew1 | refine below_set ?_ GE187.out) | exact HB.out)) hb); clear B187; clear HB; have B187 := n0_; have HB := n1_; clear n0_ n1_; (try clear hb); (try clear hb2); (try clear hk); (try clear hi); have hcz24_0 : w23.cell? ⟨g187, 0, none⟩ = some (.int .u64 a3_0) := bq_ B187 0; have hcz24_1 : w23.cell? ⟨g187, 1, none⟩ = some (.int .u64 a3_1) := bq_ B187 1; have hfz24_0 := blk_frozen B187.out 0; have hfz24_1 := blk_frozen B187.out 1) | (go_at_call 47; (with_reducible refine (tree_opens.calls a0 a2 a3_0 a3_1 _ _ l4 true _ ?side1 ?side2 ?side3 A10.out).mono ?_); (case side1 => repeat (first | exact (Kd.C_below HR4.out HB.out) | (with_reducible refine Kd.C_alloc ?_ _) | (with_reducible refine Kd.C_drewN ?_ _) | (with_reducible refine Kd.C_drew ?_))); (case side2 => exact HC4.out); (case side3 => repeat (first | exact (GL.below HRG.out HB.out) | (with_reducible refine GL.alloc ?_ _) | (with_reducible refine GL.drewN ?_ _) | (with_reducible refine GL.drew ?_))); rintro e w25 ⟨rfl, hb⟩; have n0_ := Aside0.mk (blk_below (g := g187) (o := .cells #[.int .u64 a3_0, .int .u64 a3_1] 36 (0, 0)) (by exact B187.out) hb); have n1_ := Aside0.mk (below_step (by repeat (first | (with_reducible first | exact HB.out | apply below_alloc | apply pw_below_drewN | apply below_drew1 | refine below_set ?_ GE187.out) | exact HB.out)) hb); clear B187; clear HB; have B187 := n0_; have HB := n1_; clear n0_ n1_; (try clear hb); (try clear hb2); (try clear hk); (try clear hi)) | (go_at_call 39; (with_reducible refine (tree_proper.calls a0 _ _ l1 true _ ?side1 ?side2 ?side3 A12.out).mono ?_); (case side1 => repeat (first | exact (Kd.C_below HR1.out HB.out) | (with_reducible refine Kd.C_alloc ?_ _) | (with_reducible refine Kd.C_drewN ?_ _) | (with_reducible refine Kd.C_drew ?_))); (case side2 => exact HC1.out); (case side3 => repeat (first | exact (GL.below HRG.out HB.out) | (with_reducible refine GL.alloc ?_ _) | (with_reducible refine GL.drewN ?_ _) | (with_reducible refine GL.drew ?_))); rintro e w26 ⟨rfl, hb⟩; have n0_ := Aside0.mk (blk_below (g := g187) (o := .cells #[.int .u64 a3_0, .int .u64 a3_1] 36 (0, 0)) (by exact B187.out) hb); have n1_ := Aside0.mk (below_step (by repeat (first | (with_reducible first | exact HB.out | apply below_alloc | apply pw_below_drewN | apply below_drew1 | refine below_set ?_ GE187.out) | exact HB.out)) hb); clear B187; clear HB; have B187 := n0_; have HB := n1_; clear n0_ n1_; (try clear hb); (try clear hb2); (try clear hk); (try clear hi)))
      go_ret
      exact ⟨by first | rfl | (simp [errW_none, errW_some] <;> rfl) | (simp only [← hji20]; first | rfl | (simp [errW_none, errW_some] <;> rfl)) | (simp [*, errW_none, errW_some] <;> rfl), by repeat (first | (with_reducible first | exact HB.out | apply below_alloc | apply pw_below_drewN | apply below_drew1 | refine below_set ?_ GE187.out) | exact HB.out)⟩
     ·rw [if_neg c21] at H
      have c21b0 : decide ((l1.length : Int) ≤ (ji20)) = false := decide_eq_false c21
      clear c21
      replace H := Option.bind_eq_some_iff.mp H
      obtain ⟨⟨t191, t192⟩, A270, H⟩ := H
      replace H : (if 0 ≤ (ji20) then (if (ji20) < (l1.length : Int) then (some (t191 == ((rd_T36 l1 (ji20)).f0) && (t192 == ((rd_T36 l1 (ji20)).f1)))) else (none)) else (none)) = some r := H
      have A27 := Aside0.mk A270
      clear A270
      by_cases c28 : 0 ≤ (ji20)
      ·rw [if_pos c28] at H
       have c28b0 : decide (0 ≤ (ji20)) = true := decide_eq_true c28
       clear c28
       by_cases c29 : (ji20) < (l1.length : Int)
       ·rw [if_pos c29] at H
        have c29b0 : decide ((ji20) < (l1.length : Int)) = true := decide_eq_true c29
        clear c29
        obtain rfl := Option.some.inj H
        go_enter Tryd.func26, Tryd.ntmps26
        try go_wp2_with (first | ((with_reducible refine gate_dst (N := 8) rfl ?_); (try (refine gate_guard (by rfl) ?_; dsimp only)); refine box_event ?hg (N := 8) ?hd (cs := #[.int .u64 a3_0, .int .u64 a3_1]) (t := 36) ?hr ?_; (case hd => rfl); (case hg => rfl); (case hr => first | (go_simp; done) | (go_simp; rfl)); intro g187 hg w30 hbox hb; have n0_ := Aside0.mk (below_step (by repeat (first | (with_reducible first | exact HB.out | apply below_alloc | apply pw_below_drewN | apply below_drew1) | exact HB.out)) hb); have n1_ := Aside0.mk (hbox); have n2_ := Aside0.mk ((by rw [hg]; exact (below_size (by repeat (first | (with_reducible first | exact HB.out | apply below_alloc | apply pw_below_drewN | apply below_drew1) | exact HB.out))) : w.heap.size ≤ g187)); have n3_ := Aside0.mk ((by rw [hg]; exact (below_size (by repeat (first | (with_reducible first | exact HB.out | apply below_alloc | apply pw_below_drewN | apply below_drew1) | exact HB.out))) : w.heap.size ≤ g187)); clear HB; have HB := n0_; have B187 := n1_; have GW187 := n2_; have GE187 := n3_; clear n0_ n1_ n2_ n3_; clear hb hbox hg) | ((with_reducible refine gate_callee (f := 37) rfl ?_); refine goesL_ (some 14) rfl rfl Tryd.func37 (by kernel_rfl) rfl #[.int .i64 (l1.length : Int)] rfl (by (try simp only [List.map_toArray, List.map_cons, List.map_nil]); first | done | rfl | (go_simp; done)) ?_; (with_reducible refine (tree_height.calls (l1.length : Int) t188 _ ?side1 A6.out).mono ?_); (case side1 => repeat (first | exact (GL.below HRG.out HB.out) | (with_reducible refine GL.alloc ?_ _) | (with_reducible refine GL.drewN ?_ _) | (with_reducible refine GL.drew ?_))); rintro e w31 ⟨rfl, hb⟩; refine ⟨_, rfl, ?_⟩; have n0_ := Aside0.mk (blk_below (g := g187) (o := .cells #[.int .u64 a3_0, .int .u64 a3_1] 36 (0, 0)) (by exact B187.out) hb); have n1_ := Aside0.mk (below_step (by repeat (first | (with_reducible first | exact HB.out | apply below_alloc | apply pw_below_drewN | apply below_drew1 | refine below_set ?_ GE187.out) | exact HB.out)) hb); clear B187; clear HB; have B187 := n0_; have HB := n1_; clear n0_ n1_; (try clear hb); (try clear hb2); (try clear hk); (try clear hi); have hcz32_0 : w31.cell? ⟨g187, 0, none⟩ = some (.int .u64 a3_0) := bq_ B187 0; have hcz32_1 : w31.cell? ⟨g187, 1, none⟩ = some (.int .u64 a3_1) := bq_ B187 1; have hfz32_0 := blk_frozen B187.out 0; have hfz32_1 := blk_frozen B187.out 1) | (go_at_call 47; (with_reducible refine (tree_opens.calls a0 a2 a3_0 a3_1 _ _ l4 true _ ?side1 ?side2 ?side3 A10.out).mono ?_); (case side1 => repeat (first | exact (Kd.C_below HR4.out HB.out) | (with_reducible refine Kd.C_alloc ?_ _) | (with_reducible refine Kd.C_drewN ?_ _) | (with_reducible refine Kd.C_drew ?_))); (case side2 => exact HC4.out); (case side3 => repeat (first | exact (GL.below HRG.out HB.out) | (with_reducible refine GL.alloc ?_ _) | (with_reducible refine GL.drewN ?_ _) | (with_reducible refine GL.drew ?_))); rintro e w33 ⟨rfl, hb⟩; have n0_ := Aside0.mk (blk_below (g := g187) (o := .cells #[.int .u64 a3_0, .int .u64 a3_1] 36 (0, 0)) (by exact B187.out) hb); have n1_ := Aside0.mk (below_step (by repeat (first | (with_reducible first | exact HB.out | apply below_alloc | apply pw_below_drewN | apply below_drew1 | refine below_set ?_ GE187.out) | exact HB.out)) hb); clear B187; clear HB; have B187 := n0_; have HB := n1_; clear n0_ n1_; (try clear hb); (try clear hb2); (try clear hk); (try clear hi)) | (go_at_call 39; (with_reducible refine (tree_proper.calls a0 _ _ l1 true _ ?side1 ?side2 ?side3 A12.out).mono ?_); (case side1 => repeat (first | exact (Kd.C_below HR1.out HB.out) | (with_reducible refine Kd.C_alloc ?_ _) | (with_reducible refine Kd.C_drewN ?_ _) | (with_reducible refine Kd.C_drew ?_))); (case side2 => exact HC1.out); (case side3 => repeat (first | exact (GL.below HRG.out HB.out) | (with_reducible refine GL.alloc ?_ _) | (with_reducible refine GL.drewN ?_ _) | (with_reducible refine GL.drew ?_))); rintro e w34 ⟨rfl, hb⟩; have n0_ := Aside0.mk (blk_below (g := g187) (o := .cells #[.int .u64 a3_0, .int .u64 a3_1] 36 (0, 0)) (by exact B187.out) hb); have n1_ := Aside0.mk (below_step (by repeat (first | (with_reducible first | exact HB.out | apply below_alloc | apply pw_below_drewN | apply below_drew1 | refine below_set ?_ GE187.out) | exact HB.out)) hb); clear B187; clear HB; have B187 := n0_; have HB := n1_; clear n0_ n1_; (try clear hb); (try clear hb2); (try clear hk); (try clear hi)))
        have n0_ := Aside0.mk (blk_drew B187.out)
        have n1_ := Aside0.mk (below_drew1 HB.out)
        clear B187
        clear HB
        have B187 := n0_
        have HB := n1_
        clear n0_ n1_
        have p193 : 0 ≤ ((ji20) : Int) := of_decide_eq_true (by first | (with_reducible assumption) | assumption)
        have q193 : (ji20) < (l1.length : Int) := of_decide_eq_true (by first | (with_reducible assumption) | assumption)
        obtain ⟨ad193, e193, hx193_0, hx193_1⟩ := at_T36 HR1.out (ji20) p193 q193
        have hw193_1 := hx193_1
        have hw193_0 := hx193_0
        cases e193
        replace hx193_0 := (HB.out.cell (World.block_lt_of_cell? w _ hx193_0)).trans hx193_0
        replace hx193_1 := (HB.out.cell (World.block_lt_of_cell? w _ hx193_1)).trans hx193_1
        replace p193 := eq_true p193
        replace q193 := eq_true q193
        refine start_ (n := 14) (S := fun w' => w'.cell? ⟨g187, 0, none⟩ = some (.int .u64 a3_0) ∧ w'.cell? ⟨g187, 1, none⟩ = some (.int .u64 a3_1) ∧ w'.cell? (ad193.add (((ji20)).toNat * 2)) = some (.int .u64 ((rd_T36 l1 (ji20)).f0)) ∧ w'.cell? ⟨(ad193.add (((ji20)).toNat * 2)).block, (ad193.add (((ji20)).toNat * 2)).off + 1, none⟩ = some (.int .u64 ((rd_T36 l1 (ji20)).f1))) (ds := []) z26_0_ (by kernel_rfl) rfl rfl ⟨bq_ B187 0, bq_ B187 1, ((HB.out.cell (World.block_lt_of_cell? w _ hw193_0)).trans hw193_0), ((HB.out.cell (World.block_lt_of_cell? w _ hw193_1)).trans hw193_1)⟩ (fun hL => ?_); refine with_tabW tree_Check.tab4 tree_Check.bits4 (fun T_ W_ => ?_)
        generalize w34.drew = w35 at B187 HB hx193_0 hx193_1 hL ⊢
        refine pure_ (i := 0) (N := some 47) (v := ?_) (a' := ?_) z26_1_ rfl rfl (an_ T_) (fun _ _ _ h => h) (Or.inl ⟨by rfl, ?_⟩) ?_ ?_
        rotate_left; · intro w'; go_simp; with_reducible rfl
        rotate_left; · simp only [Act.put, sa_, sb_, sc_, i64_w, i32_w]; rfl
        refine pure_ (i := 1) (N := some 48) (v := ?_) (a' := ?_) z26_2_ rfl rfl (an_ T_) (fun _ _ _ h => h) (Or.inl ⟨by rfl, ?_⟩) ?_ ?_
        rotate_left; · intro w'; go_simp; with_reducible rfl
        rotate_left; · simp only [Act.put, sa_, sb_, sc_, i64_w, i32_w]; rfl
        refine pure_ (i := 3) (N := some 50) (v := ?_) (a' := ?_) z26_3_ rfl rfl (an_ T_) (fun _ _ _ h => h) (Or.inl ⟨by rfl, ?_⟩) ?_ ?_
        rotate_left; · intro w'; go_simp; with_reducible rfl
        rotate_left; · simp only [Act.put, sa_, sb_, sc_, i64_w, i32_w]; rfl
        refine pure_ (i := 5) (N := some 52) (v := ?_) (a' := ?_) z26_4_ rfl rfl (an_ T_) (fun _ _ _ h => h) (Or.inl ⟨by rfl, ?_⟩) ?_ ?_
        rotate_left; · intro w'; go_simp; with_reducible rfl
        rotate_left; · simp only [Act.put, sa_, sb_, sc_, i64_w, i32_w]; rfl
        refine pure_ (i := 6) (N := some 53) (v := ?_) (a' := ?_) z26_5_ rfl rfl (an_ T_) (fun _ _ _ h => h) (Or.inl ⟨by rfl, ?_⟩) ?_ ?_
        rotate_left; · intro w'; go_simp; with_reducible rfl
        rotate_left; · simp only [Act.put, sa_, sb_, sc_, i64_w, i32_w]; rfl
        refine pure_ (i := 7) (N := some 54) (v := ?_) (a' := ?_) z26_6_ rfl rfl (an_ T_) (fun _ _ _ h => h) (Or.inl ⟨by rfl, ?_⟩) ?_ ?_
        rotate_left; · intro w'; go_simp; with_reducible rfl
        rotate_left; · simp only [Act.put, sa_, sb_, sc_, i64_w, i32_w]; rfl
        refine pure_ (i := 8) (N := some 55) (v := ?_) (a' := ?_) z26_7_ rfl rfl (an_ T_) (fun _ _ _ h => h) (Or.inl ⟨by rfl, ?_⟩) ?_ ?_
        rotate_left; · intro w'; go_simp; with_reducible rfl
        rotate_left; · simp only [Act.put, sa_, sb_, sc_, i64_w, i32_w]; rfl
        refine pure_ (i := 9) (N := some 56) (v := ?_) (a' := ?_) z26_8_ rfl rfl (an_ T_) (fun _ _ _ h => h) (Or.inl ⟨by rfl, ?_⟩) ?_ ?_
        rotate_left; · intro w'; go_simp; with_reducible rfl
        rotate_left; · simp only [Act.put, sa_, sb_, sc_, i64_w, i32_w]; rfl
        refine pure_ (i := 10) (N := some 57) (v := ?_) (a' := ?_) z26_9_ rfl rfl (an_ T_) (fun _ _ _ h => h) (Or.inl ⟨by rfl, ?_⟩) ?_ ?_
        rotate_left; · intro w'; go_simp; with_reducible rfl
        rotate_left; · simp only [Act.put, sa_, sb_, sc_, i64_w, i32_w]; rfl
        refine take_ (i := 2) (N := some 49) (v := ?_) (a' := ?_) z26_10_ rfl rfl (tk_ T_ W_) (fun _ _ _ h => h) (Or.inl ⟨by rfl, ?_⟩) hL ?_ ?_
        rotate_left
        ·rintro w' ⟨s0, s1, s2, s3⟩
         go_simp
         with_reducible rfl
        rotate_left
        ·simp only [Act.put, sa_, sb_, sc_, i64_w, i32_w]
         rfl
        refine take_ (i := 11) (N := some 58) (v := ?_) (a' := ?_) z26_11_ rfl rfl (tk_ T_ W_) (fun _ _ _ h => h) (Or.inl ⟨by rfl, ?_⟩) hL ?_ ?_
        rotate_left
        ·rintro w' ⟨s0, s1, s2, s3⟩
         go_simp
         with_reducible rfl
        rotate_left
        ·simp only [Act.put, sa_, sb_, sc_, i64_w, i32_w]
         rfl
        refine one_ (i := 4) (N := some 51) z26_12_ rfl rfl (on_ T_) (by decide) (fun K hK => ?_)
        refine goes_ Tryd.func48 (by kernel_rfl) rfl #[.int .i64 a0, .int .i64 a2, .agg #[.int .u64 a3_0, .int .u64 a3_1], .slice A4 l4.length c4] (by rfl) rfl rfl (by (try simp only [List.map_toArray, List.map_cons, List.map_nil]); first | done | rfl | (go_simp; done)) ?_
        with_reducible refine (tree_climb.calls a0 a2 a3_0 a3_1 _ _ l4 t191 t192 _ ?side1 ?side2 ?side3 A27.out).mono ?_
        (case side1 => repeat (first | exact (Kd.C_below HR4.out HB.out) | (with_reducible refine Kd.C_alloc ?_ _) | (with_reducible refine Kd.C_drewN ?_ _) | (with_reducible refine Kd.C_drew ?_)))
        (case side2 => exact HC4.out)
        (case side3 => repeat (first | exact (GL.below HRG.out HB.out) | (with_reducible refine GL.alloc ?_ _) | (with_reducible refine GL.drewN ?_ _) | (with_reducible refine GL.drew ?_)))
        rintro e w36 ⟨rfl, hb⟩
        refine ⟨_, rfl, ?_⟩
        have n0_ := Aside0.mk (blk_below (g := g187) (o := .cells #[.int .u64 a3_0, .int .u64 a3_1] 36 (0, 0)) (by exact B187.out) hb)
        have n1_ := Aside0.mk (below_step (by repeat (first | (with_reducible first | exact HB.out | apply below_alloc | apply pw_below_drewN | apply below_drew1 | refine below_set ?_ GE187.out) | exact HB.out)) hb)
        clear B187
        clear HB
        have B187 := n0_
        have HB := n1_
        clear n0_ n1_
        (try clear hb)
        (try clear hb2)
        (try clear hk)
        (try clear hi)
        refine hK.out _ _ ⟨bq_ B187 0, bq_ B187 1, ((HB.out.cell (World.block_lt_of_cell? w _ hw193_0)).trans hw193_0), ((HB.out.cell (World.block_lt_of_cell? w _ hw193_1)).trans hw193_1)⟩ (fun hL => ?_)
        clear hK K
        refine norm_ (a' := ?_) ?_ ?_
        rotate_left
        ·show Act.put _ (some 51) _ = _
         simp only [Act.put, sa_, sb_, sc_, i64_w, i32_w]
         rfl
        refine pure_ (i := 12) (N := some 59) (v := ?_) (a' := ?_) z26_13_ rfl rfl (an_ T_) (fun _ _ _ h => h) (Or.inl ⟨by rfl, ?_⟩) ?_ ?_
        rotate_left; · intro w'; go_simp; with_reducible rfl
        rotate_left; · simp only [Act.put, sa_, sb_, sc_, i64_w, i32_w]; rfl
        refine pure_ (i := 13) (N := some 10) (v := ?_) (a' := ?_) z26_14_ rfl rfl (an_ T_) (fun _ _ _ h => h) (Or.inl ⟨by rfl, ?_⟩) ?_ ?_
        rotate_left; · intro w'; go_simp; with_reducible rfl
        rotate_left; · simp only [Act.put, sa_, sb_, sc_, i64_w, i32_w]; rfl
        refine done_ (done_of T_.out (by kernel_rfl)) ?_
        try go_wp2
        go_ret
        exact ⟨by first | rfl | (simp [errW_none, errW_some] <;> rfl) | (simp only [← hji20]; first | rfl | (simp [errW_none, errW_some] <;> rfl)) | (simp [*, errW_none, errW_some] <;> rfl), by repeat (first | (with_reducible first | exact HB.out | apply below_alloc | apply pw_below_drewN | apply below_drew1 | refine below_set ?_ GE187.out) | exact HB.out)⟩
       ·rw [if_neg c29] at H
        exact absurd H (by simp)
      ·rw [if_neg c28] at H
       exact absurd H (by simp)
   ·replace c13 := Bool.eq_false_iff.mpr c13
    subst c13
    have H1 : (some false) = some r := by rw [if_neg (show ¬ (false = true) by decide)] at H; exact H
    clear H
    have H := H1
    clear H1
    obtain rfl := Option.some.inj H
    go_enter Tryd.func26, Tryd.ntmps26
    go_wp2_with (first | ((with_reducible refine gate_dst (N := 8) rfl ?_); (try (refine gate_guard (by rfl) ?_; dsimp only)); refine box_event ?hg (N := 8) ?hd (cs := #[.int .u64 a3_0, .int .u64 a3_1]) (t := 36) ?hr ?_; (case hd => rfl); (case hg => rfl); (case hr => first | (go_simp; done) | (go_simp; rfl)); intro g187 hg w37 hbox hb; have n0_ := Aside0.mk (below_step (by repeat (first | (with_reducible first | exact HB.out | apply below_alloc | apply pw_below_drewN | apply below_drew1) | exact HB.out)) hb); have n1_ := Aside0.mk (hbox); have n2_ := Aside0.mk ((by rw [hg]; exact (below_size (by repeat (first | (with_reducible first | exact HB.out | apply below_alloc | apply pw_below_drewN | apply below_drew1) | exact HB.out))) : w.heap.size ≤ g187)); have n3_ := Aside0.mk ((by rw [hg]; exact (below_size (by repeat (first | (with_reducible first | exact HB.out | apply below_alloc | apply pw_below_drewN | apply below_drew1) | exact HB.out))) : w.heap.size ≤ g187)); clear HB; have HB := n0_; have B187 := n1_; have GW187 := n2_; have GE187 := n3_; clear n0_ n1_ n2_ n3_; clear hb hbox hg) | ((with_reducible refine gate_callee (f := 37) rfl ?_); refine goesL_ (some 14) rfl rfl Tryd.func37 (by kernel_rfl) rfl #[.int .i64 (l1.length : Int)] rfl (by (try simp only [List.map_toArray, List.map_cons, List.map_nil]); first | done | rfl | (go_simp; done)) ?_; (with_reducible refine (tree_height.calls (l1.length : Int) t188 _ ?side1 A6.out).mono ?_); (case side1 => repeat (first | exact (GL.below HRG.out HB.out) | (with_reducible refine GL.alloc ?_ _) | (with_reducible refine GL.drewN ?_ _) | (with_reducible refine GL.drew ?_))); rintro e w38 ⟨rfl, hb⟩; refine ⟨_, rfl, ?_⟩; have n0_ := Aside0.mk (blk_below (g := g187) (o := .cells #[.int .u64 a3_0, .int .u64 a3_1] 36 (0, 0)) (by exact B187.out) hb); have n1_ := Aside0.mk (below_step (by repeat (first | (with_reducible first | exact HB.out | apply below_alloc | apply pw_below_drewN | apply below_drew1 | refine below_set ?_ GE187.out) | exact HB.out)) hb); clear B187; clear HB; have B187 := n0_; have HB := n1_; clear n0_ n1_; (try clear hb); (try clear hb2); (try clear hk); (try clear hi); have hcz39_0 : w38.cell? ⟨g187, 0, none⟩ = some (.int .u64 a3_0) := bq_ B187 0; have hcz39_1 : w38.cell? ⟨g187, 1, none⟩ = some (.int .u64 a3_1) := bq_ B187 1; have hfz39_0 := blk_frozen B187.out 0; have hfz39_1 := blk_frozen B187.out 1) | (go_at_call 47; (with_reducible refine (tree_opens.calls a0 a2 a3_0 a3_1 _ _ l4 true _ ?side1 ?side2 ?side3 A10.out).mono ?_); (case side1 => repeat (first | exact (Kd.C_below HR4.out HB.out) | (with_reducible refine Kd.C_alloc ?_ _) | (with_reducible refine Kd.C_drewN ?_ _) | (with_reducible refine Kd.C_drew ?_))); (case side2 => exact HC4.out); (case side3 => repeat (first | exact (GL.below HRG.out HB.out) | (with_reducible refine GL.alloc ?_ _) | (with_reducible refine GL.drewN ?_ _) | (with_reducible refine GL.drew ?_))); rintro e w40 ⟨rfl, hb⟩; have n0_ := Aside0.mk (blk_below (g := g187) (o := .cells #[.int .u64 a3_0, .int .u64 a3_1] 36 (0, 0)) (by exact B187.out) hb); have n1_ := Aside0.mk (below_step (by repeat (first | (with_reducible first | exact HB.out | apply below_alloc | apply pw_below_drewN | apply below_drew1 | refine below_set ?_ GE187.out) | exact HB.out)) hb); clear B187; clear HB; have B187 := n0_; have HB := n1_; clear n0_ n1_; (try clear hb); (try clear hb2); (try clear hk); (try clear hi)) | (go_at_call 39; (with_reducible refine (tree_proper.calls a0 _ _ l1 false _ ?side1 ?side2 ?side3 A12.out).mono ?_); (case side1 => repeat (first | exact (Kd.C_below HR1.out HB.out) | (with_reducible refine Kd.C_alloc ?_ _) | (with_reducible refine Kd.C_drewN ?_ _) | (with_reducible refine Kd.C_drew ?_))); (case side2 => exact HC1.out); (case side3 => repeat (first | exact (GL.below HRG.out HB.out) | (with_reducible refine GL.alloc ?_ _) | (with_reducible refine GL.drewN ?_ _) | (with_reducible refine GL.drew ?_))); rintro e w41 ⟨rfl, hb⟩; have n0_ := Aside0.mk (blk_below (g := g187) (o := .cells #[.int .u64 a3_0, .int .u64 a3_1] 36 (0, 0)) (by exact B187.out) hb); have n1_ := Aside0.mk (below_step (by repeat (first | (with_reducible first | exact HB.out | apply below_alloc | apply pw_below_drewN | apply below_drew1 | refine below_set ?_ GE187.out) | exact HB.out)) hb); clear B187; clear HB; have B187 := n0_; have HB := n1_; clear n0_ n1_; (try clear hb); (try clear hb2); (try clear hk); (try clear hi)))
    go_ret
    exact ⟨by first | rfl | (simp [errW_none, errW_some] <;> rfl) | (simp [*, errW_none, errW_some] <;> rfl), by repeat (first | (with_reducible first | exact HB.out | apply below_alloc | apply pw_below_drewN | apply below_drew1 | refine below_set ?_ GE187.out) | exact HB.out)⟩
  ·replace c11 := Bool.eq_false_iff.mpr c11
   subst c11
   have H1 : (some false) = some r := by rw [if_neg (show ¬ (false = true) by decide)] at H; exact H
   clear H
   have H := H1
   clear H1
   obtain rfl := Option.some.inj H
   go_enter Tryd.func26, Tryd.ntmps26
   go_wp2_with (first | ((with_reducible refine gate_dst (N := 8) rfl ?_); (try (refine gate_guard (by rfl) ?_; dsimp only)); refine box_event ?hg (N := 8) ?hd (cs := #[.int .u64 a3_0, .int .u64 a3_1]) (t := 36) ?hr ?_; (case hd => rfl); (case hg => rfl); (case hr => first | (go_simp; done) | (go_simp; rfl)); intro g187 hg w42 hbox hb; have n0_ := Aside0.mk (below_step (by repeat (first | (with_reducible first | exact HB.out | apply below_alloc | apply pw_below_drewN | apply below_drew1) | exact HB.out)) hb); have n1_ := Aside0.mk (hbox); have n2_ := Aside0.mk ((by rw [hg]; exact (below_size (by repeat (first | (with_reducible first | exact HB.out | apply below_alloc | apply pw_below_drewN | apply below_drew1) | exact HB.out))) : w.heap.size ≤ g187)); have n3_ := Aside0.mk ((by rw [hg]; exact (below_size (by repeat (first | (with_reducible first | exact HB.out | apply below_alloc | apply pw_below_drewN | apply below_drew1) | exact HB.out))) : w.heap.size ≤ g187)); clear HB; have HB := n0_; have B187 := n1_; have GW187 := n2_; have GE187 := n3_; clear n0_ n1_ n2_ n3_; clear hb hbox hg) | ((with_reducible refine gate_callee (f := 37) rfl ?_); refine goesL_ (some 14) rfl rfl Tryd.func37 (by kernel_rfl) rfl #[.int .i64 (l1.length : Int)] rfl (by (try simp only [List.map_toArray, List.map_cons, List.map_nil]); first | done | rfl | (go_simp; done)) ?_; (with_reducible refine (tree_height.calls (l1.length : Int) t188 _ ?side1 A6.out).mono ?_); (case side1 => repeat (first | exact (GL.below HRG.out HB.out) | (with_reducible refine GL.alloc ?_ _) | (with_reducible refine GL.drewN ?_ _) | (with_reducible refine GL.drew ?_))); rintro e w43 ⟨rfl, hb⟩; refine ⟨_, rfl, ?_⟩; have n0_ := Aside0.mk (blk_below (g := g187) (o := .cells #[.int .u64 a3_0, .int .u64 a3_1] 36 (0, 0)) (by exact B187.out) hb); have n1_ := Aside0.mk (below_step (by repeat (first | (with_reducible first | exact HB.out | apply below_alloc | apply pw_below_drewN | apply below_drew1 | refine below_set ?_ GE187.out) | exact HB.out)) hb); clear B187; clear HB; have B187 := n0_; have HB := n1_; clear n0_ n1_; (try clear hb); (try clear hb2); (try clear hk); (try clear hi); have hcz44_0 : w43.cell? ⟨g187, 0, none⟩ = some (.int .u64 a3_0) := bq_ B187 0; have hcz44_1 : w43.cell? ⟨g187, 1, none⟩ = some (.int .u64 a3_1) := bq_ B187 1; have hfz44_0 := blk_frozen B187.out 0; have hfz44_1 := blk_frozen B187.out 1) | (go_at_call 47; (with_reducible refine (tree_opens.calls a0 a2 a3_0 a3_1 _ _ l4 false _ ?side1 ?side2 ?side3 A10.out).mono ?_); (case side1 => repeat (first | exact (Kd.C_below HR4.out HB.out) | (with_reducible refine Kd.C_alloc ?_ _) | (with_reducible refine Kd.C_drewN ?_ _) | (with_reducible refine Kd.C_drew ?_))); (case side2 => exact HC4.out); (case side3 => repeat (first | exact (GL.below HRG.out HB.out) | (with_reducible refine GL.alloc ?_ _) | (with_reducible refine GL.drewN ?_ _) | (with_reducible refine GL.drew ?_))); rintro e w45 ⟨rfl, hb⟩; have n0_ := Aside0.mk (blk_below (g := g187) (o := .cells #[.int .u64 a3_0, .int .u64 a3_1] 36 (0, 0)) (by exact B187.out) hb); have n1_ := Aside0.mk (below_step (by repeat (first | (with_reducible first | exact HB.out | apply below_alloc | apply pw_below_drewN | apply below_drew1 | refine below_set ?_ GE187.out) | exact HB.out)) hb); clear B187; clear HB; have B187 := n0_; have HB := n1_; clear n0_ n1_; (try clear hb); (try clear hb2); (try clear hk); (try clear hi)))
   go_ret
   exact ⟨by first | rfl | (simp [errW_none, errW_some] <;> rfl) | (simp [*, errW_none, errW_some] <;> rfl), by repeat (first | (with_reducible first | exact HB.out | apply below_alloc | apply pw_below_drewN | apply below_drew1 | refine below_set ?_ GE187.out) | exact HB.out)⟩

end Go.Proofs.YtpnpmeogffodgaaDoor.Q
end
section
namespace Go.Proofs.YtpnpmeogffodgaaDoor.Q
open Go.RowKit
set_option linter.unusedVariables false
set_option linter.unusedSimpArgs false
/-- What is shown of operations outside a round holds in a round, where none of them is a defer statement and nothing is let out. -/
theorem listIn_of_list {P : Program} {ops : Array Oper} {Q : Exit → Act → World → Prop} (l n : Nat) (hQ : ¬ LetsOut Q) : ∀ (rest : List Oper) (a : Act) (w : World), (∀ o ∈ rest, ∀ c, o.op ≠ .defer c) → wpList P ops Q rest a w → wpListIn (Fence.wide.inRound l) n P ops Q rest a w
  | [], a, w, _, h => h
  | o :: rest, a, w, hd, h => by
    have ih := fun (a : Act) (w : World) (h : wpList P ops Q rest a w) => listIn_of_list (P := P) (ops := ops) l n hQ rest a w (fun o ho => hd o (List.mem_cons_of_mem _ ho)) h
    unfold wpList at h
    unfold wpListIn
    split at h
    · rename_i hw
      rw [if_pos hw]
      rcases h with h | ⟨_, h⟩
      · refine ⟨fun f _ => trivial, ?_⟩
        rw [show (Fence.wide.inRound l).round = some l from rfl, Oper.semAt_some l _ _ (hd o (List.mem_cons_self ..))]
        unfold Oper.wp at h
        generalize (execOp a.eval o).run P w = res at h ⊢
        cases res with
        | ok nx w1 =>
          cases nx with
          | value v => exact ih _ _ h
          | skip => exact ih _ _ h
          | defer d => exact ih _ _ h
          | enter f args =>
            refine ⟨fun h => (by cases h), CallsIn.inRound l (callsIn_wide.2 (Calls.mono h ?_))⟩
            intro e w2 h2
            cases e with
            | returned v => exact ih _ _ h2
            | panicked c => exact h2
            | outgrown => exact h2
          | row r args =>
            refine ⟨fun h => (by cases h), fun c cs _ => ?_⟩
            obtain ⟨v, w2, hr, hs⟩ := h c cs
            exact ⟨v, w2, ih _ _ hr, by rw [fenced_inRound]; exact stepsIn_wide.2 hs⟩
          | _ => exact h.elim
        | halt hl w1 =>
          cases hl <;> first | exact h | exact h.elim
      · exact (hQ h).elim
    · rename_i hw
      rw [if_neg hw]
      exact ⟨fun f _ => trivial, ih _ _ h⟩
/-- An iterator that hands out, round by round, values whose rows are xs (each, when it is handed out, as Row says: its own memory is none that lay when the round before was over, where the heap had N objects); whatever the loop keeps between two rounds it keeps. -/
def IterRows {β : Type} (P : Program) (gf : Nat) (lb : Array Value) (Row : β → Value → Nat → World → Prop) (Kp : World → World → Prop) (xs : List β) (w : World) : Prop :=
  ∀ (l : Nat) (J : List β → Nat → World → Prop) (W : World), Below w.heap.size w W → (∀ s N A B, J s N A → Below A.heap.size A B → J s N B) →
    (∀ pre v x N W1, J pre N W1 → w.heap.size ≤ N → N ≤ W1.heap.size → pre ++ [x] <+: xs → Row x v N W1 → YieldAt Fence.wide 5 P l #[v] W1 fun e W' => e = .returned (.bool true) ∧ J (pre ++ [x]) W'.heap.size W' ∧ Kp W1 W') →
    J [] W.heap.size W → Calls P gf (#[.func (.yield l) #[] #[]] ++ lb) W fun e W' => (∃ v, e = .returned v) ∧ ∃ N, J xs N W'
theorem foldl_one (p : Tmp) (v : Value) (tm : Array Value) : ((#[p] : Array Tmp).zip #[v]).foldl (fun t (p, v) => t.setIfInBounds p v) tm = tm.setIfInBounds p v := by simp
theorem grown_of_below {W W' : World} (h : Below W.heap.size W W') : W.grownBy W' none := ⟨h.os, h.tape, h.output, h.size, fun k hk _ => h.block k hk⟩
theorem rangeFunc_rows {β : Type} {P : Program} {g : Operand} {p : Tmp} {assign body : Code} {Q : Exit → Act → World → Prop} {a : Act} {w : World} {gf : Nat} {lb : Array Value}
    (hg : a.eval g = .func (.func gf) #[] lb) (eg : ∀ args w, (callFunc gf args).run P w = .ok (.enter gf args) w)
    {Row : β → Value → Nat → World → Prop} {Kp : World → World → Prop} {xs : List β} (hseq : IterRows P gf lb Row Kp xs w)
    (hKt : ∀ {A B C : World}, Kp A B → Kp B C → Kp A C) (hKb : ∀ (W : World) (l : Nat) (o o' : Obj), w.heap.size ≤ l → W.heap[l]? = some o → o.isCells = false → Kp W (W.putObj l o'))
    (I : List β → Nat → World → Prop) (hI : ∀ N, OwnFrom w.heap.size (fun s W => I s N W)) (hR : ∀ x N, OwnFrom w.heap.size (fun v W => Row x v N W)) (h0 : ∀ N, w.heap.size ≤ N → I [] N w) (q : Tmp)
    (hassign : ∀ (l : Nat) (v : Value) (W : World) (K : Act → World → Prop), K { tmps := (a.tmps.setIfInBounds p v).setIfInBounds q v, defers := [] } W →
      assign.wpIn (Fence.wide.inRound l) 5 P (Exit.then K (fun _ _ _ => False)) { tmps := a.tmps.setIfInBounds p v, defers := [] } W)
    (hbody : ∀ (l : Nat) (pre : List β) (v : Value) (x : β) (N : Nat) (W : World), I pre N W → w.heap.size ≤ N → N ≤ W.heap.size → pre ++ [x] <+: xs → Row x v N W →
      body.wpIn (Fence.wide.inRound l) 5 P (fun e _ W' => e = .normal ∧ KeepsFrom w.heap.size W W' ∧ Kp W W' ∧ I (pre ++ [x]) W'.heap.size W') { tmps := (a.tmps.setIfInBounds p v).setIfInBounds q v, defers := [] } W)
    (hdone : ∀ (D N : Nat) (W : World), w.heap.size ≤ D → I xs N W → W.heap[D]? = some (.deferred (some [])) → Q .normal { a with defers := { target := .collected D, args := #[] } :: a.defers } W) :
    (Code.rangeFunc g #[p] assign body).wp P Q a w := by
  refine (wpIn_wide (n := 6)).1 (wpIn_rangeFunc ?_)
  intro fn hfn
  rw [show Fence.wide.round = none from rfl]
  obtain ⟨rec, hrec⟩ : ∃ rec : LoopState → Option Code → Loop, rec = fun st pe => { state := st, pending := pe, fn, tmps := a.tmps, params := #[p], assign, body, defers := w.heap.size } := ⟨_, rfl⟩
  obtain ⟨W1, hW1⟩ : ∃ W1, (w.alloc (.deferred (some []))).alloc (.loop (rec .ready none)) = W1 := ⟨_, rfl⟩
  have hL1 : W1.heap[w.heap.size + 1]? = some (.loop (rec .ready none)) := by
    rw [← hW1]; have := World.alloc_heap_new (w.alloc (.deferred (some []))) (.loop (rec .ready none)); rwa [World.size_alloc] at this
  have hK1 : W1.heap[w.heap.size]? = some (.deferred (some [])) := by
    rw [← hW1]; exact (Below.heap_alloc _ _ _ (by simp)).trans (World.alloc_heap_new w _)
  have hI1 : I [] W1.heap.size W1 := by
    rw [← hW1]
    exact (hI _).alloc _ ((hI _).alloc _ (h0 _ (by simp; omega)))
  have hb1 : Below w.heap.size w W1 := by
    rw [← hW1]; exact ((Below.refl _ w).alloc (Nat.le_refl _) _).alloc (by simp) _
  refine ⟨w.heap.size + 1, [{ target := .collected w.heap.size, args := #[] }], W1, { target := .fn (.func gf) lb, args := #[.func (.yield (w.heap.size + 1)) #[] #[]] }, W1, gf,
    #[.func (.yield (w.heap.size + 1)) #[] #[]] ++ lb, W1, ?_, ?_, ?_, ?_, (fun h => by cases h), ?_⟩
  · rw [← hW1, hrec]; exact run_enterLoop_outer _ _ _ _ _
  · simp only [resolve, hg]
    simp [go_sem]
  · intro f' hf'; trivial
  · simp [invoke, go_sem, eg]
  · refine callsIn_wide.2 ((hseq (w.heap.size + 1)
      (fun pre N W => I pre N W ∧ W.heap[w.heap.size + 1]? = some (.loop (rec .ready none)) ∧ W.heap[w.heap.size]? = some (.deferred (some [])))
      W1 hb1 (fun s N A B (hs : _ ∧ _ ∧ _) hb => ⟨hI N s A B none hs.1 (grown_of_below hb) (fun r e => by cases e), (hb.block _ (Array.getElem?_eq_some_iff.1 hs.2.1).1).trans hs.2.1, (hb.block _ (Array.getElem?_eq_some_iff.1 hs.2.2).1).trans hs.2.2⟩) ?_ ⟨hI1, hL1, hK1⟩).mono ?_)
    · rintro pre v x N W ⟨hi, hl, hk⟩ hNw hNW hpre hrow
      have hlt : w.heap.size + 1 < W.heap.size := (Array.getElem?_eq_some_iff.1 hl).1
      have hy := run_yield (P := P) (args := #[v]) hl (by rw [hrec]; rfl)
      rw [hrec] at hy
      refine ⟨fn, _, assign, body, hy, roundIn_of_wpIn trivial ?_⟩
      dsimp only
      rw [foldl_one]
      refine hassign _ v W _ ?_
      refine ⟨_, run_beginRound hl (by rw [hrec]), ?_⟩
      have hl2 : (W.putObj (w.heap.size + 1) (.loop { rec .ready none with state := .busy })).heap[w.heap.size + 1]? = some (.loop { rec .ready none with state := .busy }) := World.putObj_heap_same hlt
      have hk2 : (W.putObj (w.heap.size + 1) (.loop { rec .ready none with state := .busy })).heap[w.heap.size]? = some (.deferred (some [])) := (World.putObj_heap_other (by omega)).trans hk
      have hw2 : Kp W (W.putObj (w.heap.size + 1) (.loop { rec .ready none with state := .busy })) := hKb _ _ _ _ (by omega) hl rfl
      refine wpIn_mono (hbody _ pre v x N _ ((hI N).putObj _ hi (by omega) hl rfl) hNw (by simpa using hNW) hpre ((hR x N).putObj _ hrow (by omega) hl rfl)) ?_
      rintro e a3 W3 ⟨rfl, hk3, hkp3, hi3⟩
      have hl3 := hk3.same _ _ (by omega) hl2 rfl
      have hr := run_endRound (P := P) none hl3
      have hl4 : (W3.putObj (w.heap.size + 1) (.loop (rec .ready none))).heap[w.heap.size + 1]? = some (.loop (rec .ready none)) := World.putObj_heap_same (Array.getElem?_eq_some_iff.1 hl3).1
      have hk4 : (W3.putObj (w.heap.size + 1) (.loop (rec .ready none))).heap[w.heap.size]? = some (.deferred (some [])) := (World.putObj_heap_other (by omega)).trans (hk3.same _ _ (Nat.le_refl _) hk2 rfl)
      have e4 : W3.putObj (w.heap.size + 1) (.loop (rec .ready none)) = W3.putObj (w.heap.size + 1) (.loop { rec .ready none with state := if (none : Option Code).isNone then .ready else .done, pending := none }) := by rw [hrec]; rfl
      rw [e4] at hl4 hk4
      exact ⟨_, _, hr, rfl, ⟨by have e_ := (hI W3.heap.size).putObj (.loop { rec .ready none with state := if (none : Option Code).isNone then .ready else .done, pending := none }) hi3 (by omega) hl3 rfl; simpa using e_, hl4, hk4⟩, hKt (hKt hw2 hkp3) (hKb _ _ _ _ (by omega) hl3 rfl)⟩
    · rintro e W2 ⟨⟨v, rfl⟩, N, hi, hl, hk⟩
      exact ⟨none, _, by have := run_endLoop (P := P) hl (by rw [hrec]; simp); rw [hrec] at this; exact this, hdone _ N _ (Nat.le_refl _) ((hI N).putObj _ hi (by omega) hl rfl) ((World.putObj_heap_other (by omega)).trans hk)⟩
end Go.Proofs.YtpnpmeogffodgaaDoor.Q
end
section
namespace Go.Proofs.YtpnpmeogffodgaaDoor.Q
open Go.RowKit Go.Proofs.YtpnpmeogffodgaaDoorW.PrintWords Go.Proofs.YtpnpmeogffodgaaDoorW.PrintLast Go.Proofs.YtpnpmeogffodgaaDoorW.PrintMore
set_option linter.unusedVariables false
set_option linter.unusedSimpArgs false
/-- The level above a level. -/
def upL (f : Int) : List S36 → Option (List S36)
  | a :: b :: l => (sponge_Node.f 200 f a.f0 a.f1 b.f0 b.f1).bind fun n => (upL f l).bind fun r => some (⟨n.1, n.2⟩ :: r)
  | _ => some []
/-- The levels from one on, to the first that has not more than top digests. -/
def riseL (f top : Int) : Nat → List S36 → Option (List (List S36))
  | 0, _ => none
  | k + 1, l => if top < (l.length : Int) then (upL f l).bind fun u => (riseL f top k u).bind fun r => some (l :: r) else some [l]
theorem upL_len (f : Int) : ∀ (n : Nat) (l u : List S36), l.length ≤ n → upL f l = some u → u.length = l.length / 2
  | n, [], u, _, h => by simp [upL] at h; subst h; rfl
  | n, [a], u, _, h => by simp [upL] at h; subst h; simp
  | 0, a :: b :: l, u, hn, h => by simp at hn
  | n + 1, a :: b :: l, u, hn, h => by
    simp only [upL] at h
    obtain ⟨m, _, h⟩ := Option.bind_eq_some_iff.mp h
    obtain ⟨r, hr, h⟩ := Option.bind_eq_some_iff.mp h
    obtain rfl := Option.some.inj h
    have := upL_len f n l r (by simp at hn; omega) hr
    simp only [List.length_cons, this]
    omega
theorem up_step (f : Int) (l : List S36) (i : Nat) (u : List S36) (h : upL f (l.drop (2 * i)) = some u) (h2 : 2 * i + 1 < l.length) : ∃ n0 n1 r, sponge_Node.f 200 f (rd_T36 l ((2 * i : Nat) : Int)).f0 (rd_T36 l ((2 * i : Nat) : Int)).f1 (rd_T36 l ((2 * i + 1 : Nat) : Int)).f0 (rd_T36 l ((2 * i + 1 : Nat) : Int)).f1 = some (n0, n1) ∧ upL f (l.drop (2 * (i + 1))) = some r ∧ u = ⟨n0, n1⟩ :: r := by
  rw [List.drop_eq_getElem_cons (by omega), List.drop_eq_getElem_cons h2] at h
  simp only [upL] at h
  obtain ⟨⟨n0, n1⟩, hn, h⟩ := Option.bind_eq_some_iff.mp h
  obtain ⟨r, hr, h⟩ := Option.bind_eq_some_iff.mp h
  have e0 : rd_T36 l ((2 * i : Nat) : Int) = l[2 * i] := by simp only [rd_T36, Int.toNat_natCast]; simp [List.getD, show 2 * i < l.length by omega]
  have e1 : rd_T36 l ((2 * i + 1 : Nat) : Int) = l[2 * i + 1] := by simp only [rd_T36, Int.toNat_natCast]; simp [List.getD, h2]
  exact ⟨n0, n1, r, by rw [e0, e1]; exact hn, hr, (Option.some.inj h).symm⟩
theorem set_mid (dn : List S36) (m : Nat) (x : S36) (h : dn.length < m) : (dn ++ List.replicate (m - dn.length) z36).set dn.length x = (dn ++ [x]) ++ List.replicate (m - (dn.length + 1)) z36 := by
  rw [List.set_append_right _ _ (Nat.le_refl _), Nat.sub_self, show m - dn.length = (m - (dn.length + 1)) + 1 by omega, List.replicate_succ, List.set_cons_zero, List.append_assoc]
  rfl
theorem clone_f (l : List S36) (h : l.length ≤ 1048576) : slices_Clone.f l = some l := by
  unfold slices_Clone.f
  rw [Option.bind_some, if_pos (by rw [List.length_nil]; omega)]
  rfl
/-- What a round keeps: all cells but those of slices of slices and of trees; and what lay when the caller began. -/
def KpT (wb W W' : World) : Prop := Below wb.heap.size W W' ∧ ∀ (k : Nat) (cs : Array Value) (t : TypeId) (fr : Nat × Nat), W.heap[k]? = some (Obj.cells cs t fr) → t ≠ 22 → t ≠ 26 → W'.heap[k]? = some (Obj.cells cs t fr)
/-- A row of digests of its own, as a round is handed it: its memory is none that lay when the heap had N objects. -/
def RowD (x : List S36) (v : Value) (N : Nat) (W : World) : Prop := Kd.R k36 36 W N (fun _ => True) v x
theorem rowD_cells {N : Nat} {W W' : World} {x : List S36} {v : Value} (h : RowD x v N W) (hm : ∀ (k : Nat) (cs : Array Value), W.heap[k]? = some (Obj.cells cs 36 (0, 0)) → W'.heap[k]? = W.heap[k]?) : RowD x v N W' :=
  Kd.R_mono (Kd.R_step (Kd.R_bound h) (fun k hk _ => by
    obtain ⟨_, _, _, q, hq, cs, hc⟩ := hk
    obtain rfl : q = 36 := by simpa [k36, Kd.iso, Kd.pair, Kd.int, Kd.scalar] using hq
    exact hm k cs hc)) (fun _ _ => trivial)
set_option maxHeartbeats 8000000 in
set_option maxRecDepth 100000 in
theorem rise_iter (k : Nat) (f top : Int) (gf gt gl : Nat) (wb w : World) (hG : GL wb) (hb : Below wb.heap.size wb w) (A : Option Addr) (c : Nat) (l : List S36) (hr : Kd.C k36 wb A l.length l) (hc : l.length ≤ c) (hln : l.length ≤ 1048576)
    (bf : w.heap[gf]? = some (Obj.cells #[.int .i64 f] 3 (0, 0))) (bt : w.heap[gt]? = some (Obj.cells #[.int .i64 top] 3 (0, 0))) (bl : w.heap[gl]? = some (Obj.cells #[.slice A l.length c] 22 (0, 0)))
    (xs : List (List S36)) (h : riseL f top k l = some xs) :
    IterRows Tryd.prog 61 #[.pointer (some ⟨gl, 0, none⟩), .pointer (some ⟨gt, 0, none⟩), .pointer (some ⟨gf, 0, none⟩)] RowD (KpT wb) xs w := by
  intro l0 J W hbW hJ hY h0
  have hu36 := Tryd.underlying36
  have HRG := Aside0.mk hG
  have HR := Aside0.mk (Kd.C_below hr hb)
  have HC := Aside0.mk hc
  have HLN := Aside0.mk hln
  have H' := Aside0.mk h
  have HB := Aside0.mk (hb.trans (hbW.mono hb.size))
  have B_f := Aside0.mk (blk_below bf hbW)
  have B_t := Aside0.mk (blk_below bt hbW)
  have HCW := Aside0.mk (Kd.C_below (Kd.C_below hr hb) hbW)
  have c_l : W.cell? ⟨gl, 0, none⟩ = some (.slice A l.length c) := (blk_cell (blk_below bl hbW) 0).trans rfl
  have HJ := Aside0.mk hJ
  have HY := Aside0.mk hY
  have J0 := Aside0.mk h0
  replace hbW := Aside0.mk hbW
  clear hG hr hc hln h hb bf bt bl hJ hY h0 HR
  go_enter Tryd.func61, Tryd.ntmps61
  go_wp2_with (go_at_call 45; (with_reducible refine (slices_Clone.calls _ _ l l _ HCW.out HC.out (clone_f l HLN.out)).mono ?_); rintro e w1 ⟨v0, rfl, ho, hb⟩; have HO := Aside0.mk (show RowD l v0 W.heap.size w1 from ho); have HNs := Aside0.mk (⟨hb.size, hbW.out.size, HB.out.size⟩ : W.heap.size ≤ w1.heap.size ∧ w.heap.size ≤ W.heap.size ∧ wb.heap.size ≤ W.heap.size); have DB := Aside0.mk (below_step HB.out hb); have D_f := Aside0.mk (blk_below B_f.out hb); have D_t := Aside0.mk (blk_below B_t.out hb); have D_J := Aside0.mk (HJ.out _ _ _ _ J0.out hb); clear HB B_f B_t J0 ho hb c_l HCW; have HB := DB; have B_f := D_f; have B_t := D_t; have J0 := D_J; clear DB D_f D_t D_J)
  go_loopg [5] k (fun kq v5 wr => ∃ (pre : List (List S36)) (lev : List S36) (rest : List (List S36)) (N : Nat), Aside0 (riseL f top kq lev = some rest) ∧ Aside0 (xs = pre ++ rest) ∧ Aside0 (lev.length ≤ 1048576) ∧ Aside0 (RowD lev v5 N wr) ∧ Aside0 (wr.heap[gf]? = some (Obj.cells #[.int .i64 f] 3 (0, 0))) ∧ Aside0 (wr.heap[gt]? = some (Obj.cells #[.int .i64 top] 3 (0, 0))) ∧ Aside0 (Below wb.heap.size wb wr) ∧ Aside0 (J pre N wr) ∧ Aside0 (N ≤ wr.heap.size ∧ w.heap.size ≤ N ∧ wb.heap.size ≤ N))
  case atStart => exact ⟨[], l, xs, W.heap.size, H', ⟨rfl⟩, HLN, HO, B_f, B_t, HB, J0, HNs⟩
  case round =>
    clear H' HB HO B_f B_t J0 HLN HC HNs
    obtain ⟨pre, lev, rest, N, HA, HX, HLN, HO, B_f, B_t, HB, HJp, HNs⟩ := hrel
    cases gk with
    | zero => exact absurd HA.out (by simp [riseL])
    | succ k1 =>
      have H := HA.out
      clear HA
      simp only [riseL] at H
      obtain ⟨A0, c0, rfl, hc0, hC0⟩ := Kd.R_reads HO.out
      have hpre : pre ++ [lev] <+: xs := by
        rw [HX.out]
        by_cases ht : top < (lev.length : Int)
        · rw [if_pos ht] at H
          obtain ⟨u, _, H⟩ := Option.bind_eq_some_iff.mp H
          obtain ⟨r, _, H⟩ := Option.bind_eq_some_iff.mp H
          obtain rfl := Option.some.inj H
          exact ⟨r, by simp⟩
        · rw [if_neg ht] at H
          obtain rfl := Option.some.inj H
          exact List.prefix_rfl
      obtain ⟨fn, tmps, assign, body, hy, hR⟩ := HY.out pre _ lev N wr HJp.out HNs.out.2.1 HNs.out.1 hpre HO.out
      have HRn := Aside0.mk hR
      have HH := Aside0.mk H
      clear hR H hpre hc0 hC0
      have hro : Fence.wide.round = none := rfl
      go_upto_region 1 with (fail)
      by_cases ht : top < (lev.length : Int)
      · have H := HH.out
        clear HH
        rw [if_pos ht] at H
        obtain ⟨u, hu, H⟩ := Option.bind_eq_some_iff.mp H
        obtain ⟨r, hr, H⟩ := Option.bind_eq_some_iff.mp H
        obtain rfl := Option.some.inj H
        have HU := Aside0.mk hu
        have H' := Aside0.mk hr
        clear H hu hr
        have ht0 : decide (top < (lev.length : Int)) = true := decide_eq_true ht
        clear ht
        refine (wpIn_wide (n := 6)).1 ?_
        gi_wp2
        refine HRn.out.mono ?_
        rintro e W3 ⟨rfl, hJ3, hk3⟩
        have BK_f := Aside0.mk (hk3.2 _ _ _ _ B_f.out (by decide) (by decide))
        have BK_t := Aside0.mk (hk3.2 _ _ _ _ B_t.out (by decide) (by decide))
        have BH := Aside0.mk (HB.out.trans hk3.1)
        have HW3 := Aside0.mk hk3.1.size
        have HO3 := Aside0.mk (rowD_cells HO.out (fun k cs hc => (hk3.2 _ _ _ _ hc (by decide) (by decide)).trans hc.symm))
        have HJ3 := Aside0.mk hJ3
        clear B_f B_t HB HO hJ3 hk3 hy HRn HJp
        have c_t : W3.cell? ⟨gt, 0, none⟩ = some (.int .i64 top) := (blk_cell BK_t.out 0).trans rfl
        gi_wp2
        have hq : wrap64 ((lev.length : Int) / 2) = ((lev.length / 2 : Nat) : Int) := by have := HLN.out; unfold wrap64; omega
        obtain ⟨m, hm⟩ : ∃ m, m = lev.length / 2 := ⟨_, rfl⟩
        rw [← hm] at hq
        have hum : u.length = m := by rw [hm]; exact upL_len f lev.length lev u (Nat.le_refl _) HU.out
        have hmb : m ≤ 524288 := by have := HLN.out; omega
        have HM := Aside0.mk hm
        have HMB := Aside0.mk hmb
        have HUM := Aside0.mk hum
        have HBW := Aside0.mk (Below.refl W3.heap.size W3)
        clear hum hm
        go_wp2_with ((with_reducible refine gate_dst (N := 22) rfl ?_); refine Kd.R_make k36 (w0 := W3) W3.heap.size 36 rfl (N := 22) rfl 22 (.tmp 21) (.tmp 21) rfl (m : Int) (by first | rfl | (go_simp; done) | (rw [← hq]; rfl)) (by first | rfl | (go_simp; done) | (rw [← hq]; rfl)) Tryd.underlying22 (.agg #[.int .u64 0, .int .u64 0]) 16 info36 rfl (by decide) (by decide) z36 (ok := fun _ => True) (okp := fun _ => True) (k36_mkM _ _ _ z36) (fun _ hk => hk) trivial (by omega) (by rw [Int.toNat_natCast]; omega) (Below.refl _ _) (Nat.le_refl _) ?_; intro v6 w4 hn hb hg_ hnew_; clear hg_ hnew_; rw [Int.toNat_natCast] at hn; obtain ⟨A6, c6, e6⟩ := Kd.R_slice hn; rw [List.length_replicate] at e6; subst e6; have HN := Aside0.mk hn; have HBN := Aside0.mk hb; clear hn hb HBW)
        clear hmb
        go_loopg [25] (m + 1) (fun kq v25 w' => ∃ (i : Nat) (dn r : List S36), v25 = .int .i64 (i : Int) ∧ Aside0 (kq + i = m + 1) ∧ Aside0 (dn.length = i ∧ u = dn ++ r ∧ upL f (lev.drop (2 * i)) = some r) ∧ Aside0 (Kd.R k36 36 w' W3.heap.size (fun _ => True) (.slice A6 m c6) (dn ++ List.replicate (m - i) z36)) ∧ Aside0 (Below W3.heap.size W3 w'))
        case atStart => exact ⟨0, [], u, rfl, ⟨rfl⟩, ⟨rfl, rfl, HU.out⟩, HN, HBN⟩
        case round =>
          clear HN HBN
          obtain ⟨i, dn, r_, rfl, HK, HD, HN, HBN⟩ := hrel
          by_cases hi : i < m
          · have hi0 : decide (i < m) = true := decide_eq_true hi
            obtain ⟨k2, rfl⟩ : ∃ k2, gk = k2 + 1 := ⟨gk - 1, by have := HK.out; omega⟩
            have hlen : 2 * i + 1 < lev.length := by have := HM.out; omega
            obtain ⟨hd0, hd1, hd2⟩ := HD.out
            obtain ⟨n0, n1, r2, hnode, hup, hr2⟩ := up_step f lev i r_ hd2 hlen
            have A1 := Aside0.mk hnode
            have HD2 := Aside0.mk (show (dn ++ [(⟨n0, n1⟩ : S36)]).length = i + 1 ∧ u = (dn ++ [(⟨n0, n1⟩ : S36)]) ++ r2 ∧ upL f (lev.drop (2 * (i + 1))) = some r2 from ⟨by simp [hd0], by rw [hd1, hr2]; simp, hup⟩)
            have hdl := Aside0.mk hd0
            clear hd0 hd1 hd2 hnode hup hr2 HD
            obtain ⟨j0, hj0⟩ : ∃ j0, 2 * i = j0 := ⟨_, rfl⟩
            obtain ⟨j1, hj1⟩ : ∃ j1, 2 * i + 1 = j1 := ⟨_, rfl⟩
            have hb0 : wrap64 (2 * (i : Int)) = (j0 : Int) := by have := HLN.out; unfold wrap64; omega
            have hb1 : wrap64 ((j0 : Int) + 1) = (j1 : Int) := by have := HLN.out; unfold wrap64; omega
            have hadd : wrap64 ((i : Int) + 1) = ((i + 1 : Nat) : Int) := by have := HLN.out; unfold wrap64; omega
            rw [hj1, hj0] at A1
            obtain ⟨A0', c0', e0', hc0, hC0⟩ := Kd.R_reads HO3.out
            injection e0' with ea_ eb_ ec_
            subst ea_; subst ec_; clear eb_
            obtain ⟨ad, ea, hx0, hx1⟩ := at_T36 hC0 (j0 : Int) (by omega) (by omega)
            obtain ⟨ad', ea', hy0, hy1⟩ := at_T36 hC0 (j1 : Int) (by omega) (by omega)
            rw [ea] at ea'
            injection ea' with ea'
            subst ea'
            subst ea
            simp only [Int.toNat_natCast] at hx0 hx1 hy0 hy1
            have l0_ := World.block_lt_of_cell? W3 _ hx0
            have l1_ := World.block_lt_of_cell? W3 _ hx1
            have l2_ := World.block_lt_of_cell? W3 _ hy0
            have l3_ := World.block_lt_of_cell? W3 _ hy1
            have p0 : (0 ≤ (j0 : Int)) = True := eq_true (by omega)
            have q0 : ((j0 : Int) < (lev.length : Int)) = True := eq_true (by omega)
            have p1 : (0 ≤ (j1 : Int)) = True := eq_true (by omega)
            have q1 : ((j1 : Int) < (lev.length : Int)) = True := eq_true (by omega)
            have p2 : (0 ≤ (i : Int)) = True := eq_true (by omega)
            have q2 : ((i : Int) < (m : Int)) = True := eq_true (by omega)
            have q0n : (j0 < lev.length) = True := eq_true (by omega)
            have q1n : (j1 < lev.length) = True := eq_true (by omega)
            have q2n : (i < m) = True := eq_true hi
            have hl_ : (dn ++ List.replicate (m - i) z36).length = m := by have := hdl.out; simp; omega
            obtain ⟨g6, c6', e6, hb6, hl6, cells6, hc6⟩ := Kd.R_form HN.out (by omega)
            rw [hl_] at e6
            injection e6 with ea_ eb_ ec_
            subst ea_; subst ec_; clear eb_
            have HG6 := Aside0.mk hb6
            have cf3 : W3.cell? ⟨gf, 0, none⟩ = some (.int .i64 f) := (blk_cell BK_f.out 0).trans rfl
            have lf_ := World.block_lt_of_cell? W3 _ cf3
            have hcf := (HBN.out.cell lf_).trans cf3
            replace hx0 := (HBN.out.cell l0_).trans hx0
            replace hx1 := (HBN.out.cell l1_).trans hx1
            replace hy0 := (HBN.out.cell l2_).trans hy0
            replace hy1 := (HBN.out.cell l3_).trans hy1
            have HL := Aside0.mk (⟨l0_, l1_, l2_, l3_, lf_⟩ : _ ∧ _ ∧ _ ∧ _ ∧ _)
            clear hb6 hl6 hc6 cf3 l0_ l1_ l2_ l3_ lf_ hc0 hC0 c_t
            generalize ha0 : (rd_T36 lev (j0 : Int)).f0 = a0 at *
            generalize ha1 : (rd_T36 lev (j0 : Int)).f1 = a1 at *
            generalize hb0' : (rd_T36 lev (j1 : Int)).f0 = b0 at *
            generalize hb1' : (rd_T36 lev (j1 : Int)).f1 = b1 at *
            clear ha0 ha1 hb0' hb1'
            go_upto_region 6 with (fail)
            refine start_ (n := 17) (S := fun w' => w'.cell? ⟨gf, 0, none⟩ = some (.int .i64 f) ∧ w'.cell? (ad.add (j0 * 2)) = some (.int .u64 a0) ∧ w'.cell? ⟨(ad.add (j0 * 2)).block, (ad.add (j0 * 2)).off + 1, none⟩ = some (.int .u64 a1) ∧ w'.cell? (ad.add (j1 * 2)) = some (.int .u64 b0) ∧ w'.cell? ⟨(ad.add (j1 * 2)).block, (ad.add (j1 * 2)).off + 1, none⟩ = some (.int .u64 b1)) (ds := []) #[false, false, false, false, false, false, false, false, false, false, false, false, false, false, false, false, false] (by kernel_rfl) rfl rfl ⟨hcf, hx0, hx1, hy0, hy1⟩ (fun hHeld => ?_)
            replace HN := Aside0.mk (Kd.R_drew HN.out)
            replace HBN := Aside0.mk HBN.out.drew
            generalize wr.drew = w7 at HN HBN hHeld ⊢
            clear hcf hx0 hx1 hy0 hy1
            refine pure_ (i := 0) (N := some 28) (v := ?_) (a' := ?_) #[true, false, false, false, false, false, false, false, false, false, false, false, false, false, false, false, false] rfl rfl (by kernel_rfl) (fun _ _ _ h => h) (Or.inl ⟨by rfl, ?_⟩) ?_ ?_
            rotate_left
            · intro w'
              go_simp
              with_reducible rfl
            rotate_left
            · simp only [Act.put, List.setIfInBounds_toArray, List.set_cons_zero, List.set_cons_succ, i64_w, i32_w]
              rfl
            refine pure_ (i := 1) (N := some 29) (v := ?_) (a' := ?_) #[true, true, false, false, false, false, false, false, false, false, false, false, false, false, false, false, false] rfl rfl (by kernel_rfl) (fun _ _ _ h => h) (Or.inl ⟨by rfl, ?_⟩) ?_ ?_
            rotate_left
            · intro w'
              go_simp
              with_reducible rfl
            rotate_left
            · simp only [Act.put, List.setIfInBounds_toArray, List.set_cons_zero, List.set_cons_succ, i64_w, i32_w]
              rfl
            refine pure_ (i := 3) (N := some 31) (v := ?_) (a' := ?_) #[true, true, false, true, false, false, false, false, false, false, false, false, false, false, false, false, false] rfl rfl (by kernel_rfl) (fun _ _ _ h => h) (Or.inl ⟨by rfl, ?_⟩) ?_ ?_
            rotate_left
            · intro w'
              go_simp
              with_reducible rfl
            rotate_left
            · simp only [Act.put, List.setIfInBounds_toArray, List.set_cons_zero, List.set_cons_succ, i64_w, i32_w]
              rfl
            refine pure_ (i := 4) (N := some 32) (v := ?_) (a' := ?_) #[true, true, false, true, true, false, false, false, false, false, false, false, false, false, false, false, false] rfl rfl (by kernel_rfl) (fun _ _ _ h => h) (Or.inl ⟨by rfl, ?_⟩) ?_ ?_
            rotate_left
            · intro w'
              go_simp
              with_reducible rfl
            rotate_left
            · simp only [Act.put, List.setIfInBounds_toArray, List.set_cons_zero, List.set_cons_succ, i64_w, i32_w]
              rfl
            refine pure_ (i := 5) (N := some 33) (v := ?_) (a' := ?_) #[true, true, false, true, true, true, false, false, false, false, false, false, false, false, false, false, false] rfl rfl (by kernel_rfl) (fun _ _ _ h => h) (Or.inl ⟨by rfl, ?_⟩) ?_ ?_
            rotate_left
            · intro w'
              go_simp
              with_reducible rfl
            rotate_left
            · simp only [Act.put, List.setIfInBounds_toArray, List.set_cons_zero, List.set_cons_succ, i64_w, i32_w]
              rfl
            refine pure_ (i := 6) (N := some 34) (v := ?_) (a' := ?_) #[true, true, false, true, true, true, true, false, false, false, false, false, false, false, false, false, false] rfl rfl (by kernel_rfl) (fun _ _ _ h => h) (Or.inl ⟨by rfl, ?_⟩) ?_ ?_
            rotate_left
            · intro w'
              go_simp
              with_reducible rfl
            rotate_left
            · simp only [Act.put, List.setIfInBounds_toArray, List.set_cons_zero, List.set_cons_succ, i64_w, i32_w]
              rfl
            refine pure_ (i := 8) (N := some 36) (v := ?_) (a' := ?_) #[true, true, false, true, true, true, true, false, true, false, false, false, false, false, false, false, false] rfl rfl (by kernel_rfl) (fun _ _ _ h => h) (Or.inl ⟨by rfl, ?_⟩) ?_ ?_
            rotate_left
            · intro w'
              go_simp
              with_reducible rfl
            rotate_left
            · simp only [Act.put, List.setIfInBounds_toArray, List.set_cons_zero, List.set_cons_succ, i64_w, i32_w]
              rfl
            refine pure_ (i := 9) (N := some 37) (v := ?_) (a' := ?_) #[true, true, false, true, true, true, true, false, true, true, false, false, false, false, false, false, false] rfl rfl (by kernel_rfl) (fun _ _ _ h => h) (Or.inl ⟨by rfl, ?_⟩) ?_ ?_
            rotate_left
            · intro w'
              go_simp
              with_reducible rfl
            rotate_left
            · simp only [Act.put, List.setIfInBounds_toArray, List.set_cons_zero, List.set_cons_succ, i64_w, i32_w]
              rfl
            refine pure_ (i := 10) (N := some 38) (v := ?_) (a' := ?_) #[true, true, false, true, true, true, true, false, true, true, true, false, false, false, false, false, false] rfl rfl (by kernel_rfl) (fun _ _ _ h => h) (Or.inl ⟨by rfl, ?_⟩) ?_ ?_
            rotate_left
            · intro w'
              go_simp
              with_reducible rfl
            rotate_left
            · simp only [Act.put, List.setIfInBounds_toArray, List.set_cons_zero, List.set_cons_succ, i64_w, i32_w]
              rfl
            refine pure_ (i := 11) (N := some 39) (v := ?_) (a' := ?_) #[true, true, false, true, true, true, true, false, true, true, true, true, false, false, false, false, false] rfl rfl (by kernel_rfl) (fun _ _ _ h => h) (Or.inl ⟨by rfl, ?_⟩) ?_ ?_
            rotate_left
            · intro w'
              go_simp
              with_reducible rfl
            rotate_left
            · simp only [Act.put, List.setIfInBounds_toArray, List.set_cons_zero, List.set_cons_succ, i64_w, i32_w]
              rfl
            refine pure_ (i := 12) (N := some 40) (v := ?_) (a' := ?_) #[true, true, false, true, true, true, true, false, true, true, true, true, true, false, false, false, false] rfl rfl (by kernel_rfl) (fun _ _ _ h => h) (Or.inl ⟨by rfl, ?_⟩) ?_ ?_
            rotate_left
            · intro w'
              go_simp
              with_reducible rfl
            rotate_left
            · simp only [Act.put, List.setIfInBounds_toArray, List.set_cons_zero, List.set_cons_succ, i64_w, i32_w]
              rfl
            refine take_ (i := 2) (N := some 30) (v := ?_) (a' := ?_) #[true, true, true, true, true, true, true, false, true, true, true, true, true, false, false, false, false] rfl rfl (by kernel_rfl) (fun _ _ _ h => h) (Or.inl ⟨by rfl, ?_⟩) hHeld ?_ ?_
            rotate_left
            · rintro w' ⟨s0, s1, s2, s3, s4⟩
              go_simp
              with_reducible rfl
            rotate_left
            · simp only [Act.put, List.setIfInBounds_toArray, List.set_cons_zero, List.set_cons_succ, i64_w, i32_w]
              rfl
            refine take_ (i := 7) (N := some 35) (v := ?_) (a' := ?_) #[true, true, true, true, true, true, true, true, true, true, true, true, true, false, false, false, false] rfl rfl (by kernel_rfl) (fun _ _ _ h => h) (Or.inl ⟨by rfl, ?_⟩) hHeld ?_ ?_
            rotate_left
            · rintro w' ⟨s0, s1, s2, s3, s4⟩
              go_simp
              with_reducible rfl
            rotate_left
            · simp only [Act.put, List.setIfInBounds_toArray, List.set_cons_zero, List.set_cons_succ, i64_w, i32_w]
              rfl
            refine take_ (i := 13) (N := some 41) (v := ?_) (a' := ?_) #[true, true, true, true, true, true, true, true, true, true, true, true, true, true, false, false, false] rfl rfl (by kernel_rfl) (fun _ _ _ h => h) (Or.inl ⟨by rfl, ?_⟩) hHeld ?_ ?_
            rotate_left
            · rintro w' ⟨s0, s1, s2, s3, s4⟩
              go_simp
              with_reducible rfl
            rotate_left
            · simp only [Act.put, List.setIfInBounds_toArray, List.set_cons_zero, List.set_cons_succ, i64_w, i32_w]
              rfl
            refine one_ (i := 14) (N := some 42) #[true, true, true, true, true, true, true, true, true, true, true, true, true, true, true, false, false] rfl rfl (by kernel_rfl) (by decide) (fun K hK => ?_)
            refine goes_ Tryd.func36 (by kernel_rfl) rfl #[.int .i64 f, .agg #[.int .u64 a0, .int .u64 a1], .agg #[.int .u64 b0, .int .u64 b1]] (by rfl) rfl rfl (by (try simp only [List.map_toArray, List.map_cons, List.map_nil]); first | done | rfl | (go_simp; done)) ?_
            with_reducible refine (sponge_Node.calls 200 f a0 a1 b0 b1 n0 n1 _ (GL.below HRG.out (below_step BH.out HBN.out)) A1.out).mono ?_
            rintro e w8 ⟨rfl, hb⟩
            refine ⟨_, rfl, ?_⟩
            replace HN := Aside0.mk (Kd.R_below HN.out hb)
            replace HBN := Aside0.mk (below_step HBN.out hb)
            refine hK.out _ _ ⟨pw_cell_below hb hHeld.1, pw_cell_below hb hHeld.2.1, pw_cell_below hb hHeld.2.2.1, pw_cell_below hb hHeld.2.2.2.1, pw_cell_below hb hHeld.2.2.2.2⟩ (fun hHeld => ?_)
            clear hK K hb
            refine norm_ (a' := ?_) ?_ ?_
            rotate_left
            · show Act.put _ (some 42) _ = _
              simp only [Act.put, List.setIfInBounds_toArray, List.set_cons_zero, List.set_cons_succ, i64_w, i32_w]
              rfl
            refine pure_ (i := 15) (N := some 43) (v := ?_) (a' := ?_) #[true, true, true, true, true, true, true, true, true, true, true, true, true, true, true, true, false] rfl rfl (by kernel_rfl) (fun _ _ _ h => h) (Or.inl ⟨by rfl, ?_⟩) ?_ ?_
            rotate_left
            · intro w'
              go_simp
              with_reducible rfl
            rotate_left
            · simp only [Act.put, List.setIfInBounds_toArray, List.set_cons_zero, List.set_cons_succ, i64_w, i32_w]
              rfl
            obtain ⟨ce, hcl, hMe, hcc, hfr⟩ := Kd.R_elem HN.out z36 (i : Int) (by omega) (by omega)
            obtain rfl := k36_openM hMe
            have HP := Kd.R_seg HN.out (i : Int) (by omega) (by omega) (seg := [.int .u64 n0, .int .u64 n1]) (j := 0) hcl hcc (show 2 ≤ 2 from by decide) (x' := (⟨n0, n1⟩ : S36)) (k36_mkM _ _ _ (⟨n0, n1⟩ : S36)) (fun _ hk => hk)
            have hz0 := hcc 0 _ rfl
            have hz1 := hcc 1 _ rfl
            have hf0 := hfr 0
            have hf1 := hfr 1
            simp only [show (k36).sz = 2 from rfl, Nat.mul_one, Nat.add_zero, Int.toNat_natCast] at hz0 hz1 hf0 hf1 HP
            refine one_ (i := 16) (N := none) #[true, true, true, true, true, true, true, true, true, true, true, true, true, true, true, true, true] rfl rfl (by kernel_rfl) (by decide) (fun K hK => ?_)
            have ep := add_plain g6 (i * 2)
            refine skip_ (w1 := ?_) (by rfl) rfl ?_ ?_
            rotate_left
            · go_simp
              rfl
            have HP2 := Aside0.mk (show Kd.R k36 36 ((w8.setCell ⟨g6, i * 2, none⟩ (.int .u64 n0)).setCell ⟨g6, i * 2 + 1, none⟩ (.int .u64 n1)) W3.heap.size (fun _ => True) (.slice (some ⟨g6, 0, none⟩) m c6) ((dn ++ [(⟨n0, n1⟩ : S36)]) ++ List.replicate (m - (i + 1)) z36) from by have hs_ := set_mid dn m ⟨n0, n1⟩ (by have := hdl.out; omega); rw [hdl.out] at hs_; have e_ := HP.1; rw [hs_] at e_; exact e_)
            have HB2 := Aside0.mk (show Below W3.heap.size W3 ((w8.setCell ⟨g6, i * 2, none⟩ (.int .u64 n0)).setCell ⟨g6, i * 2 + 1, none⟩ (.int .u64 n1)) from below_set (below_set HBN.out HG6.out) HG6.out)
            have hne : ∀ {b : Nat}, b < W3.heap.size → b ≠ g6 := fun h_ => by have := HG6.out; omega
            have hl := HL.out
            refine hK.out _ _ ⟨(cell_far (p := ⟨g6, _, none⟩) (hne hl.2.2.2.2) _).trans ((cell_far (p := ⟨g6, _, none⟩) (hne hl.2.2.2.2) _).trans hHeld.1), (cell_far (p := ⟨g6, _, none⟩) (hne hl.1) _).trans ((cell_far (p := ⟨g6, _, none⟩) (hne hl.1) _).trans hHeld.2.1), (cell_far (p := ⟨g6, _, none⟩) (hne hl.2.1) _).trans ((cell_far (p := ⟨g6, _, none⟩) (hne hl.2.1) _).trans hHeld.2.2.1), (cell_far (p := ⟨g6, _, none⟩) (hne hl.2.2.1) _).trans ((cell_far (p := ⟨g6, _, none⟩) (hne hl.2.2.1) _).trans hHeld.2.2.2.1), (cell_far (p := ⟨g6, _, none⟩) (hne hl.2.2.2.1) _).trans ((cell_far (p := ⟨g6, _, none⟩) (hne hl.2.2.2.1) _).trans hHeld.2.2.2.2)⟩ (fun hHeld => ?_)
            clear hK hHeld hz0 hz1 hf0 hf1 hcc hfr hcl hMe HP
            refine done_ (by kernel_rfl) ?_
            try go_wp2
            go_roundg k2
            case measure => omega
            case rel => exact ⟨i + 1, dn ++ [(⟨n0, n1⟩ : S36)], r2, by first | rw [hadd] | rfl, ⟨by have := HK.out; omega⟩, HD2, HP2, HB2⟩
          · have hi0 : decide (i < m) = false := decide_eq_false hi
            obtain ⟨hd0, hd1, hd2⟩ := HD.out
            have hmd : m ≤ dn.length := by rw [hd0]; omega
            have hlu := congrArg List.length hd1
            rw [List.length_append, HUM.out] at hlu
            obtain rfl : r_ = [] := List.eq_nil_of_length_eq_zero (by omega)
            rw [List.append_nil] at hd1
            subst hd1
            have HN2 := Aside0.mk (show RowD u (.slice A6 m c6) W3.heap.size wr from (by have e_ := HN.out; rw [show m - i = 0 by omega, List.replicate_zero, List.append_nil] at e_; exact e_))
            have HNs2 := Aside0.mk (⟨HBN.out.size, Nat.le_trans (Nat.le_trans HNs.out.2.1 HNs.out.1) HW3.out, BH.out.size⟩ : W3.heap.size ≤ wr.heap.size ∧ w.heap.size ≤ W3.heap.size ∧ wb.heap.size ≤ W3.heap.size)
            clear hd0 hd2 hmd hlu hi HN
            go_wp2
            go_roundg k1
            case measure => omega
            case rel => exact ⟨pre ++ [lev], u, r, W3.heap.size, H', ⟨by rw [HX.out]; simp⟩, ⟨by have := HMB.out; have := HUM.out; omega⟩, HN2, ⟨blk_below BK_f.out HBN.out⟩, ⟨blk_below BK_t.out HBN.out⟩, ⟨below_step BH.out HBN.out⟩, ⟨HJ.out _ _ _ _ HJ3.out HBN.out⟩, HNs2⟩
      · have H := HH.out
        clear HH
        rw [if_neg ht] at H
        obtain rfl := Option.some.inj H
        have ht0 : decide (top < (lev.length : Int)) = false := decide_eq_false ht
        clear ht H
        refine (wpIn_wide (n := 6)).1 ?_
        gi_wp2
        refine HRn.out.mono ?_
        rintro e W3 ⟨rfl, hJ3, hk3⟩
        have BK_t := Aside0.mk (hk3.2 _ _ _ _ B_t.out (by decide) (by decide))
        have HJ3 := Aside0.mk hJ3
        clear B_f B_t HB HO hJ3 hk3 hy HRn HJp
        have c_t : W3.cell? ⟨gt, 0, none⟩ = some (.int .i64 top) := (blk_cell BK_t.out 0).trans rfl
        gi_wp2
        go_wp2
        go_end0
        exact ⟨⟨_, rfl⟩, _, by rw [HX.out]; exact HJ3.out⟩
end Go.Proofs.YtpnpmeogffodgaaDoor.Q
end
section
namespace Go.Proofs.YtpnpmeogffodgaaDoor.Q
open Go.RowKit Go.Proofs.YtpnpmeogffodgaaDoorW.PrintWords Go.Proofs.YtpnpmeogffodgaaDoorW.PrintLast Go.Proofs.YtpnpmeogffodgaaDoorW.PrintMore
set_option linter.unusedVariables false
set_option linter.unusedSimpArgs false
set_option maxHeartbeats 2000000 in
theorem rising_calls (f top : Int) (A : Option Addr) (c : Nat) (l : List S36) (w : World) : Calls Tryd.prog 40 #[.int .i64 f, .slice A l.length c, .int .i64 top] w fun e w' => ∃ gf gl gt : Nat, e = .returned (.func (.func 61) #[] #[.pointer (some ⟨gl, 0, none⟩), .pointer (some ⟨gt, 0, none⟩), .pointer (some ⟨gf, 0, none⟩)]) ∧ w.heap.size ≤ gf ∧ w.heap.size ≤ gl ∧ w.heap.size ≤ gt ∧ gf ≠ gt
    ∧ w'.heap[gf]? = some (.cells #[.int .i64 f] 3 (0, 0)) ∧ w'.heap[gl]? = some (.cells #[.slice A l.length c] 22 (0, 0)) ∧ w'.heap[gt]? = some (.cells #[.int .i64 top] 3 (0, 0)) ∧ Below w.heap.size w w' := by
  have hmf : ∀ (fn : Fn) (first cap : Array Value) (w : World), (Instr.makeFunc fn first cap).run Tryd.prog w = .ok (.func fn first cap) w := fun _ _ _ _ => rfl
  obtain ⟨w0, hw0⟩ : ∃ w0, w0 = w := ⟨_, rfl⟩
  generalize hSS : (fun _ : Nat => False) = S
  have HS : Aside0 (Stp w0 w S w) := ⟨by rw [hw0]; exact Below.refl _ _, Kept.refl _ _⟩
  have HW := Aside0.mk hw0
  clear hSS hw0
  go_enter Tryd.func40, Tryd.ntmps40
  go_wp2_with (first
    | ((with_reducible refine gate_dst (N := 3) rfl ?_); refine box_event ?hg (N := 3) ?hd (cs := #[.int .i64 f]) (t := 3) ?hr ?_; (case hd => rfl); (case hg => rfl); (case hr => first | (go_simp; done) | (go_simp; rfl)); intro gf xg w1 y_ hb; skip; have G_gf := Aside0.mk (stp_new HS.out xg); replace HS := Aside0.mk (show Stp w0 w S w1 from stp_below HS.out hb); have B_gf := Aside0.mk y_; clear xg y_ hb; have c_gf_0 : w1.cell? ⟨gf, 0, none⟩ = some (.int .i64 f) := (blk_cell B_gf.out 0).trans rfl; have f_gf_0 := blk_frozen B_gf.out 0)
    | ((with_reducible refine gate_dst (N := 4) rfl ?_); refine box_event ?hg (N := 4) ?hd (cs := #[.slice A l.length c]) (t := 22) ?hr ?_; (case hd => rfl); (case hg => rfl); (case hr => first | (go_simp; done) | (go_simp; rfl)); intro gl xg w2 y_ hb; clear c_gf_0 f_gf_0; have N_gf_gl := Aside0.mk (new_ne B_gf.out xg); have N_gl_gf := Aside0.mk N_gf_gl.out.symm; have G_gl := Aside0.mk (stp_new HS.out xg); replace B_gf := Aside0.mk (show w2.heap[gf]? = some (.cells #[.int .i64 f] 3 (0, 0)) from blk_below B_gf.out hb); replace HS := Aside0.mk (show Stp w0 w S w2 from stp_below HS.out hb); have B_gl := Aside0.mk y_; clear xg y_ hb; have c_gf_0 : w2.cell? ⟨gf, 0, none⟩ = some (.int .i64 f) := (blk_cell B_gf.out 0).trans rfl; have f_gf_0 := blk_frozen B_gf.out 0; have c_gl_0 : w2.cell? ⟨gl, 0, none⟩ = some (.slice A l.length c) := (blk_cell B_gl.out 0).trans rfl; have f_gl_0 := blk_frozen B_gl.out 0)
    | ((with_reducible refine gate_dst (N := 5) rfl ?_); refine box_event ?hg (N := 5) ?hd (cs := #[.int .i64 top]) (t := 3) ?hr ?_; (case hd => rfl); (case hg => rfl); (case hr => first | (go_simp; done) | (go_simp; rfl)); intro gt xg w3 y_ hb; clear c_gf_0 f_gf_0 c_gl_0 f_gl_0; have N_gf_gt := Aside0.mk (new_ne B_gf.out xg); have N_gt_gf := Aside0.mk N_gf_gt.out.symm; have N_gl_gt := Aside0.mk (new_ne B_gl.out xg); have N_gt_gl := Aside0.mk N_gl_gt.out.symm; have G_gt := Aside0.mk (stp_new HS.out xg); replace B_gf := Aside0.mk (show w3.heap[gf]? = some (.cells #[.int .i64 f] 3 (0, 0)) from blk_below B_gf.out hb); replace B_gl := Aside0.mk (show w3.heap[gl]? = some (.cells #[.slice A l.length c] 22 (0, 0)) from blk_below B_gl.out hb); replace HS := Aside0.mk (show Stp w0 w S w3 from stp_below HS.out hb); have B_gt := Aside0.mk y_; clear xg y_ hb; have c_gf_0 : w3.cell? ⟨gf, 0, none⟩ = some (.int .i64 f) := (blk_cell B_gf.out 0).trans rfl; have f_gf_0 := blk_frozen B_gf.out 0; have c_gl_0 : w3.cell? ⟨gl, 0, none⟩ = some (.slice A l.length c) := (blk_cell B_gl.out 0).trans rfl; have f_gl_0 := blk_frozen B_gl.out 0; have c_gt_0 : w3.cell? ⟨gt, 0, none⟩ = some (.int .i64 top) := (blk_cell B_gt.out 0).trans rfl; have f_gt_0 := blk_frozen B_gt.out 0))
  obtain rfl := HW.out
  go_ret
  exact ⟨gf, gl, gt, rfl, G_gf.out.1, G_gl.out.1, G_gt.out.1, N_gf_gt.out, B_gf.out, B_gl.out, B_gt.out, stp_b HS.out⟩
def tree_Build.f (k : Nat) (a0 : Int) (l1 : List S36) (a2 : Int) : Option (Int × Int × Int × List (List S36) × Int) :=
  (tree_height.f (l1.length : Int)).bind fun h => (field_Valid.f a0).bind fun v => if v = true then (if h < 0 then some (0, 0, 0, [], 1) else if a2 < 0 then some (0, 0, 0, [], 1) else if h < a2 then some (0, 0, 0, [], 1) else (tree_proper.f a0 l1).bind fun p => if p = true then (riseL a0 (shl .i64 1 a2) k l1).bind fun ls => some (a0, h, a2, ls, 0) else some (0, 0, 0, [], 2)) else some (0, 0, 0, [], 1)
theorem riseL.mono (f top : Int) : ∀ k l, LeO (riseL f top k l) (riseL f top (k + 1) l)
  | 0, l => fun r h => by simp [riseL] at h
  | k + 1, l => by
    unfold riseL
    refine LeO.ite ?_ (LeO.refl _)
    refine LeO.bind (LeO.refl _) (fun u => LeO.bind (riseL.mono f top k u) (fun _ => LeO.refl _))
theorem tree_Build.mono : ∀ a0 l1 a2 k, LeO (tree_Build.f k a0 l1 a2) (tree_Build.f (k + 1) a0 l1 a2) := by
  intro a0 l1 a2 k
  unfold tree_Build.f
  repeat' first
  | (with_reducible exact riseL.mono _ _ _ _)
  | (with_reducible exact LeO.refl _)
  | (with_reducible refine LeO.ite ?_ ?_)
  | (with_reducible refine LeO.bind ?_ (fun _ => ?_))
theorem valid_calls (f : Int) (v : Bool) (w : World) (h : field_Valid.f f = some v) : Calls Tryd.prog 38 #[.int .i64 f] w fun e w' => e = .returned (.bool v) ∧ Below w.heap.size w w' := by
  refine (field_Valid.calls f v w h).mono ?_
  rintro e w' ⟨rfl, ⟨n, rfl⟩⟩
  exact ⟨rfl, pw_below_drewN (Below.refl _ _) n⟩
set_option maxHeartbeats 4000000 in
set_option maxRecDepth 100000 in
theorem build_v (a0 a2 h : Int) (A1 : Option Addr) (c1 : Nat) (l1 : List S36) (w : World) (hr1 : Kd.C k36 w A1 l1.length l1) (hc1 : l1.length ≤ c1) (hrG : GL w) (hh : tree_height.f (l1.length : Int) = some h) (hv : field_Valid.f a0 = some false) : Calls Tryd.prog 13 #[.int .i64 a0, .slice A1 l1.length c1, .int .i64 a2] w fun e w' => e = .returned (.tuple #[.agg #[.int .i64 0, .int .i64 0, .int .i64 0, .slice none 0 0], .int .i64 1]) ∧ Below w.heap.size w w' := by
  have AV := Aside0.mk hv
  clear hv
  have hu26 := Tryd.underlying26
  have HR1 := Aside0.mk hr1
  have HC1 := Aside0.mk hc1
  have HRG := Aside0.mk hrG
  have AH := Aside0.mk hh
  clear hr1 hc1 hrG hh
  obtain ⟨w0, hw0⟩ : ∃ w0, w0 = w := ⟨_, rfl⟩
  generalize hSS : (fun _ : Nat => False) = S
  have HS : Aside0 (Stp w0 w S w) := ⟨by rw [hw0]; exact Below.refl _ _, Kept.refl _ _⟩
  have HW := Aside0.mk hw0
  clear hSS hw0
  go_enter Tryd.func13, Tryd.ntmps13
  go_wp2_with (first
    | ((with_reducible refine gate_dst (N := 6) rfl ?_); refine box_event ?hg (N := 6) ?hd (cs := #[.int .i64 0, .int .i64 0, .int .i64 0, .slice none 0 0]) (t := 26) ?hr ?_; (case hd => rfl); (case hg => rfl); (case hr => first | (go_simp; done) | (go_simp; rfl)); intro g6 xg w1 y_ hb; skip; have G_g6 := Aside0.mk (stp_new HS.out xg); replace HS := Aside0.mk (show Stp w0 w S w1 from stp_below HS.out hb); have B_g6 := Aside0.mk y_; clear xg y_ hb; have c_g6_0 : w1.cell? ⟨g6, 0, none⟩ = some (.int .i64 0) := (blk_cell B_g6.out 0).trans rfl; have f_g6_0 := blk_frozen B_g6.out 0; have c_g6_1 : w1.cell? ⟨g6, 1, none⟩ = some (.int .i64 0) := (blk_cell B_g6.out 1).trans rfl; have f_g6_1 := blk_frozen B_g6.out 1; have c_g6_2 : w1.cell? ⟨g6, 2, none⟩ = some (.int .i64 0) := (blk_cell B_g6.out 2).trans rfl; have f_g6_2 := blk_frozen B_g6.out 2; have c_g6_3 : w1.cell? ⟨g6, 3, none⟩ = some (.slice none 0 0) := (blk_cell B_g6.out 3).trans rfl; have f_g6_3 := blk_frozen B_g6.out 3)
    | (go_at_call 37; (with_reducible refine (tree_height.calls _ h _ (GL.below (HW.out ▸ HRG.out) (stp_b HS.out)) AH.out).mono ?_); rintro e w2 ⟨rfl, hb⟩; clear c_g6_0 f_g6_0 c_g6_1 f_g6_1 c_g6_2 f_g6_2 c_g6_3 f_g6_3; replace B_g6 := Aside0.mk (show w2.heap[g6]? = some (.cells #[.int .i64 0, .int .i64 0, .int .i64 0, .slice none 0 0] 26 (0, 0)) from blk_below B_g6.out hb); replace HS := Aside0.mk (show Stp w0 w S w2 from stp_below HS.out hb); clear hb; have c_g6_0 : w2.cell? ⟨g6, 0, none⟩ = some (.int .i64 0) := (blk_cell B_g6.out 0).trans rfl; have f_g6_0 := blk_frozen B_g6.out 0; have c_g6_1 : w2.cell? ⟨g6, 1, none⟩ = some (.int .i64 0) := (blk_cell B_g6.out 1).trans rfl; have f_g6_1 := blk_frozen B_g6.out 1; have c_g6_2 : w2.cell? ⟨g6, 2, none⟩ = some (.int .i64 0) := (blk_cell B_g6.out 2).trans rfl; have f_g6_2 := blk_frozen B_g6.out 2; have c_g6_3 : w2.cell? ⟨g6, 3, none⟩ = some (.slice none 0 0) := (blk_cell B_g6.out 3).trans rfl; have f_g6_3 := blk_frozen B_g6.out 3)
    | (go_at_call 38; (with_reducible refine (valid_calls a0 _ _ AV.out).mono ?_); rintro e w3 ⟨rfl, hb⟩; clear c_g6_0 f_g6_0 c_g6_1 f_g6_1 c_g6_2 f_g6_2 c_g6_3 f_g6_3; replace B_g6 := Aside0.mk (show w3.heap[g6]? = some (.cells #[.int .i64 0, .int .i64 0, .int .i64 0, .slice none 0 0] 26 (0, 0)) from blk_below B_g6.out hb); replace HS := Aside0.mk (show Stp w0 w S w3 from stp_below HS.out hb); clear hb; have c_g6_0 : w3.cell? ⟨g6, 0, none⟩ = some (.int .i64 0) := (blk_cell B_g6.out 0).trans rfl; have f_g6_0 := blk_frozen B_g6.out 0; have c_g6_1 : w3.cell? ⟨g6, 1, none⟩ = some (.int .i64 0) := (blk_cell B_g6.out 1).trans rfl; have f_g6_1 := blk_frozen B_g6.out 1; have c_g6_2 : w3.cell? ⟨g6, 2, none⟩ = some (.int .i64 0) := (blk_cell B_g6.out 2).trans rfl; have f_g6_2 := blk_frozen B_g6.out 2; have c_g6_3 : w3.cell? ⟨g6, 3, none⟩ = some (.slice none 0 0) := (blk_cell B_g6.out 3).trans rfl; have f_g6_3 := blk_frozen B_g6.out 3)
    | ((with_reducible refine gate_store (t := 26) (p := 6) rfl ?_); refine store_event (t := 26) (p := 6) (v := .tmp 31) (w1 := ((((w3.setCell ⟨g6, 0, none⟩ (.int .i64 0)).setCell ⟨g6, 1, none⟩ (.int .i64 0)).setCell ⟨g6, 2, none⟩ (.int .i64 0)).setCell ⟨g6, 3, none⟩ (.slice none 0 0))) ?hg ?ho ?hn ?hr ?_; (case ho => rfl); (case hg => rfl); (case hn => rfl); (case hr => first | (go_simp; done) | (go_simp; rfl)); intro w9 hw; clear c_g6_0 f_g6_0 c_g6_1 f_g6_1 c_g6_2 f_g6_2 c_g6_3 f_g6_3; replace B_g6 := Aside0.mk (show w9.heap[g6]? = some (.cells #[.int .i64 0, .int .i64 0, .int .i64 0, .slice none 0 0] 26 (0, 0)) from (by rw [hw]; exact (blk_put (cs := #[.int .i64 0, .int .i64 0, .int .i64 0, .slice none 0 0]) (blk_put (cs := #[.int .i64 0, .int .i64 0, .int .i64 0, .slice none 0 0]) (blk_put (cs := #[.int .i64 0, .int .i64 0, .int .i64 0, .slice none 0 0]) (blk_put (cs := #[.int .i64 0, .int .i64 0, .int .i64 0, .slice none 0 0]) B_g6.out 0 (.int .i64 0) rfl) 1 (.int .i64 0) rfl) 2 (.int .i64 0) rfl) 3 (.slice none 0 0) rfl))); replace HS := Aside0.mk (show Stp w0 w S w9 from (by rw [hw]; exact (stp_set (stp_set (stp_set (stp_set HS.out G_g6.out 0 (.int .i64 0)) G_g6.out 1 (.int .i64 0)) G_g6.out 2 (.int .i64 0)) G_g6.out 3 (.slice none 0 0)))); clear hw; have c_g6_0 : w9.cell? ⟨g6, 0, none⟩ = some (.int .i64 0) := (blk_cell B_g6.out 0).trans rfl; have f_g6_0 := blk_frozen B_g6.out 0; have c_g6_1 : w9.cell? ⟨g6, 1, none⟩ = some (.int .i64 0) := (blk_cell B_g6.out 1).trans rfl; have f_g6_1 := blk_frozen B_g6.out 1; have c_g6_2 : w9.cell? ⟨g6, 2, none⟩ = some (.int .i64 0) := (blk_cell B_g6.out 2).trans rfl; have f_g6_2 := blk_frozen B_g6.out 2; have c_g6_3 : w9.cell? ⟨g6, 3, none⟩ = some (.slice none 0 0) := (blk_cell B_g6.out 3).trans rfl; have f_g6_3 := blk_frozen B_g6.out 3))
  refine bodyPost_ret (results_ct rfl _ _ g6 26 #[.int .i64 0, .int .i64 0, .int .i64 0, .slice none 0 0] (0, 0) _ rfl B_g6.out Tryd.underlying26 rfl (by kernel_rfl)) rfl ?_
  obtain rfl := HW.out
  exact ⟨rfl, stp_b HS.out⟩
set_option maxHeartbeats 4000000 in
set_option maxRecDepth 100000 in
theorem build_h (a0 a2 h : Int) (A1 : Option Addr) (c1 : Nat) (l1 : List S36) (w : World) (hr1 : Kd.C k36 w A1 l1.length l1) (hc1 : l1.length ≤ c1) (hrG : GL w) (hh : tree_height.f (l1.length : Int) = some h) (hv : field_Valid.f a0 = some true) (d0 : decide (h < 0) = true) : Calls Tryd.prog 13 #[.int .i64 a0, .slice A1 l1.length c1, .int .i64 a2] w fun e w' => e = .returned (.tuple #[.agg #[.int .i64 0, .int .i64 0, .int .i64 0, .slice none 0 0], .int .i64 1]) ∧ Below w.heap.size w w' := by
  have AV := Aside0.mk hv
  clear hv
  have hu26 := Tryd.underlying26
  have HR1 := Aside0.mk hr1
  have HC1 := Aside0.mk hc1
  have HRG := Aside0.mk hrG
  have AH := Aside0.mk hh
  clear hr1 hc1 hrG hh
  obtain ⟨w0, hw0⟩ : ∃ w0, w0 = w := ⟨_, rfl⟩
  generalize hSS : (fun _ : Nat => False) = S
  have HS : Aside0 (Stp w0 w S w) := ⟨by rw [hw0]; exact Below.refl _ _, Kept.refl _ _⟩
  have HW := Aside0.mk hw0
  clear hSS hw0
  go_enter Tryd.func13, Tryd.ntmps13
  go_wp2_with (first
    | ((with_reducible refine gate_dst (N := 6) rfl ?_); refine box_event ?hg (N := 6) ?hd (cs := #[.int .i64 0, .int .i64 0, .int .i64 0, .slice none 0 0]) (t := 26) ?hr ?_; (case hd => rfl); (case hg => rfl); (case hr => first | (go_simp; done) | (go_simp; rfl)); intro g6 xg w1 y_ hb; skip; have G_g6 := Aside0.mk (stp_new HS.out xg); replace HS := Aside0.mk (show Stp w0 w S w1 from stp_below HS.out hb); have B_g6 := Aside0.mk y_; clear xg y_ hb; have c_g6_0 : w1.cell? ⟨g6, 0, none⟩ = some (.int .i64 0) := (blk_cell B_g6.out 0).trans rfl; have f_g6_0 := blk_frozen B_g6.out 0; have c_g6_1 : w1.cell? ⟨g6, 1, none⟩ = some (.int .i64 0) := (blk_cell B_g6.out 1).trans rfl; have f_g6_1 := blk_frozen B_g6.out 1; have c_g6_2 : w1.cell? ⟨g6, 2, none⟩ = some (.int .i64 0) := (blk_cell B_g6.out 2).trans rfl; have f_g6_2 := blk_frozen B_g6.out 2; have c_g6_3 : w1.cell? ⟨g6, 3, none⟩ = some (.slice none 0 0) := (blk_cell B_g6.out 3).trans rfl; have f_g6_3 := blk_frozen B_g6.out 3)
    | (go_at_call 37; (with_reducible refine (tree_height.calls _ h _ (GL.below (HW.out ▸ HRG.out) (stp_b HS.out)) AH.out).mono ?_); rintro e w2 ⟨rfl, hb⟩; clear c_g6_0 f_g6_0 c_g6_1 f_g6_1 c_g6_2 f_g6_2 c_g6_3 f_g6_3; replace B_g6 := Aside0.mk (show w2.heap[g6]? = some (.cells #[.int .i64 0, .int .i64 0, .int .i64 0, .slice none 0 0] 26 (0, 0)) from blk_below B_g6.out hb); replace HS := Aside0.mk (show Stp w0 w S w2 from stp_below HS.out hb); clear hb; have c_g6_0 : w2.cell? ⟨g6, 0, none⟩ = some (.int .i64 0) := (blk_cell B_g6.out 0).trans rfl; have f_g6_0 := blk_frozen B_g6.out 0; have c_g6_1 : w2.cell? ⟨g6, 1, none⟩ = some (.int .i64 0) := (blk_cell B_g6.out 1).trans rfl; have f_g6_1 := blk_frozen B_g6.out 1; have c_g6_2 : w2.cell? ⟨g6, 2, none⟩ = some (.int .i64 0) := (blk_cell B_g6.out 2).trans rfl; have f_g6_2 := blk_frozen B_g6.out 2; have c_g6_3 : w2.cell? ⟨g6, 3, none⟩ = some (.slice none 0 0) := (blk_cell B_g6.out 3).trans rfl; have f_g6_3 := blk_frozen B_g6.out 3)
    | (go_at_call 38; (with_reducible refine (valid_calls a0 _ _ AV.out).mono ?_); rintro e w3 ⟨rfl, hb⟩; clear c_g6_0 f_g6_0 c_g6_1 f_g6_1 c_g6_2 f_g6_2 c_g6_3 f_g6_3; replace B_g6 := Aside0.mk (show w3.heap[g6]? = some (.cells #[.int .i64 0, .int .i64 0, .int .i64 0, .slice none 0 0] 26 (0, 0)) from blk_below B_g6.out hb); replace HS := Aside0.mk (show Stp w0 w S w3 from stp_below HS.out hb); clear hb; have c_g6_0 : w3.cell? ⟨g6, 0, none⟩ = some (.int .i64 0) := (blk_cell B_g6.out 0).trans rfl; have f_g6_0 := blk_frozen B_g6.out 0; have c_g6_1 : w3.cell? ⟨g6, 1, none⟩ = some (.int .i64 0) := (blk_cell B_g6.out 1).trans rfl; have f_g6_1 := blk_frozen B_g6.out 1; have c_g6_2 : w3.cell? ⟨g6, 2, none⟩ = some (.int .i64 0) := (blk_cell B_g6.out 2).trans rfl; have f_g6_2 := blk_frozen B_g6.out 2; have c_g6_3 : w3.cell? ⟨g6, 3, none⟩ = some (.slice none 0 0) := (blk_cell B_g6.out 3).trans rfl; have f_g6_3 := blk_frozen B_g6.out 3)
    | ((with_reducible refine gate_store (t := 26) (p := 6) rfl ?_); refine store_event (t := 26) (p := 6) (v := .tmp 31) (w1 := ((((w3.setCell ⟨g6, 0, none⟩ (.int .i64 0)).setCell ⟨g6, 1, none⟩ (.int .i64 0)).setCell ⟨g6, 2, none⟩ (.int .i64 0)).setCell ⟨g6, 3, none⟩ (.slice none 0 0))) ?hg ?ho ?hn ?hr ?_; (case ho => rfl); (case hg => rfl); (case hn => rfl); (case hr => first | (go_simp; done) | (go_simp; rfl)); intro w9 hw; clear c_g6_0 f_g6_0 c_g6_1 f_g6_1 c_g6_2 f_g6_2 c_g6_3 f_g6_3; replace B_g6 := Aside0.mk (show w9.heap[g6]? = some (.cells #[.int .i64 0, .int .i64 0, .int .i64 0, .slice none 0 0] 26 (0, 0)) from (by rw [hw]; exact (blk_put (cs := #[.int .i64 0, .int .i64 0, .int .i64 0, .slice none 0 0]) (blk_put (cs := #[.int .i64 0, .int .i64 0, .int .i64 0, .slice none 0 0]) (blk_put (cs := #[.int .i64 0, .int .i64 0, .int .i64 0, .slice none 0 0]) (blk_put (cs := #[.int .i64 0, .int .i64 0, .int .i64 0, .slice none 0 0]) B_g6.out 0 (.int .i64 0) rfl) 1 (.int .i64 0) rfl) 2 (.int .i64 0) rfl) 3 (.slice none 0 0) rfl))); replace HS := Aside0.mk (show Stp w0 w S w9 from (by rw [hw]; exact (stp_set (stp_set (stp_set (stp_set HS.out G_g6.out 0 (.int .i64 0)) G_g6.out 1 (.int .i64 0)) G_g6.out 2 (.int .i64 0)) G_g6.out 3 (.slice none 0 0)))); clear hw; have c_g6_0 : w9.cell? ⟨g6, 0, none⟩ = some (.int .i64 0) := (blk_cell B_g6.out 0).trans rfl; have f_g6_0 := blk_frozen B_g6.out 0; have c_g6_1 : w9.cell? ⟨g6, 1, none⟩ = some (.int .i64 0) := (blk_cell B_g6.out 1).trans rfl; have f_g6_1 := blk_frozen B_g6.out 1; have c_g6_2 : w9.cell? ⟨g6, 2, none⟩ = some (.int .i64 0) := (blk_cell B_g6.out 2).trans rfl; have f_g6_2 := blk_frozen B_g6.out 2; have c_g6_3 : w9.cell? ⟨g6, 3, none⟩ = some (.slice none 0 0) := (blk_cell B_g6.out 3).trans rfl; have f_g6_3 := blk_frozen B_g6.out 3))
  refine bodyPost_ret (results_ct rfl _ _ g6 26 #[.int .i64 0, .int .i64 0, .int .i64 0, .slice none 0 0] (0, 0) _ rfl B_g6.out Tryd.underlying26 rfl (by kernel_rfl)) rfl ?_
  obtain rfl := HW.out
  exact ⟨rfl, stp_b HS.out⟩
set_option maxHeartbeats 4000000 in
set_option maxRecDepth 100000 in
theorem build_c (a0 a2 h : Int) (A1 : Option Addr) (c1 : Nat) (l1 : List S36) (w : World) (hr1 : Kd.C k36 w A1 l1.length l1) (hc1 : l1.length ≤ c1) (hrG : GL w) (hh : tree_height.f (l1.length : Int) = some h) (hv : field_Valid.f a0 = some true) (d0 : decide (h < 0) = false) (d1 : decide (a2 < 0) = true) : Calls Tryd.prog 13 #[.int .i64 a0, .slice A1 l1.length c1, .int .i64 a2] w fun e w' => e = .returned (.tuple #[.agg #[.int .i64 0, .int .i64 0, .int .i64 0, .slice none 0 0], .int .i64 1]) ∧ Below w.heap.size w w' := by
  have AV := Aside0.mk hv
  clear hv
  have hu26 := Tryd.underlying26
  have HR1 := Aside0.mk hr1
  have HC1 := Aside0.mk hc1
  have HRG := Aside0.mk hrG
  have AH := Aside0.mk hh
  clear hr1 hc1 hrG hh
  obtain ⟨w0, hw0⟩ : ∃ w0, w0 = w := ⟨_, rfl⟩
  generalize hSS : (fun _ : Nat => False) = S
  have HS : Aside0 (Stp w0 w S w) := ⟨by rw [hw0]; exact Below.refl _ _, Kept.refl _ _⟩
  have HW := Aside0.mk hw0
  clear hSS hw0
  go_enter Tryd.func13, Tryd.ntmps13
  go_wp2_with (first
    | ((with_reducible refine gate_dst (N := 6) rfl ?_); refine box_event ?hg (N := 6) ?hd (cs := #[.int .i64 0, .int .i64 0, .int .i64 0, .slice none 0 0]) (t := 26) ?hr ?_; (case hd => rfl); (case hg => rfl); (case hr => first | (go_simp; done) | (go_simp; rfl)); intro g6 xg w1 y_ hb; skip; have G_g6 := Aside0.mk (stp_new HS.out xg); replace HS := Aside0.mk (show Stp w0 w S w1 from stp_below HS.out hb); have B_g6 := Aside0.mk y_; clear xg y_ hb; have c_g6_0 : w1.cell? ⟨g6, 0, none⟩ = some (.int .i64 0) := (blk_cell B_g6.out 0).trans rfl; have f_g6_0 := blk_frozen B_g6.out 0; have c_g6_1 : w1.cell? ⟨g6, 1, none⟩ = some (.int .i64 0) := (blk_cell B_g6.out 1).trans rfl; have f_g6_1 := blk_frozen B_g6.out 1; have c_g6_2 : w1.cell? ⟨g6, 2, none⟩ = some (.int .i64 0) := (blk_cell B_g6.out 2).trans rfl; have f_g6_2 := blk_frozen B_g6.out 2; have c_g6_3 : w1.cell? ⟨g6, 3, none⟩ = some (.slice none 0 0) := (blk_cell B_g6.out 3).trans rfl; have f_g6_3 := blk_frozen B_g6.out 3)
    | (go_at_call 37; (with_reducible refine (tree_height.calls _ h _ (GL.below (HW.out ▸ HRG.out) (stp_b HS.out)) AH.out).mono ?_); rintro e w2 ⟨rfl, hb⟩; clear c_g6_0 f_g6_0 c_g6_1 f_g6_1 c_g6_2 f_g6_2 c_g6_3 f_g6_3; replace B_g6 := Aside0.mk (show w2.heap[g6]? = some (.cells #[.int .i64 0, .int .i64 0, .int .i64 0, .slice none 0 0] 26 (0, 0)) from blk_below B_g6.out hb); replace HS := Aside0.mk (show Stp w0 w S w2 from stp_below HS.out hb); clear hb; have c_g6_0 : w2.cell? ⟨g6, 0, none⟩ = some (.int .i64 0) := (blk_cell B_g6.out 0).trans rfl; have f_g6_0 := blk_frozen B_g6.out 0; have c_g6_1 : w2.cell? ⟨g6, 1, none⟩ = some (.int .i64 0) := (blk_cell B_g6.out 1).trans rfl; have f_g6_1 := blk_frozen B_g6.out 1; have c_g6_2 : w2.cell? ⟨g6, 2, none⟩ = some (.int .i64 0) := (blk_cell B_g6.out 2).trans rfl; have f_g6_2 := blk_frozen B_g6.out 2; have c_g6_3 : w2.cell? ⟨g6, 3, none⟩ = some (.slice none 0 0) := (blk_cell B_g6.out 3).trans rfl; have f_g6_3 := blk_frozen B_g6.out 3)
    | (go_at_call 38; (with_reducible refine (valid_calls a0 _ _ AV.out).mono ?_); rintro e w3 ⟨rfl, hb⟩; clear c_g6_0 f_g6_0 c_g6_1 f_g6_1 c_g6_2 f_g6_2 c_g6_3 f_g6_3; replace B_g6 := Aside0.mk (show w3.heap[g6]? = some (.cells #[.int .i64 0, .int .i64 0, .int .i64 0, .slice none 0 0] 26 (0, 0)) from blk_below B_g6.out hb); replace HS := Aside0.mk (show Stp w0 w S w3 from stp_below HS.out hb); clear hb; have c_g6_0 : w3.cell? ⟨g6, 0, none⟩ = some (.int .i64 0) := (blk_cell B_g6.out 0).trans rfl; have f_g6_0 := blk_frozen B_g6.out 0; have c_g6_1 : w3.cell? ⟨g6, 1, none⟩ = some (.int .i64 0) := (blk_cell B_g6.out 1).trans rfl; have f_g6_1 := blk_frozen B_g6.out 1; have c_g6_2 : w3.cell? ⟨g6, 2, none⟩ = some (.int .i64 0) := (blk_cell B_g6.out 2).trans rfl; have f_g6_2 := blk_frozen B_g6.out 2; have c_g6_3 : w3.cell? ⟨g6, 3, none⟩ = some (.slice none 0 0) := (blk_cell B_g6.out 3).trans rfl; have f_g6_3 := blk_frozen B_g6.out 3)
    | ((with_reducible refine gate_store (t := 26) (p := 6) rfl ?_); refine store_event (t := 26) (p := 6) (v := .tmp 31) (w1 := ((((w3.setCell ⟨g6, 0, none⟩ (.int .i64 0)).setCell ⟨g6, 1, none⟩ (.int .i64 0)).setCell ⟨g6, 2, none⟩ (.int .i64 0)).setCell ⟨g6, 3, none⟩ (.slice none 0 0))) ?hg ?ho ?hn ?hr ?_; (case ho => rfl); (case hg => rfl); (case hn => rfl); (case hr => first | (go_simp; done) | (go_simp; rfl)); intro w9 hw; clear c_g6_0 f_g6_0 c_g6_1 f_g6_1 c_g6_2 f_g6_2 c_g6_3 f_g6_3; replace B_g6 := Aside0.mk (show w9.heap[g6]? = some (.cells #[.int .i64 0, .int .i64 0, .int .i64 0, .slice none 0 0] 26 (0, 0)) from (by rw [hw]; exact (blk_put (cs := #[.int .i64 0, .int .i64 0, .int .i64 0, .slice none 0 0]) (blk_put (cs := #[.int .i64 0, .int .i64 0, .int .i64 0, .slice none 0 0]) (blk_put (cs := #[.int .i64 0, .int .i64 0, .int .i64 0, .slice none 0 0]) (blk_put (cs := #[.int .i64 0, .int .i64 0, .int .i64 0, .slice none 0 0]) B_g6.out 0 (.int .i64 0) rfl) 1 (.int .i64 0) rfl) 2 (.int .i64 0) rfl) 3 (.slice none 0 0) rfl))); replace HS := Aside0.mk (show Stp w0 w S w9 from (by rw [hw]; exact (stp_set (stp_set (stp_set (stp_set HS.out G_g6.out 0 (.int .i64 0)) G_g6.out 1 (.int .i64 0)) G_g6.out 2 (.int .i64 0)) G_g6.out 3 (.slice none 0 0)))); clear hw; have c_g6_0 : w9.cell? ⟨g6, 0, none⟩ = some (.int .i64 0) := (blk_cell B_g6.out 0).trans rfl; have f_g6_0 := blk_frozen B_g6.out 0; have c_g6_1 : w9.cell? ⟨g6, 1, none⟩ = some (.int .i64 0) := (blk_cell B_g6.out 1).trans rfl; have f_g6_1 := blk_frozen B_g6.out 1; have c_g6_2 : w9.cell? ⟨g6, 2, none⟩ = some (.int .i64 0) := (blk_cell B_g6.out 2).trans rfl; have f_g6_2 := blk_frozen B_g6.out 2; have c_g6_3 : w9.cell? ⟨g6, 3, none⟩ = some (.slice none 0 0) := (blk_cell B_g6.out 3).trans rfl; have f_g6_3 := blk_frozen B_g6.out 3))
  refine bodyPost_ret (results_ct rfl _ _ g6 26 #[.int .i64 0, .int .i64 0, .int .i64 0, .slice none 0 0] (0, 0) _ rfl B_g6.out Tryd.underlying26 rfl (by kernel_rfl)) rfl ?_
  obtain rfl := HW.out
  exact ⟨rfl, stp_b HS.out⟩
set_option maxHeartbeats 4000000 in
set_option maxRecDepth 100000 in
theorem build_k (a0 a2 h : Int) (A1 : Option Addr) (c1 : Nat) (l1 : List S36) (w : World) (hr1 : Kd.C k36 w A1 l1.length l1) (hc1 : l1.length ≤ c1) (hrG : GL w) (hh : tree_height.f (l1.length : Int) = some h) (hv : field_Valid.f a0 = some true) (d0 : decide (h < 0) = false) (d1 : decide (a2 < 0) = false) (d2 : decide (h < a2) = true) : Calls Tryd.prog 13 #[.int .i64 a0, .slice A1 l1.length c1, .int .i64 a2] w fun e w' => e = .returned (.tuple #[.agg #[.int .i64 0, .int .i64 0, .int .i64 0, .slice none 0 0], .int .i64 1]) ∧ Below w.heap.size w w' := by
  have AV := Aside0.mk hv
  clear hv
  have hu26 := Tryd.underlying26
  have HR1 := Aside0.mk hr1
  have HC1 := Aside0.mk hc1
  have HRG := Aside0.mk hrG
  have AH := Aside0.mk hh
  clear hr1 hc1 hrG hh
  obtain ⟨w0, hw0⟩ : ∃ w0, w0 = w := ⟨_, rfl⟩
  generalize hSS : (fun _ : Nat => False) = S
  have HS : Aside0 (Stp w0 w S w) := ⟨by rw [hw0]; exact Below.refl _ _, Kept.refl _ _⟩
  have HW := Aside0.mk hw0
  clear hSS hw0
  go_enter Tryd.func13, Tryd.ntmps13
  go_wp2_with (first
    | ((with_reducible refine gate_dst (N := 6) rfl ?_); refine box_event ?hg (N := 6) ?hd (cs := #[.int .i64 0, .int .i64 0, .int .i64 0, .slice none 0 0]) (t := 26) ?hr ?_; (case hd => rfl); (case hg => rfl); (case hr => first | (go_simp; done) | (go_simp; rfl)); intro g6 xg w1 y_ hb; skip; have G_g6 := Aside0.mk (stp_new HS.out xg); replace HS := Aside0.mk (show Stp w0 w S w1 from stp_below HS.out hb); have B_g6 := Aside0.mk y_; clear xg y_ hb; have c_g6_0 : w1.cell? ⟨g6, 0, none⟩ = some (.int .i64 0) := (blk_cell B_g6.out 0).trans rfl; have f_g6_0 := blk_frozen B_g6.out 0; have c_g6_1 : w1.cell? ⟨g6, 1, none⟩ = some (.int .i64 0) := (blk_cell B_g6.out 1).trans rfl; have f_g6_1 := blk_frozen B_g6.out 1; have c_g6_2 : w1.cell? ⟨g6, 2, none⟩ = some (.int .i64 0) := (blk_cell B_g6.out 2).trans rfl; have f_g6_2 := blk_frozen B_g6.out 2; have c_g6_3 : w1.cell? ⟨g6, 3, none⟩ = some (.slice none 0 0) := (blk_cell B_g6.out 3).trans rfl; have f_g6_3 := blk_frozen B_g6.out 3)
    | (go_at_call 37; (with_reducible refine (tree_height.calls _ h _ (GL.below (HW.out ▸ HRG.out) (stp_b HS.out)) AH.out).mono ?_); rintro e w2 ⟨rfl, hb⟩; clear c_g6_0 f_g6_0 c_g6_1 f_g6_1 c_g6_2 f_g6_2 c_g6_3 f_g6_3; replace B_g6 := Aside0.mk (show w2.heap[g6]? = some (.cells #[.int .i64 0, .int .i64 0, .int .i64 0, .slice none 0 0] 26 (0, 0)) from blk_below B_g6.out hb); replace HS := Aside0.mk (show Stp w0 w S w2 from stp_below HS.out hb); clear hb; have c_g6_0 : w2.cell? ⟨g6, 0, none⟩ = some (.int .i64 0) := (blk_cell B_g6.out 0).trans rfl; have f_g6_0 := blk_frozen B_g6.out 0; have c_g6_1 : w2.cell? ⟨g6, 1, none⟩ = some (.int .i64 0) := (blk_cell B_g6.out 1).trans rfl; have f_g6_1 := blk_frozen B_g6.out 1; have c_g6_2 : w2.cell? ⟨g6, 2, none⟩ = some (.int .i64 0) := (blk_cell B_g6.out 2).trans rfl; have f_g6_2 := blk_frozen B_g6.out 2; have c_g6_3 : w2.cell? ⟨g6, 3, none⟩ = some (.slice none 0 0) := (blk_cell B_g6.out 3).trans rfl; have f_g6_3 := blk_frozen B_g6.out 3)
    | (go_at_call 38; (with_reducible refine (valid_calls a0 _ _ AV.out).mono ?_); rintro e w3 ⟨rfl, hb⟩; clear c_g6_0 f_g6_0 c_g6_1 f_g6_1 c_g6_2 f_g6_2 c_g6_3 f_g6_3; replace B_g6 := Aside0.mk (show w3.heap[g6]? = some (.cells #[.int .i64 0, .int .i64 0, .int .i64 0, .slice none 0 0] 26 (0, 0)) from blk_below B_g6.out hb); replace HS := Aside0.mk (show Stp w0 w S w3 from stp_below HS.out hb); clear hb; have c_g6_0 : w3.cell? ⟨g6, 0, none⟩ = some (.int .i64 0) := (blk_cell B_g6.out 0).trans rfl; have f_g6_0 := blk_frozen B_g6.out 0; have c_g6_1 : w3.cell? ⟨g6, 1, none⟩ = some (.int .i64 0) := (blk_cell B_g6.out 1).trans rfl; have f_g6_1 := blk_frozen B_g6.out 1; have c_g6_2 : w3.cell? ⟨g6, 2, none⟩ = some (.int .i64 0) := (blk_cell B_g6.out 2).trans rfl; have f_g6_2 := blk_frozen B_g6.out 2; have c_g6_3 : w3.cell? ⟨g6, 3, none⟩ = some (.slice none 0 0) := (blk_cell B_g6.out 3).trans rfl; have f_g6_3 := blk_frozen B_g6.out 3)
    | ((with_reducible refine gate_store (t := 26) (p := 6) rfl ?_); refine store_event (t := 26) (p := 6) (v := .tmp 31) (w1 := ((((w3.setCell ⟨g6, 0, none⟩ (.int .i64 0)).setCell ⟨g6, 1, none⟩ (.int .i64 0)).setCell ⟨g6, 2, none⟩ (.int .i64 0)).setCell ⟨g6, 3, none⟩ (.slice none 0 0))) ?hg ?ho ?hn ?hr ?_; (case ho => rfl); (case hg => rfl); (case hn => rfl); (case hr => first | (go_simp; done) | (go_simp; rfl)); intro w9 hw; clear c_g6_0 f_g6_0 c_g6_1 f_g6_1 c_g6_2 f_g6_2 c_g6_3 f_g6_3; replace B_g6 := Aside0.mk (show w9.heap[g6]? = some (.cells #[.int .i64 0, .int .i64 0, .int .i64 0, .slice none 0 0] 26 (0, 0)) from (by rw [hw]; exact (blk_put (cs := #[.int .i64 0, .int .i64 0, .int .i64 0, .slice none 0 0]) (blk_put (cs := #[.int .i64 0, .int .i64 0, .int .i64 0, .slice none 0 0]) (blk_put (cs := #[.int .i64 0, .int .i64 0, .int .i64 0, .slice none 0 0]) (blk_put (cs := #[.int .i64 0, .int .i64 0, .int .i64 0, .slice none 0 0]) B_g6.out 0 (.int .i64 0) rfl) 1 (.int .i64 0) rfl) 2 (.int .i64 0) rfl) 3 (.slice none 0 0) rfl))); replace HS := Aside0.mk (show Stp w0 w S w9 from (by rw [hw]; exact (stp_set (stp_set (stp_set (stp_set HS.out G_g6.out 0 (.int .i64 0)) G_g6.out 1 (.int .i64 0)) G_g6.out 2 (.int .i64 0)) G_g6.out 3 (.slice none 0 0)))); clear hw; have c_g6_0 : w9.cell? ⟨g6, 0, none⟩ = some (.int .i64 0) := (blk_cell B_g6.out 0).trans rfl; have f_g6_0 := blk_frozen B_g6.out 0; have c_g6_1 : w9.cell? ⟨g6, 1, none⟩ = some (.int .i64 0) := (blk_cell B_g6.out 1).trans rfl; have f_g6_1 := blk_frozen B_g6.out 1; have c_g6_2 : w9.cell? ⟨g6, 2, none⟩ = some (.int .i64 0) := (blk_cell B_g6.out 2).trans rfl; have f_g6_2 := blk_frozen B_g6.out 2; have c_g6_3 : w9.cell? ⟨g6, 3, none⟩ = some (.slice none 0 0) := (blk_cell B_g6.out 3).trans rfl; have f_g6_3 := blk_frozen B_g6.out 3))
  refine bodyPost_ret (results_ct rfl _ _ g6 26 #[.int .i64 0, .int .i64 0, .int .i64 0, .slice none 0 0] (0, 0) _ rfl B_g6.out Tryd.underlying26 rfl (by kernel_rfl)) rfl ?_
  obtain rfl := HW.out
  exact ⟨rfl, stp_b HS.out⟩
set_option maxHeartbeats 4000000 in
set_option maxRecDepth 100000 in
theorem build_p (a0 a2 h : Int) (A1 : Option Addr) (c1 : Nat) (l1 : List S36) (w : World) (hr1 : Kd.C k36 w A1 l1.length l1) (hc1 : l1.length ≤ c1) (hrG : GL w) (hh : tree_height.f (l1.length : Int) = some h) (hv : field_Valid.f a0 = some true) (d0 : decide (h < 0) = false) (d1 : decide (a2 < 0) = false) (d2 : decide (h < a2) = false) (hp : tree_proper.f a0 l1 = some false) : Calls Tryd.prog 13 #[.int .i64 a0, .slice A1 l1.length c1, .int .i64 a2] w fun e w' => e = .returned (.tuple #[.agg #[.int .i64 0, .int .i64 0, .int .i64 0, .slice none 0 0], .int .i64 2]) ∧ Below w.heap.size w w' := by
  have AV := Aside0.mk hv
  clear hv
  have AP := Aside0.mk hp
  clear hp
  have hu26 := Tryd.underlying26
  have HR1 := Aside0.mk hr1
  have HC1 := Aside0.mk hc1
  have HRG := Aside0.mk hrG
  have AH := Aside0.mk hh
  clear hr1 hc1 hrG hh
  obtain ⟨w0, hw0⟩ : ∃ w0, w0 = w := ⟨_, rfl⟩
  generalize hSS : (fun _ : Nat => False) = S
  have HS : Aside0 (Stp w0 w S w) := ⟨by rw [hw0]; exact Below.refl _ _, Kept.refl _ _⟩
  have HW := Aside0.mk hw0
  clear hSS hw0
  go_enter Tryd.func13, Tryd.ntmps13
  go_wp2_with (first
    | ((with_reducible refine gate_dst (N := 6) rfl ?_); refine box_event ?hg (N := 6) ?hd (cs := #[.int .i64 0, .int .i64 0, .int .i64 0, .slice none 0 0]) (t := 26) ?hr ?_; (case hd => rfl); (case hg => rfl); (case hr => first | (go_simp; done) | (go_simp; rfl)); intro g6 xg w1 y_ hb; skip; have G_g6 := Aside0.mk (stp_new HS.out xg); replace HS := Aside0.mk (show Stp w0 w S w1 from stp_below HS.out hb); have B_g6 := Aside0.mk y_; clear xg y_ hb; have c_g6_0 : w1.cell? ⟨g6, 0, none⟩ = some (.int .i64 0) := (blk_cell B_g6.out 0).trans rfl; have f_g6_0 := blk_frozen B_g6.out 0; have c_g6_1 : w1.cell? ⟨g6, 1, none⟩ = some (.int .i64 0) := (blk_cell B_g6.out 1).trans rfl; have f_g6_1 := blk_frozen B_g6.out 1; have c_g6_2 : w1.cell? ⟨g6, 2, none⟩ = some (.int .i64 0) := (blk_cell B_g6.out 2).trans rfl; have f_g6_2 := blk_frozen B_g6.out 2; have c_g6_3 : w1.cell? ⟨g6, 3, none⟩ = some (.slice none 0 0) := (blk_cell B_g6.out 3).trans rfl; have f_g6_3 := blk_frozen B_g6.out 3)
    | (go_at_call 37; (with_reducible refine (tree_height.calls _ h _ (GL.below (HW.out ▸ HRG.out) (stp_b HS.out)) AH.out).mono ?_); rintro e w2 ⟨rfl, hb⟩; clear c_g6_0 f_g6_0 c_g6_1 f_g6_1 c_g6_2 f_g6_2 c_g6_3 f_g6_3; replace B_g6 := Aside0.mk (show w2.heap[g6]? = some (.cells #[.int .i64 0, .int .i64 0, .int .i64 0, .slice none 0 0] 26 (0, 0)) from blk_below B_g6.out hb); replace HS := Aside0.mk (show Stp w0 w S w2 from stp_below HS.out hb); clear hb; have c_g6_0 : w2.cell? ⟨g6, 0, none⟩ = some (.int .i64 0) := (blk_cell B_g6.out 0).trans rfl; have f_g6_0 := blk_frozen B_g6.out 0; have c_g6_1 : w2.cell? ⟨g6, 1, none⟩ = some (.int .i64 0) := (blk_cell B_g6.out 1).trans rfl; have f_g6_1 := blk_frozen B_g6.out 1; have c_g6_2 : w2.cell? ⟨g6, 2, none⟩ = some (.int .i64 0) := (blk_cell B_g6.out 2).trans rfl; have f_g6_2 := blk_frozen B_g6.out 2; have c_g6_3 : w2.cell? ⟨g6, 3, none⟩ = some (.slice none 0 0) := (blk_cell B_g6.out 3).trans rfl; have f_g6_3 := blk_frozen B_g6.out 3)
    | (go_at_call 38; (with_reducible refine (valid_calls a0 _ _ AV.out).mono ?_); rintro e w3 ⟨rfl, hb⟩; clear c_g6_0 f_g6_0 c_g6_1 f_g6_1 c_g6_2 f_g6_2 c_g6_3 f_g6_3; replace B_g6 := Aside0.mk (show w3.heap[g6]? = some (.cells #[.int .i64 0, .int .i64 0, .int .i64 0, .slice none 0 0] 26 (0, 0)) from blk_below B_g6.out hb); replace HS := Aside0.mk (show Stp w0 w S w3 from stp_below HS.out hb); clear hb; have c_g6_0 : w3.cell? ⟨g6, 0, none⟩ = some (.int .i64 0) := (blk_cell B_g6.out 0).trans rfl; have f_g6_0 := blk_frozen B_g6.out 0; have c_g6_1 : w3.cell? ⟨g6, 1, none⟩ = some (.int .i64 0) := (blk_cell B_g6.out 1).trans rfl; have f_g6_1 := blk_frozen B_g6.out 1; have c_g6_2 : w3.cell? ⟨g6, 2, none⟩ = some (.int .i64 0) := (blk_cell B_g6.out 2).trans rfl; have f_g6_2 := blk_frozen B_g6.out 2; have c_g6_3 : w3.cell? ⟨g6, 3, none⟩ = some (.slice none 0 0) := (blk_cell B_g6.out 3).trans rfl; have f_g6_3 := blk_frozen B_g6.out 3)
    | (go_at_call 39; (with_reducible refine (tree_proper.calls a0 _ _ l1 false _ (Kd.C_below HR1.out (HW.out ▸ stp_b HS.out)) HC1.out (GL.below (HW.out ▸ HRG.out) (stp_b HS.out)) AP.out).mono ?_); rintro e w4 ⟨rfl, hb⟩; clear c_g6_0 f_g6_0 c_g6_1 f_g6_1 c_g6_2 f_g6_2 c_g6_3 f_g6_3; replace B_g6 := Aside0.mk (show w4.heap[g6]? = some (.cells #[.int .i64 0, .int .i64 0, .int .i64 0, .slice none 0 0] 26 (0, 0)) from blk_below B_g6.out hb); replace HS := Aside0.mk (show Stp w0 w S w4 from stp_below HS.out hb); clear hb; have c_g6_0 : w4.cell? ⟨g6, 0, none⟩ = some (.int .i64 0) := (blk_cell B_g6.out 0).trans rfl; have f_g6_0 := blk_frozen B_g6.out 0; have c_g6_1 : w4.cell? ⟨g6, 1, none⟩ = some (.int .i64 0) := (blk_cell B_g6.out 1).trans rfl; have f_g6_1 := blk_frozen B_g6.out 1; have c_g6_2 : w4.cell? ⟨g6, 2, none⟩ = some (.int .i64 0) := (blk_cell B_g6.out 2).trans rfl; have f_g6_2 := blk_frozen B_g6.out 2; have c_g6_3 : w4.cell? ⟨g6, 3, none⟩ = some (.slice none 0 0) := (blk_cell B_g6.out 3).trans rfl; have f_g6_3 := blk_frozen B_g6.out 3)
    | ((with_reducible refine gate_store (t := 26) (p := 6) rfl ?_); refine store_event (t := 26) (p := 6) (v := .tmp 37) (w1 := ((((w4.setCell ⟨g6, 0, none⟩ (.int .i64 0)).setCell ⟨g6, 1, none⟩ (.int .i64 0)).setCell ⟨g6, 2, none⟩ (.int .i64 0)).setCell ⟨g6, 3, none⟩ (.slice none 0 0))) ?hg ?ho ?hn ?hr ?_; (case ho => rfl); (case hg => rfl); (case hn => rfl); (case hr => first | (go_simp; done) | (go_simp; rfl)); intro w9 hw; clear c_g6_0 f_g6_0 c_g6_1 f_g6_1 c_g6_2 f_g6_2 c_g6_3 f_g6_3; replace B_g6 := Aside0.mk (show w9.heap[g6]? = some (.cells #[.int .i64 0, .int .i64 0, .int .i64 0, .slice none 0 0] 26 (0, 0)) from (by rw [hw]; exact (blk_put (cs := #[.int .i64 0, .int .i64 0, .int .i64 0, .slice none 0 0]) (blk_put (cs := #[.int .i64 0, .int .i64 0, .int .i64 0, .slice none 0 0]) (blk_put (cs := #[.int .i64 0, .int .i64 0, .int .i64 0, .slice none 0 0]) (blk_put (cs := #[.int .i64 0, .int .i64 0, .int .i64 0, .slice none 0 0]) B_g6.out 0 (.int .i64 0) rfl) 1 (.int .i64 0) rfl) 2 (.int .i64 0) rfl) 3 (.slice none 0 0) rfl))); replace HS := Aside0.mk (show Stp w0 w S w9 from (by rw [hw]; exact (stp_set (stp_set (stp_set (stp_set HS.out G_g6.out 0 (.int .i64 0)) G_g6.out 1 (.int .i64 0)) G_g6.out 2 (.int .i64 0)) G_g6.out 3 (.slice none 0 0)))); clear hw; have c_g6_0 : w9.cell? ⟨g6, 0, none⟩ = some (.int .i64 0) := (blk_cell B_g6.out 0).trans rfl; have f_g6_0 := blk_frozen B_g6.out 0; have c_g6_1 : w9.cell? ⟨g6, 1, none⟩ = some (.int .i64 0) := (blk_cell B_g6.out 1).trans rfl; have f_g6_1 := blk_frozen B_g6.out 1; have c_g6_2 : w9.cell? ⟨g6, 2, none⟩ = some (.int .i64 0) := (blk_cell B_g6.out 2).trans rfl; have f_g6_2 := blk_frozen B_g6.out 2; have c_g6_3 : w9.cell? ⟨g6, 3, none⟩ = some (.slice none 0 0) := (blk_cell B_g6.out 3).trans rfl; have f_g6_3 := blk_frozen B_g6.out 3))
  refine bodyPost_ret (results_ct rfl _ _ g6 26 #[.int .i64 0, .int .i64 0, .int .i64 0, .slice none 0 0] (0, 0) _ rfl B_g6.out Tryd.underlying26 rfl (by kernel_rfl)) rfl ?_
  obtain rfl := HW.out
  exact ⟨rfl, stp_b HS.out⟩
theorem cells_grown {W W' : World} {row : Option Nat} {B : Nat} (hg : W.grownBy W' row) (hr : ∀ r, row = some r → B ≤ r ∧ ∃ o : Obj, W.heap[r]? = some o ∧ o.isCells = false) {k : Nat} {cs : Array Value} {t : TypeId} {fr : Nat × Nat} (hc : W.heap[k]? = some (Obj.cells cs t fr)) : W'.heap[k]? = some (Obj.cells cs t fr) :=
  (hg.block k (Array.getElem?_eq_some_iff.1 hc).1 (fun e => by
    obtain ⟨_, o, ho, hn⟩ := hr k e.symm
    rw [hc] at ho
    obtain rfl := Option.some.inj ho
    exact absurd hn (by simp [Obj.isCells]))).trans hc
theorem s_cells {base : Nat} {ok : Nat → Prop} {W W' : World} {v : Value} {xs : List (List S36)} (h : Kd.S (Kd.slice 36 k36) 22 W base ok v xs) (hm : ∀ (k : Nat) (cs : Array Value) (t : TypeId) (fr : Nat × Nat), W.heap[k]? = some (Obj.cells cs t fr) → W'.heap[k]? = W.heap[k]?) : Kd.S (Kd.slice 36 k36) 22 W' base ok v xs :=
  Kd.S_mono (Kd.S_step (Kd.S_bound h) (fun k hk _ => by
    obtain ⟨_, _, _, q, _, cs, hc⟩ := hk
    exact hm k cs q _ hc)) (fun _ hk => hk.1)
/-- What the loop keeps between two rounds. -/
def LvI (w0 : World) (g6 g9 : Nat) (a0 h a2 : Int) (pre : List (List S36)) (N : Nat) (W : World) : Prop :=
  ∃ v, W.heap[g9]? = some (Obj.cells #[.int .i64 a0, .int .i64 h, .int .i64 a2, v] 26 (0, 0)) ∧ Kd.S (Kd.slice 36 k36) 22 W w0.heap.size (fun k => k < N) v pre ∧ W.heap[g6]? = some (Obj.cells #[.int .i64 0, .int .i64 0, .int .i64 0, .slice none 0 0] 26 (0, 0)) ∧ Below w0.heap.size w0 W
theorem lvI_own (w0 : World) (g6 g9 : Nat) (a0 h a2 : Int) (B : Nat) (hB : w0.heap.size ≤ B) (N : Nat) : OwnFrom B (fun s W => LvI w0 g6 g9 a0 h a2 s N W) := by
  rintro s W W' row ⟨v, h9, hS, h6, hb⟩ hg hr
  exact ⟨v, cells_grown hg hr h9, s_cells hS (fun k cs t fr hc => (cells_grown hg hr hc).trans hc.symm), cells_grown hg hr h6, hb.grown hg hb.size (fun k e => Nat.le_trans hB (hr k e).1)⟩
theorem rowD_own (x : List S36) (B N : Nat) : OwnFrom B (fun v W => RowD x v N W) := by
  rintro v W W' row h hg hr
  exact rowD_cells h (fun k cs hc => (cells_grown hg hr hc).trans hc.symm)
theorem kpT_t {wb A B C : World} (h : KpT wb A B) (k : KpT wb B C) : KpT wb A C := ⟨h.1.trans k.1, fun i cs t fr hc h1 h2 => k.2 i cs t fr (h.2 i cs t fr hc h1 h2) h1 h2⟩
theorem kpT_b {wb : World} (B : Nat) (hB : wb.heap.size ≤ B) (W : World) (l : Nat) (o o' : Obj) (hl : B ≤ l) (ho : W.heap[l]? = some o) (hn : o.isCells = false) : KpT wb W (W.putObj l o') :=
  ⟨(Below.refl _ W).grown (grownBy_putObj' W l o') (Nat.le_trans (Nat.le_trans hB hl) (Nat.le_of_lt (Array.getElem?_eq_some_iff.1 ho).1)) (fun k e => by cases e; omega), fun k cs t fr hc _ _ => cells_grown (grownBy_putObj' W l o') (B := B) (fun r e => by cases e; exact ⟨hl, o, ho, hn⟩) hc⟩
set_option maxHeartbeats 8000000 in
set_option maxRecDepth 100000 in
theorem build_ok (k : Nat) (a0 a2 h : Int) (A1 : Option Addr) (c1 : Nat) (l1 : List S36) (w : World) (hr1 : Kd.C k36 w A1 l1.length l1) (hc1 : l1.length ≤ c1) (hrG : GL w) (hh : tree_height.f (l1.length : Int) = some h) (hv : field_Valid.f a0 = some true) (d0 : decide (h < 0) = false) (d1 : decide (a2 < 0) = false) (d2 : decide (h < a2) = false) (hp : tree_proper.f a0 l1 = some true) (hln : l1.length ≤ 1048576) (top : Int) (htop : shl .i64 1 a2 = top) (ht0 : 0 ≤ top) (xs : List (List S36)) (hx : riseL a0 top k l1 = some xs) (hxl : xs.length ≤ 1048577) :
    Calls Tryd.prog 13 #[.int .i64 a0, .slice A1 l1.length c1, .int .i64 a2] w fun e w' => ∃ v3_ : Value, e = .returned (.tuple #[.agg #[.int .i64 a0, .int .i64 h, .int .i64 a2, v3_], .int .i64 0]) ∧ Kd.S (Kd.slice 36 k36) 22 w' w.heap.size (fun _ => True) v3_ xs ∧ Below w.heap.size w w' := by
  have AV := Aside0.mk hv
  have AP := Aside0.mk hp
  have HLN := Aside0.mk hln
  have HX := Aside0.mk hx
  have HXL := Aside0.mk hxl
  have ha2 : 0 ≤ a2 := by have := of_decide_eq_false d1; omega
  have hji : shl .i64 1 a2 = top := htop
  have hji_ : (IntKind.i64.wrap (1 * 2 ^ min a2.toNat 64)) = top := hji
  have hjiz : a2 ≤ 64 → (IntKind.i64.wrap (1 * 2 ^ a2.toNat)) = top := shl_small hji
  have hjiu : (IntKind.i64.wrap (2 ^ min a2.toNat 64)) = top := by have h_ := hji_; rw [Int.one_mul] at h_; exact h_
  have hjiv : a2 ≤ 64 → (IntKind.i64.wrap (2 ^ a2.toNat)) = top := fun hle_ => by have h_ := hjiz hle_; rw [Int.one_mul] at h_; exact h_
  have hjiy : (wrap64 (1 * 2 ^ min a2.toNat 64)) = top := (i64_w _).symm.trans hji_
  have hjix : a2 ≤ 64 → (wrap64 (1 * 2 ^ a2.toNat)) = top := fun h_ => (i64_w _).symm.trans (hjiz h_)
  have dd : decide (0 ≤ a2) = true := decide_eq_true ha2
  have ddp : (0 ≤ a2) = True := eq_true ha2
  clear hv hp hln hx hxl htop ht0 ha2
  have hu26 := Tryd.underlying26
  have HR1 := Aside0.mk hr1
  have HC1 := Aside0.mk hc1
  have HRG := Aside0.mk hrG
  have AH := Aside0.mk hh
  clear hr1 hc1 hrG hh
  obtain ⟨w0, hw0⟩ : ∃ w0, w0 = w := ⟨_, rfl⟩
  generalize hSS : (fun _ : Nat => False) = S
  have HS : Aside0 (Stp w0 w S w) := ⟨by rw [hw0]; exact Below.refl _ _, Kept.refl _ _⟩
  have HW := Aside0.mk hw0
  clear hSS hw0
  refine (callsIn_wide (n := 9)).1 (callsIn_of_wp_marks Tryd.func13 rfl trivial ?_ rfl)
  simp only [Tryd.ntmps13, List.size_toArray, List.length_cons, List.length_nil, Nat.reduceAdd, Nat.reduceSub, Array.replicate_succ, Array.replicate_zero, List.push_toArray, List.append_toArray, List.nil_append, List.cons_append]
  refine wpIn_wide.2 ?_
  go_wp2_with (first
    | ((with_reducible refine gate_dst (N := 6) rfl ?_); refine box_event ?hg (N := 6) ?hd (cs := #[.int .i64 0, .int .i64 0, .int .i64 0, .slice none 0 0]) (t := 26) ?hr ?_; (case hd => rfl); (case hg => rfl); (case hr => first | (go_simp; done) | (go_simp; rfl)); intro g6 xg w1 y_ hb; skip; have G_g6 := Aside0.mk (stp_new HS.out xg); replace HS := Aside0.mk (show Stp w0 w S w1 from stp_below HS.out hb); have B_g6 := Aside0.mk y_; clear xg y_ hb; have c_g6_0 : w1.cell? ⟨g6, 0, none⟩ = some (.int .i64 0) := (blk_cell B_g6.out 0).trans rfl; have f_g6_0 := blk_frozen B_g6.out 0; have c_g6_1 : w1.cell? ⟨g6, 1, none⟩ = some (.int .i64 0) := (blk_cell B_g6.out 1).trans rfl; have f_g6_1 := blk_frozen B_g6.out 1; have c_g6_2 : w1.cell? ⟨g6, 2, none⟩ = some (.int .i64 0) := (blk_cell B_g6.out 2).trans rfl; have f_g6_2 := blk_frozen B_g6.out 2; have c_g6_3 : w1.cell? ⟨g6, 3, none⟩ = some (.slice none 0 0) := (blk_cell B_g6.out 3).trans rfl; have f_g6_3 := blk_frozen B_g6.out 3)
    | (go_at_call 37; (with_reducible refine (tree_height.calls _ h _ (GL.below (HW.out ▸ HRG.out) (stp_b HS.out)) AH.out).mono ?_); rintro e w2 ⟨rfl, hb⟩; clear c_g6_0 f_g6_0 c_g6_1 f_g6_1 c_g6_2 f_g6_2 c_g6_3 f_g6_3; replace B_g6 := Aside0.mk (show w2.heap[g6]? = some (.cells #[.int .i64 0, .int .i64 0, .int .i64 0, .slice none 0 0] 26 (0, 0)) from blk_below B_g6.out hb); replace HS := Aside0.mk (show Stp w0 w S w2 from stp_below HS.out hb); clear hb; have c_g6_0 : w2.cell? ⟨g6, 0, none⟩ = some (.int .i64 0) := (blk_cell B_g6.out 0).trans rfl; have f_g6_0 := blk_frozen B_g6.out 0; have c_g6_1 : w2.cell? ⟨g6, 1, none⟩ = some (.int .i64 0) := (blk_cell B_g6.out 1).trans rfl; have f_g6_1 := blk_frozen B_g6.out 1; have c_g6_2 : w2.cell? ⟨g6, 2, none⟩ = some (.int .i64 0) := (blk_cell B_g6.out 2).trans rfl; have f_g6_2 := blk_frozen B_g6.out 2; have c_g6_3 : w2.cell? ⟨g6, 3, none⟩ = some (.slice none 0 0) := (blk_cell B_g6.out 3).trans rfl; have f_g6_3 := blk_frozen B_g6.out 3)
    | (go_at_call 38; (with_reducible refine (valid_calls a0 _ _ AV.out).mono ?_); rintro e w3 ⟨rfl, hb⟩; clear c_g6_0 f_g6_0 c_g6_1 f_g6_1 c_g6_2 f_g6_2 c_g6_3 f_g6_3; replace B_g6 := Aside0.mk (show w3.heap[g6]? = some (.cells #[.int .i64 0, .int .i64 0, .int .i64 0, .slice none 0 0] 26 (0, 0)) from blk_below B_g6.out hb); replace HS := Aside0.mk (show Stp w0 w S w3 from stp_below HS.out hb); clear hb; have c_g6_0 : w3.cell? ⟨g6, 0, none⟩ = some (.int .i64 0) := (blk_cell B_g6.out 0).trans rfl; have f_g6_0 := blk_frozen B_g6.out 0; have c_g6_1 : w3.cell? ⟨g6, 1, none⟩ = some (.int .i64 0) := (blk_cell B_g6.out 1).trans rfl; have f_g6_1 := blk_frozen B_g6.out 1; have c_g6_2 : w3.cell? ⟨g6, 2, none⟩ = some (.int .i64 0) := (blk_cell B_g6.out 2).trans rfl; have f_g6_2 := blk_frozen B_g6.out 2; have c_g6_3 : w3.cell? ⟨g6, 3, none⟩ = some (.slice none 0 0) := (blk_cell B_g6.out 3).trans rfl; have f_g6_3 := blk_frozen B_g6.out 3)
    | (go_at_call 39; (with_reducible refine (tree_proper.calls a0 _ _ l1 true _ (Kd.C_below HR1.out (HW.out ▸ stp_b HS.out)) HC1.out (GL.below (HW.out ▸ HRG.out) (stp_b HS.out)) AP.out).mono ?_); rintro e w4 ⟨rfl, hb⟩; clear c_g6_0 f_g6_0 c_g6_1 f_g6_1 c_g6_2 f_g6_2 c_g6_3 f_g6_3; replace B_g6 := Aside0.mk (show w4.heap[g6]? = some (.cells #[.int .i64 0, .int .i64 0, .int .i64 0, .slice none 0 0] 26 (0, 0)) from blk_below B_g6.out hb); replace HS := Aside0.mk (show Stp w0 w S w4 from stp_below HS.out hb); clear hb; have c_g6_0 : w4.cell? ⟨g6, 0, none⟩ = some (.int .i64 0) := (blk_cell B_g6.out 0).trans rfl; have f_g6_0 := blk_frozen B_g6.out 0; have c_g6_1 : w4.cell? ⟨g6, 1, none⟩ = some (.int .i64 0) := (blk_cell B_g6.out 1).trans rfl; have f_g6_1 := blk_frozen B_g6.out 1; have c_g6_2 : w4.cell? ⟨g6, 2, none⟩ = some (.int .i64 0) := (blk_cell B_g6.out 2).trans rfl; have f_g6_2 := blk_frozen B_g6.out 2; have c_g6_3 : w4.cell? ⟨g6, 3, none⟩ = some (.slice none 0 0) := (blk_cell B_g6.out 3).trans rfl; have f_g6_3 := blk_frozen B_g6.out 3)
    | ((with_reducible refine gate_dst (N := 9) rfl ?_); refine box_event ?hg (N := 9) ?hd (cs := #[.int .i64 0, .int .i64 0, .int .i64 0, .slice none 0 0]) (t := 26) ?hr ?_; (case hd => rfl); (case hg => rfl); (case hr => first | (go_simp; done) | (go_simp; rfl)); intro g9 xg w5 y_ hb; clear c_g6_0 f_g6_0 c_g6_1 f_g6_1 c_g6_2 f_g6_2 c_g6_3 f_g6_3; have N_g6_g9 := Aside0.mk (new_ne B_g6.out xg); have N_g9_g6 := Aside0.mk N_g6_g9.out.symm; have G_g9 := Aside0.mk (stp_new HS.out xg); replace B_g6 := Aside0.mk (show w5.heap[g6]? = some (.cells #[.int .i64 0, .int .i64 0, .int .i64 0, .slice none 0 0] 26 (0, 0)) from blk_below B_g6.out hb); replace HS := Aside0.mk (show Stp w0 w S w5 from stp_below HS.out hb); have B_g9 := Aside0.mk y_; clear xg y_ hb; have c_g6_0 : w5.cell? ⟨g6, 0, none⟩ = some (.int .i64 0) := (blk_cell B_g6.out 0).trans rfl; have f_g6_0 := blk_frozen B_g6.out 0; have c_g6_1 : w5.cell? ⟨g6, 1, none⟩ = some (.int .i64 0) := (blk_cell B_g6.out 1).trans rfl; have f_g6_1 := blk_frozen B_g6.out 1; have c_g6_2 : w5.cell? ⟨g6, 2, none⟩ = some (.int .i64 0) := (blk_cell B_g6.out 2).trans rfl; have f_g6_2 := blk_frozen B_g6.out 2; have c_g6_3 : w5.cell? ⟨g6, 3, none⟩ = some (.slice none 0 0) := (blk_cell B_g6.out 3).trans rfl; have f_g6_3 := blk_frozen B_g6.out 3; have c_g9_0 : w5.cell? ⟨g9, 0, none⟩ = some (.int .i64 0) := (blk_cell B_g9.out 0).trans rfl; have f_g9_0 := blk_frozen B_g9.out 0; have c_g9_1 : w5.cell? ⟨g9, 1, none⟩ = some (.int .i64 0) := (blk_cell B_g9.out 1).trans rfl; have f_g9_1 := blk_frozen B_g9.out 1; have c_g9_2 : w5.cell? ⟨g9, 2, none⟩ = some (.int .i64 0) := (blk_cell B_g9.out 2).trans rfl; have f_g9_2 := blk_frozen B_g9.out 2; have c_g9_3 : w5.cell? ⟨g9, 3, none⟩ = some (.slice none 0 0) := (blk_cell B_g9.out 3).trans rfl; have f_g9_3 := blk_frozen B_g9.out 3)
    | ((with_reducible refine gate_store (t := 26) (p := 9) rfl ?_); refine store_event (t := 26) (p := 9) (v := .tmp 41) (w1 := ((((w5.setCell ⟨g9, 0, none⟩ (.int .i64 a0)).setCell ⟨g9, 1, none⟩ (.int .i64 h)).setCell ⟨g9, 2, none⟩ (.int .i64 a2)).setCell ⟨g9, 3, none⟩ (.slice none 0 0))) ?hg ?ho ?hn ?hr ?_; (case ho => rfl); (case hg => rfl); (case hn => rfl); (case hr => first | (go_simp; done) | (go_simp; rfl)); intro w6 hw; clear c_g6_0 f_g6_0 c_g6_1 f_g6_1 c_g6_2 f_g6_2 c_g6_3 f_g6_3 c_g9_0 f_g9_0 c_g9_1 f_g9_1 c_g9_2 f_g9_2 c_g9_3 f_g9_3; replace B_g6 := Aside0.mk (show w6.heap[g6]? = some (.cells #[.int .i64 0, .int .i64 0, .int .i64 0, .slice none 0 0] 26 (0, 0)) from (by rw [hw]; (repeat (refine blk_far ?_ N_g6_g9.out _)); exact B_g6.out)); replace B_g9 := Aside0.mk (show w6.heap[g9]? = some (.cells #[.int .i64 a0, .int .i64 h, .int .i64 a2, .slice none 0 0] 26 (0, 0)) from (by rw [hw]; exact (blk_put (cs := #[.int .i64 a0, .int .i64 h, .int .i64 a2, .slice none 0 0]) (blk_put (cs := #[.int .i64 a0, .int .i64 h, .int .i64 0, .slice none 0 0]) (blk_put (cs := #[.int .i64 a0, .int .i64 0, .int .i64 0, .slice none 0 0]) (blk_put (cs := #[.int .i64 0, .int .i64 0, .int .i64 0, .slice none 0 0]) B_g9.out 0 (.int .i64 a0) rfl) 1 (.int .i64 h) rfl) 2 (.int .i64 a2) rfl) 3 (.slice none 0 0) rfl))); replace HS := Aside0.mk (show Stp w0 w S w6 from (by rw [hw]; exact (stp_set (stp_set (stp_set (stp_set HS.out G_g9.out 0 (.int .i64 a0)) G_g9.out 1 (.int .i64 h)) G_g9.out 2 (.int .i64 a2)) G_g9.out 3 (.slice none 0 0)))); clear hw; have c_g6_0 : w6.cell? ⟨g6, 0, none⟩ = some (.int .i64 0) := (blk_cell B_g6.out 0).trans rfl; have f_g6_0 := blk_frozen B_g6.out 0; have c_g6_1 : w6.cell? ⟨g6, 1, none⟩ = some (.int .i64 0) := (blk_cell B_g6.out 1).trans rfl; have f_g6_1 := blk_frozen B_g6.out 1; have c_g6_2 : w6.cell? ⟨g6, 2, none⟩ = some (.int .i64 0) := (blk_cell B_g6.out 2).trans rfl; have f_g6_2 := blk_frozen B_g6.out 2; have c_g6_3 : w6.cell? ⟨g6, 3, none⟩ = some (.slice none 0 0) := (blk_cell B_g6.out 3).trans rfl; have f_g6_3 := blk_frozen B_g6.out 3; have c_g9_0 : w6.cell? ⟨g9, 0, none⟩ = some (.int .i64 a0) := (blk_cell B_g9.out 0).trans rfl; have f_g9_0 := blk_frozen B_g9.out 0; have c_g9_1 : w6.cell? ⟨g9, 1, none⟩ = some (.int .i64 h) := (blk_cell B_g9.out 1).trans rfl; have f_g9_1 := blk_frozen B_g9.out 1; have c_g9_2 : w6.cell? ⟨g9, 2, none⟩ = some (.int .i64 a2) := (blk_cell B_g9.out 2).trans rfl; have f_g9_2 := blk_frozen B_g9.out 2; have c_g9_3 : w6.cell? ⟨g9, 3, none⟩ = some (.slice none 0 0) := (blk_cell B_g9.out 3).trans rfl; have f_g9_3 := blk_frozen B_g9.out 3)
    | (go_at_call 40; (with_reducible refine (rising_calls a0 top A1 c1 l1 _).mono ?_); rintro e w7 ⟨gf, gl, gt, rfl, lf, ll, lt, nft, bf, bl, bt, hb⟩; clear c_g6_0 f_g6_0 c_g6_1 f_g6_1 c_g6_2 f_g6_2 c_g6_3 f_g6_3 c_g9_0 f_g9_0 c_g9_1 f_g9_1 c_g9_2 f_g9_2 c_g9_3 f_g9_3; replace B_g6 := Aside0.mk (show w7.heap[g6]? = some (.cells #[.int .i64 0, .int .i64 0, .int .i64 0, .slice none 0 0] 26 (0, 0)) from blk_below B_g6.out hb); replace B_g9 := Aside0.mk (show w7.heap[g9]? = some (.cells #[.int .i64 a0, .int .i64 h, .int .i64 a2, .slice none 0 0] 26 (0, 0)) from blk_below B_g9.out hb); replace HS := Aside0.mk (show Stp w0 w S w7 from stp_below HS.out hb); have B_gf := Aside0.mk bf; have B_gl := Aside0.mk bl; have B_gt := Aside0.mk bt; clear hb bf bl bt lf ll lt nft))
  have hb7 := stp_b HS.out
  have hr1 : Kd.C k36 w0 A1 l1.length l1 := by rw [HW.out]; exact HR1.out
  have hG0 : GL w0 := by rw [HW.out]; exact HRG.out
  refine rangeFunc_rows (gf := 61) (lb := #[.pointer (some ⟨gl, 0, none⟩), .pointer (some ⟨gt, 0, none⟩), .pointer (some ⟨gf, 0, none⟩)]) rfl (enters_of Tryd.func61 (by kernel_rfl) rfl) (Row := RowD) (Kp := KpT w0) (xs := xs)
    (rise_iter k a0 top gf gt gl w0 w7 hG0 hb7 A1 c1 l1 hr1 HC1.out HLN.out B_gf.out B_gt.out B_gl.out xs HX.out) kpT_t (kpT_b w7.heap.size hb7.size)
    (LvI w0 g6 g9 a0 h a2) (lvI_own w0 g6 g9 a0 h a2 _ hb7.size) (fun x N => rowD_own x _ N) (fun N hN => ⟨_, B_g9.out, Kd.S_nil _ _ _ _ _, B_g6.out, hb7⟩) 10 ?assign ?body ?done
  case assign =>
    intro l v W K hK
    dsimp only at hK ⊢
    simp only [List.setIfInBounds_toArray, List.set_cons_zero, List.set_cons_succ] at hK ⊢
    gi_wp2
    exact hK
  case body =>
    intro l pre v x N W hI hBN hNW hpre hrow
    obtain ⟨vL, h9, hS, h6, hb⟩ := hI
    obtain ⟨Av, cv, rfl, _, _⟩ := Kd.R_reads hrow
    have hpl : pre.length ≤ 1048576 := by have := hpre.length_le; have := HXL.out; simp at *; omega
    dsimp only
    simp only [List.setIfInBounds_toArray, List.set_cons_zero, List.set_cons_succ]
    refine wpIn_block ?_
    refine wpIn_region_lit (listIn_of_list l 5 ?hq _ _ _ ?hd ?_)
    case hq => rintro ⟨a, w, h⟩; exact absurd h.1 (by simp)
    case hd => simp
    have HNE := Aside0.mk (N_g6_g9.out)
    have H9 := Aside0.mk h9
    have H6 := Aside0.mk h6
    have HSL := Aside0.mk hS
    have HRW := Aside0.mk hrow
    have HBB := Aside0.mk hb
    have HNN := Aside0.mk (⟨hBN, hNW, hpl, hb7.size, G_g9.out.1⟩ : w7.heap.size ≤ N ∧ N ≤ W.heap.size ∧ pre.length ≤ 1048576 ∧ w0.heap.size ≤ w7.heap.size ∧ w0.heap.size ≤ g9)
    have kv_ : W.cell? ⟨g9, 3, none⟩ = some vL := (blk_cell h9 3).trans rfl
    clear h9 h6 hS hrow hb hBN hNW hpl hb7 hr1 hG0 hpre
    go_wp2_with (first
      | ((with_reducible refine gate_builtin (b := .append) (xs := #[.tmp 49, .tmp 51]) rfl ?_); at_builtin; refine Kd.S_append (Kd.slice 36 k36) (w0 := w0) w0.heap.size rfl (.tmp 49) (.tmp 51) 24 22 (.slice none 0 0) 24 rfl Tryd.underlying24 info22 rfl (by decide) (by omega) vL pre x [.slice Av x.length cv] (fun _ => True) (fun k_ => some k_ = (.slice Av x.length cv : Value).ownBlock) rfl rfl ?aP (fun k_ hk_ => ((Kd.R_mono (ok' := fun k_ => ((fun _ => True)) k_ ∧ some k_ ≠ (vL : Value).ownBlock) (Kd.R_apart' HRW.out (Kd.S_typed HSL.out) (by decide)) (fun k_ hk => ⟨trivial, hk.2⟩))).1 k_ hk_.symm) ?aF ?aO ?aB ?aS ?aL ?_; (case aP => exact Kd.M_row (Kd.R_lower (Kd.R_mono (Kd.R_tight rfl HRW.out) (fun _ h_ => h_)) (by have := HNN.out; omega))); (case aF => exact (fun _ _ => trivial)); (case aO => exact Kd.S_mono HSL.out (fun k_ hk => ⟨trivial, fun e_ => by have h1_ := Kd.R_base HRW.out k_ e_.symm; omega⟩)); (case aB => exact HBB.out); (case aS => exact HBB.out.size); (case aL => have := HNN.out; omega); intro vM w8 ho hb hg hat; have M9 := Aside0.mk (blk_grown H9.out hg (Kd.S_ne HSL.out H9.out (by decide))); have M6 := Aside0.mk (blk_grown H6.out hg (Kd.S_ne HSL.out H6.out (by decide))); have MS := Aside0.mk ho; have MB := Aside0.mk hb; have MG := Aside0.mk hg; clear ho hb hg hat kv_; obtain ⟨AM, cM, eM⟩ := Kd.S_slice MS.out; subst eM; have k3_ : w8.cell? ⟨g9, 3, none⟩ = some vL := (blk_cell M9.out 3).trans rfl; have f3_ := blk_frozen M9.out 3)
      | ((with_reducible refine gate_store (t := 24) (p := 53) rfl ?_); refine store_event (t := 24) (p := 53) (v := .tmp 52) (w1 := (w8.setCell ⟨g9, 3, none⟩ (.slice AM (pre ++ [x]).length cM))) ?hg ?ho ?hn ?hr ?_; (case ho => rfl); (case hg => rfl); (case hn => rfl); (case hr => first | (go_simp; done) | (go_simp; rfl)); intro w9 hw))
    have hnv : ∀ i, some i = (vL : Value).ownBlock → ∃ cs, W.heap[i]? = some (Obj.cells cs 22 (0, 0)) := fun i e => Kd.S_typed HSL.out i e.symm
    have hfar : ∀ i, i ≠ g9 → w9.heap[i]? = w8.heap[i]? := fun i hi => by rw [hw]; exact Below.heap_setCell w8 ⟨g9, 3, none⟩ _ i hi
    refine ⟨(by first | trivial | rfl), ⟨?_, ?_⟩, ⟨?_, ?_⟩, ⟨.slice AM (pre ++ [x]).length cM, ?_, ?_, ?_, ?_⟩⟩
    · rw [hw]; simpa [World.setCell] using MG.out.size
    · intro i o hBi hi hn
      have h1 : i ≠ g9 := fun e => by subst e; rw [H9.out] at hi; obtain rfl := Option.some.inj hi; exact absurd hn (by simp [Obj.isCells])
      rw [hfar i h1]
      exact (MG.out.block i (Array.getElem?_eq_some_iff.1 hi).1 (fun e => by obtain ⟨cs, hc⟩ := hnv i e; rw [hc] at hi; obtain rfl := Option.some.inj hi; exact absurd hn (by simp [Obj.isCells]))).trans hi
    · rw [hw]
      exact ((Below.refl w0.heap.size W).grown MG.out HBB.out.size (fun i e => Kd.S_base HSL.out i e)).setCell (p := ⟨g9, 3, none⟩) HNN.out.2.2.2.2 _
    · intro i cs t fr hc h1 h2
      have h3 : i ≠ g9 := fun e => by subst e; rw [H9.out] at hc; injection hc with hc; injection hc with _ hc; exact h2 hc.symm
      rw [hfar i h3]
      exact (MG.out.block i (Array.getElem?_eq_some_iff.1 hc).1 (fun e => by obtain ⟨cs2, hc2⟩ := hnv i e; rw [hc2] at hc; injection hc with hc; injection hc with _ hc; exact h1 hc.symm)).trans hc
    · rw [hw]; exact blk_put M9.out 3 _ rfl
    · exact Kd.S_mono (Kd.S_bound (show Kd.S (Kd.slice 36 k36) 22 w9 w0.heap.size (fun _ => True) _ _ from by rw [hw]; exact Kd.S_set MS.out M9.out (by decide) 3 _)) (fun k hk => hk.2.2.1)
    · rw [hw]; exact blk_far M6.out HNE.out _
    · rw [hw]; exact (MB.out).setCell (p := ⟨g9, 3, none⟩) HNN.out.2.2.2.2 _
  case done =>
    rintro Dd N W hD ⟨vL, h9, hS, h6, hb⟩ hK
    obtain ⟨AL, cL, eL⟩ := Kd.S_slice hS
    subst eL
    have HNE := Aside0.mk (N_g6_g9.out)
    have H9 := Aside0.mk h9
    have H6 := Aside0.mk h6
    have HSL := Aside0.mk hS
    have HBB := Aside0.mk hb
    have HKK := Aside0.mk hK
    have HG := Aside0.mk G_g6.out.1
    have HDD := Aside0.mk (Nat.le_trans hb7.size hD)
    have c60 : W.cell? ⟨g6, 0, none⟩ = some (.int .i64 0) := (blk_cell h6 0).trans rfl
    have c61 : W.cell? ⟨g6, 1, none⟩ = some (.int .i64 0) := (blk_cell h6 1).trans rfl
    have c62 : W.cell? ⟨g6, 2, none⟩ = some (.int .i64 0) := (blk_cell h6 2).trans rfl
    have c63 : W.cell? ⟨g6, 3, none⟩ = some (.slice none 0 0) := (blk_cell h6 3).trans rfl
    have c90 : W.cell? ⟨g9, 0, none⟩ = some (.int .i64 a0) := (blk_cell h9 0).trans rfl
    have c91 : W.cell? ⟨g9, 1, none⟩ = some (.int .i64 h) := (blk_cell h9 1).trans rfl
    have c92 : W.cell? ⟨g9, 2, none⟩ = some (.int .i64 a2) := (blk_cell h9 2).trans rfl
    have c93 : W.cell? ⟨g9, 3, none⟩ = some (.slice AL xs.length cL) := (blk_cell h9 3).trans rfl
    have f60 := blk_frozen h6 0
    have f61 := blk_frozen h6 1
    have f62 := blk_frozen h6 2
    have f63 := blk_frozen h6 3
    have n1_ := N_g6_g9.out
    have n2_ := N_g9_g6.out
    clear h9 h6 hS hb hK hb7 hr1 hG0
    go_wp2_with ((with_reducible refine gate_store (t := 26) (p := 6) rfl ?_); refine store_event (t := 26) (p := 6) (v := .tmp 54) (w1 := ((((W.setCell ⟨g6, 0, none⟩ (.int .i64 a0)).setCell ⟨g6, 1, none⟩ (.int .i64 h)).setCell ⟨g6, 2, none⟩ (.int .i64 a2)).setCell ⟨g6, 3, none⟩ (.slice AL xs.length cL))) ?hg ?ho ?hn ?hr ?_; (case ho => rfl); (case hg => rfl); (case hn => rfl); (case hr => first | (go_simp; done) | (go_simp; rfl)); intro w9 hw)
    have hne : Dd ≠ g6 := fun e => by have h1_ := HKK.out; rw [e, H6.out] at h1_; cases h1_
    have hKD : w9.heap[Dd]? = some (.deferred (some [])) := by
      rw [hw]
      exact (Below.heap_setCell _ ⟨g6, 3, none⟩ _ Dd hne).trans ((Below.heap_setCell _ ⟨g6, 2, none⟩ _ Dd hne).trans ((Below.heap_setCell _ ⟨g6, 1, none⟩ _ Dd hne).trans ((Below.heap_setCell _ ⟨g6, 0, none⟩ _ Dd hne).trans HKK.out)))
    have hS9 : Kd.S (Kd.slice 36 k36) 22 w9 w0.heap.size (fun _ => True) (.slice AL xs.length cL) xs := by
      rw [hw]
      exact Kd.S_mono (Kd.S_far (p := ⟨g6, 3, none⟩) (Kd.S_far (p := ⟨g6, 2, none⟩) (Kd.S_far (p := ⟨g6, 1, none⟩) (Kd.S_far (p := ⟨g6, 0, none⟩) (Kd.S_types HSL.out H6.out (by decide)) (fun k hk => hk.2) _) (fun k hk => hk.2) _) (fun k hk => hk.2) _) (fun k hk => hk.2) _) (fun _ _ => trivial)
    have h69 : w9.heap[g6]? = some (Obj.cells #[.int .i64 a0, .int .i64 h, .int .i64 a2, .slice AL xs.length cL] 26 (0, 0)) := by
      rw [hw]
      exact blk_put (blk_put (blk_put (blk_put H6.out 0 _ rfl) 1 _ rfl) 2 _ rfl) 3 _ rfl
    have hb9 : Below w0.heap.size w0 w9 := by
      rw [hw]
      exact (((HBB.out.setCell (p := ⟨g6, 0, none⟩) HG.out _).setCell (p := ⟨g6, 1, none⟩) HG.out _).setCell (p := ⟨g6, 2, none⟩) HG.out _).setCell (p := ⟨g6, 3, none⟩) HG.out _
    refine ⟨by simp, .inl ⟨Dd, _, rfl, run_takeDeferred hKD, ?_⟩⟩
    refine ⟨_, results_ct rfl _ _ g6 26 #[.int .i64 a0, .int .i64 h, .int .i64 a2, .slice AL xs.length cL] (0, 0) _ rfl ((World.putObj_heap_other hne.symm).trans h69) Tryd.underlying26 rfl (by kernel_rfl), ?_⟩
    obtain rfl := HW.out
    refine ⟨_, rfl, s_cells hS9 (fun k cs t fr hc => World.putObj_heap_other (fun e => by rw [e, hKD] at hc; cases hc)), hb9.grown (grownBy_putObj' _ _ _) hb9.size (fun k e => by cases e; exact HDD.out)⟩
theorem lgI_le (n : Int) : lgI n ≤ 18 := by
  unfold lgI
  repeat' split
  all_goals omega
theorem lgI_big (n : Int) (h : 262144 < n) : lgI n = -1 := by
  refine lgI_none n fun k hk e => ?_
  have hq : 2 ^ k ≤ 2 ^ 18 := Nat.pow_le_pow_right (by decide) (by omega)
  omega
theorem shl_nonneg : ∀ j : Fin 19, 0 ≤ shl .i64 1 ((j : Nat) : Int) := by decide +kernel
theorem riseL_len (f top : Int) (ht : 0 ≤ top) : ∀ k l xs, riseL f top k l = some xs → xs.length ≤ l.length + 1
  | 0, l, xs, h => by simp [riseL] at h
  | k + 1, l, xs, h => by
    simp only [riseL] at h
    by_cases h1 : top < (l.length : Int)
    · rw [if_pos h1] at h
      obtain ⟨u, hu, h⟩ := Option.bind_eq_some_iff.mp h
      obtain ⟨r, hr, h⟩ := Option.bind_eq_some_iff.mp h
      obtain rfl := Option.some.inj h
      have e1 := upL_len f l.length l u (Nat.le_refl _) hu
      have e2 := riseL_len f top ht k u r hr
      simp only [List.length_cons]
      omega
    · rw [if_neg h1] at h
      obtain rfl := Option.some.inj h
      simp
theorem tree_Build.calls (k : Nat) (a0 : Int) (A1 : Option Addr) (c1 : Nat) (l1 : List (S36)) (a2 : Int) (r1 : Int) (r2 : Int) (r3 : Int) (r4 : List (List (S36))) (r5 : Int) (w : World) (hr1 : Kd.C k36 w A1 l1.length l1) (hc1 : l1.length ≤ c1) (hrG : GL w) (h : tree_Build.f k a0 l1 a2 = some (r1, r2, r3, r4, r5)) :
    Calls Tryd.prog 13 #[.int .i64 a0, .slice A1 l1.length c1, .int .i64 a2] w fun e w' => ∃ v3_ : Value, e = .returned (.tuple #[.agg #[.int .i64 r1, .int .i64 r2, .int .i64 r3, v3_], .int .i64 r5]) ∧ Kd.S (Kd.slice 36 k36) 22 w' w.heap.size (fun _ => True) v3_ r4 ∧ Below w.heap.size w w' := by
  have bad : ∀ {q : Int}, some ((0 : Int), (0 : Int), (0 : Int), ([] : List (List S36)), q) = some (r1, r2, r3, r4, r5) → (Calls Tryd.prog 13 #[.int .i64 a0, .slice A1 l1.length c1, .int .i64 a2] w fun e w' => e = .returned (.tuple #[.agg #[.int .i64 0, .int .i64 0, .int .i64 0, .slice none 0 0], .int .i64 q]) ∧ Below w.heap.size w w') → Calls Tryd.prog 13 #[.int .i64 a0, .slice A1 l1.length c1, .int .i64 a2] w fun e w' => ∃ v3_ : Value, e = .returned (.tuple #[.agg #[.int .i64 r1, .int .i64 r2, .int .i64 r3, v3_], .int .i64 r5]) ∧ Kd.S (Kd.slice 36 k36) 22 w' w.heap.size (fun _ => True) v3_ r4 ∧ Below w.heap.size w w' := by
    intro q e c
    simp only [Option.some.injEq, Prod.mk.injEq] at e
    obtain ⟨rfl, rfl, rfl, rfl, rfl⟩ := e
    refine c.mono ?_
    rintro e w' ⟨rfl, hb⟩
    exact ⟨_, rfl, Kd.S_nil _ _ _ _ _, hb⟩
  unfold tree_Build.f at h
  obtain ⟨hh, ah, h⟩ := Option.bind_eq_some_iff.mp h
  obtain ⟨v, av, h⟩ := Option.bind_eq_some_iff.mp h
  cases v with
  | false =>
    rw [if_neg (by decide)] at h
    exact bad h (build_v a0 a2 hh A1 c1 l1 w hr1 hc1 hrG ah av)
  | true =>
    rw [if_pos rfl] at h
    by_cases e0 : hh < 0
    · rw [if_pos e0] at h
      exact bad h (build_h a0 a2 hh A1 c1 l1 w hr1 hc1 hrG ah av (decide_eq_true e0))
    · rw [if_neg e0] at h
      by_cases e1 : a2 < 0
      · rw [if_pos e1] at h
        exact bad h (build_c a0 a2 hh A1 c1 l1 w hr1 hc1 hrG ah av (decide_eq_false e0) (decide_eq_true e1))
      · rw [if_neg e1] at h
        by_cases e2 : hh < a2
        · rw [if_pos e2] at h
          exact bad h (build_k a0 a2 hh A1 c1 l1 w hr1 hc1 hrG ah av (decide_eq_false e0) (decide_eq_false e1) (decide_eq_true e2))
        · rw [if_neg e2] at h
          obtain ⟨p, ap, h⟩ := Option.bind_eq_some_iff.mp h
          cases p with
          | false =>
            rw [if_neg (by decide)] at h
            exact bad h (build_p a0 a2 hh A1 c1 l1 w hr1 hc1 hrG ah av (decide_eq_false e0) (decide_eq_false e1) (decide_eq_false e2) ap)
          | true =>
            rw [if_pos rfl] at h
            obtain ⟨ls, hl, h⟩ := Option.bind_eq_some_iff.mp h
            simp only [Option.some.injEq, Prod.mk.injEq] at h
            obtain ⟨rfl, rfl, rfl, rfl, rfl⟩ := h
            have eh := Option.some.inj ah
            have hle : (l1.length : Int) ≤ 262144 := by
              rcases Int.lt_or_le 262144 (l1.length : Int) with hg | hg
              · rw [if_neg (by omega), lgI_big _ hg] at eh; omega
              · exact hg
            have h18 : hh ≤ 18 := by
              have := lgI_le (l1.length : Int)
              by_cases h1 : (l1.length : Int) < 1
              · rw [if_pos h1] at eh; omega
              · rw [if_neg h1] at eh; omega
            have ht0 : 0 ≤ shl .i64 1 a2 := by
              have := shl_nonneg ⟨a2.toNat, by omega⟩
              rwa [show (((⟨a2.toNat, by omega⟩ : Fin 19) : Nat) : Int) = a2 by simp; omega] at this
            have hxl := riseL_len _ _ ht0 k l1 ls hl
            exact build_ok k a0 a2 hh A1 c1 l1 w hr1 hc1 hrG ah av (decide_eq_false e0) (decide_eq_false e1) (decide_eq_false e2) ap (by omega) _ rfl ht0 ls hl (by omega)
end Go.Proofs.YtpnpmeogffodgaaDoor.Q
end
section
namespace Go.Proofs.YtpnpmeogffodgaaDoor.Q
open Go.RowKit Go.Proofs.YtpnpmeogffodgaaDoorW.PrintWords Go.Proofs.YtpnpmeogffodgaaDoorW.PrintLast Go.Proofs.YtpnpmeogffodgaaDoorW.PrintMore
attribute [local go_sem] max2_int min2_int max_two min_two max_three min_three max_four min_four run_store_fnV run_store_fnc run_store_nfn   -- for this text's walks alone
set_option linter.unusedVariables false
set_option linter.unusedSimpArgs false

/-! ### attestorlaw07_lives: function 21 -/
def attestorlaw07_lives.f (k : Nat)  : Option (Bool) := (tree_Build.f k 0 (([(⟨0, 0⟩ : S36), (⟨0, 0⟩ : S36)] : List (S36))) 0).bind fun bt198 => ((tree_Path.f k bt198.1 bt198.2.1 bt198.2.2.1 bt198.2.2.2.1 1).bind fun bt206 => (if bt198.2.2.2.2 = 0 then (if bt206.2 = 0 then (if bt198.2.1 = 1 then ((tree_Cap.f k bt198.1 bt198.2.1 bt198.2.2.1 bt198.2.2.2.1).bind fun t210 => ((attestorref07_Equal.f k t210 (([(⟨19, 58⟩ : S36)] : List (S36)))).bind fun t216 => (if t216 = true then ((attestorref07_Equal.f k bt206.1 (([(⟨0, 0⟩ : S36)] : List (S36)))).bind fun t220 => (if t220 = true then ((tree_Check.f 0 (([(⟨19, 58⟩ : S36)] : List (S36))) 1 0 0 bt206.1).bind fun t224 => (some t224)) else (some false))) else (some false)))) else (some false)) else (some false)) else (some false)))
theorem attestorlaw07_lives.mono : ∀ k, LeO (attestorlaw07_lives.f k ) (attestorlaw07_lives.f (k + 1) ) := by
  intro  k
  unfold attestorlaw07_lives.f
  repeat' first
      | (with_reducible exact attestorref07_Equal.mono _ _ _)
      | (with_reducible exact tree_Build.mono _ _ _ _)
      | (with_reducible exact tree_Cap.mono _ _ _ _ _)
      | (with_reducible exact tree_Path.mono _ _ _ _ _ _)
      | (with_reducible exact LeO.refl _)
      | (with_reducible exact LeO.none _)
      | (with_reducible refine LeO.ite ?_ ?_)
      | (with_reducible refine LeO.bind ?_ (fun _ => ?_))
      | exact attestorref07_Equal.mono _ _ _
      | exact tree_Build.mono _ _ _ _
      | exact tree_Cap.mono _ _ _ _ _
      | exact tree_Path.mono _ _ _ _ _ _
      | exact LeO.none _
      | refine LeO.ite ?_ ?_
      | refine LeO.bind ?_ (fun _ => ?_)
set_option maxHeartbeats 8000000 in
set_option maxRecDepth 100000 in
theorem attestorlaw07_lives.calls (k : Nat)  (r : Bool) (w : World) (hrG : GL w) (h : attestorlaw07_lives.f k  = some r) :
  Calls Tryd.prog 21 #[] w fun e w' => e = .returned (.bool r) ∧ Below w.heap.size w w' := by
 have hu36 := Tryd.underlying36
 have hu26 := Tryd.underlying26
 have HRG := Aside0.mk hrG
 clear hrG
 have HB := Aside0.mk (Below.refl w.heap.size w)
 have H : ((tree_Build.f k 0 (([(⟨0, 0⟩ : S36), (⟨0, 0⟩ : S36)] : List (S36))) 0).bind fun bt198 => ((tree_Path.f k bt198.1 bt198.2.1 bt198.2.2.1 bt198.2.2.2.1 1).bind fun bt206 => (if bt198.2.2.2.2 = 0 then (if bt206.2 = 0 then (if bt198.2.1 = 1 then ((tree_Cap.f k bt198.1 bt198.2.1 bt198.2.2.1 bt198.2.2.2.1).bind fun t210 => ((attestorref07_Equal.f k t210 (([(⟨19, 58⟩ : S36)] : List (S36)))).bind fun t216 => (if t216 = true then ((attestorref07_Equal.f k bt206.1 (([(⟨0, 0⟩ : S36)] : List (S36)))).bind fun t220 => (if t220 = true then ((tree_Check.f 0 (([(⟨19, 58⟩ : S36)] : List (S36))) 1 0 0 bt206.1).bind fun t224 => (some t224)) else (some false))) else (some false)))) else (some false)) else (some false)) else (some false)))) = some r := h
 clear h
 obtain ⟨y195, hy195⟩ : ∃ y_ : List (S36), y_ = (([(⟨0, 0⟩ : S36), (⟨0, 0⟩ : S36)] : List (S36))) := ⟨_, rfl⟩
 replace H : ((tree_Build.f k 0 y195 0).bind fun bt198 => ((tree_Path.f k bt198.1 bt198.2.1 bt198.2.2.1 bt198.2.2.2.1 1).bind fun bt206 => (if bt198.2.2.2.2 = 0 then (if bt206.2 = 0 then (if bt198.2.1 = 1 then ((tree_Cap.f k bt198.1 bt198.2.1 bt198.2.2.1 bt198.2.2.2.1).bind fun t210 => ((attestorref07_Equal.f k t210 (([(⟨19, 58⟩ : S36)] : List (S36)))).bind fun t216 => (if t216 = true then ((attestorref07_Equal.f k bt206.1 (([(⟨0, 0⟩ : S36)] : List (S36)))).bind fun t220 => (if t220 = true then ((tree_Check.f 0 (([(⟨19, 58⟩ : S36)] : List (S36))) 1 0 0 bt206.1).bind fun t224 => (some t224)) else (some false))) else (some false)))) else (some false)) else (some false)) else (some false)))) = some r := by first | (rw [hy195]; with_reducible exact H) | (have H2_ := (Option.bind_some _ _).symm.trans H; rw [hy195]; with_reducible exact H2_) | (have H2_ := (Option.bind_some _ _).symm.trans H; with_reducible exact H2_) | with_reducible exact H | (rw [hy195]; exact H) | exact H
 have Ny195 := Aside0.mk hy195
 clear hy195
 replace H := Option.bind_eq_some_iff.mp H
 obtain ⟨⟨t198, t199, t200, t201, t204⟩, A10, H⟩ := H
 replace H : ((tree_Path.f k t198 t199 t200 t201 1).bind fun bt206 => (if t204 = 0 then (if bt206.2 = 0 then (if t199 = 1 then ((tree_Cap.f k t198 t199 t200 t201).bind fun t210 => ((attestorref07_Equal.f k t210 (([(⟨19, 58⟩ : S36)] : List (S36)))).bind fun t216 => (if t216 = true then ((attestorref07_Equal.f k bt206.1 (([(⟨0, 0⟩ : S36)] : List (S36)))).bind fun t220 => (if t220 = true then ((tree_Check.f 0 (([(⟨19, 58⟩ : S36)] : List (S36))) 1 0 0 bt206.1).bind fun t224 => (some t224)) else (some false))) else (some false)))) else (some false)) else (some false)) else (some false))) = some r := H
 have A1 := Aside0.mk A10
 clear A10
 replace H := Option.bind_eq_some_iff.mp H
 obtain ⟨⟨t206, t209⟩, A20, H⟩ := H
 replace H : (if t204 = 0 then (if t209 = 0 then (if t199 = 1 then ((tree_Cap.f k t198 t199 t200 t201).bind fun t210 => ((attestorref07_Equal.f k t210 (([(⟨19, 58⟩ : S36)] : List (S36)))).bind fun t216 => (if t216 = true then ((attestorref07_Equal.f k t206 (([(⟨0, 0⟩ : S36)] : List (S36)))).bind fun t220 => (if t220 = true then ((tree_Check.f 0 (([(⟨19, 58⟩ : S36)] : List (S36))) 1 0 0 t206).bind fun t224 => (some t224)) else (some false))) else (some false)))) else (some false)) else (some false)) else (some false)) = some r := H
 have A2 := Aside0.mk A20
 clear A20
 by_cases c3 : t204 = 0
 ·rw [if_pos c3] at H
  have c3b0 : (t204 == 0) = true := beq_iff_eq.mpr c3
  have c3b1 : (t204 != 0) = false := bne_eq_false_iff_eq.mpr c3
  clear c3
  by_cases c4 : t209 = 0
  ·rw [if_pos c4] at H
   have c4b0 : (t209 == 0) = true := beq_iff_eq.mpr c4
   have c4b1 : (t209 != 0) = false := bne_eq_false_iff_eq.mpr c4
   clear c4
   by_cases c5 : t199 = 1
   ·rw [if_pos c5] at H
    have c5b0 : (t199 == 1) = true := beq_iff_eq.mpr c5
    have c5b1 : (t199 != 1) = false := bne_eq_false_iff_eq.mpr c5
    clear c5
    replace H := Option.bind_eq_some_iff.mp H
    obtain ⟨t210, A60, H⟩ := H
    have A6 := Aside0.mk A60
    clear A60
    obtain ⟨y213, hy213⟩ : ∃ y_ : List (S36), y_ = (([(⟨19, 58⟩ : S36)] : List (S36))) := ⟨_, rfl⟩
    replace H : ((attestorref07_Equal.f k t210 y213).bind fun t216 => (if t216 = true then ((attestorref07_Equal.f k t206 (([(⟨0, 0⟩ : S36)] : List (S36)))).bind fun t220 => (if t220 = true then ((tree_Check.f 0 (([(⟨19, 58⟩ : S36)] : List (S36))) 1 0 0 t206).bind fun t224 => (some t224)) else (some false))) else (some false))) = some r := by first | (rw [hy213]; with_reducible exact H) | (have H2_ := (Option.bind_some _ _).symm.trans H; rw [hy213]; with_reducible exact H2_) | (have H2_ := (Option.bind_some _ _).symm.trans H; with_reducible exact H2_) | with_reducible exact H | (rw [hy213]; exact H) | exact H
    have Ny213 := Aside0.mk hy213
    clear hy213
    replace H := Option.bind_eq_some_iff.mp H
    obtain ⟨t216, A70, H⟩ := H
    have A7 := Aside0.mk A70
    clear A70
    by_cases c8 : t216 = true
    ·subst c8
     have H1 : ((attestorref07_Equal.f k t206 (([(⟨0, 0⟩ : S36)] : List (S36)))).bind fun t220 => (if t220 = true then ((tree_Check.f 0 (([(⟨19, 58⟩ : S36)] : List (S36))) 1 0 0 t206).bind fun t224 => (some t224)) else (some false))) = some r := by rw [if_pos rfl] at H; exact H
     clear H
     have H := H1
     clear H1
     obtain ⟨y217, hy217⟩ : ∃ y_ : List (S36), y_ = (([(⟨0, 0⟩ : S36)] : List (S36))) := ⟨_, rfl⟩
     replace H : ((attestorref07_Equal.f k t206 y217).bind fun t220 => (if t220 = true then ((tree_Check.f 0 (([(⟨19, 58⟩ : S36)] : List (S36))) 1 0 0 t206).bind fun t224 => (some t224)) else (some false))) = some r := by first | (rw [hy217]; with_reducible exact H) | (have H2_ := (Option.bind_some _ _).symm.trans H; rw [hy217]; with_reducible exact H2_) | (have H2_ := (Option.bind_some _ _).symm.trans H; with_reducible exact H2_) | with_reducible exact H | (rw [hy217]; exact H) | exact H
     have Ny217 := Aside0.mk hy217
     clear hy217
     replace H := Option.bind_eq_some_iff.mp H
     obtain ⟨t220, A90, H⟩ := H
     have A9 := Aside0.mk A90
     clear A90
     by_cases c10 : t220 = true
     ·subst c10
      have H1 : ((tree_Check.f 0 (([(⟨19, 58⟩ : S36)] : List (S36))) 1 0 0 t206).bind fun t224 => (some t224)) = some r := by rw [if_pos rfl] at H; exact H
      clear H
      have H := H1
      clear H1
      obtain ⟨y221, hy221⟩ : ∃ y_ : List (S36), y_ = (([(⟨19, 58⟩ : S36)] : List (S36))) := ⟨_, rfl⟩
      replace H : ((tree_Check.f 0 y221 1 0 0 t206).bind fun t224 => (some t224)) = some r := by first | (rw [hy221]; with_reducible exact H) | (have H2_ := (Option.bind_some _ _).symm.trans H; rw [hy221]; with_reducible exact H2_) | (have H2_ := (Option.bind_some _ _).symm.trans H; with_reducible exact H2_) | with_reducible exact H | (rw [hy221]; exact H) | exact H
      have Ny221 := Aside0.mk hy221
      clear hy221
      replace H := Option.bind_eq_some_iff.mp H
      obtain ⟨t224, A110, H⟩ := H
      have A11 := Aside0.mk A110
      clear A110
      obtain rfl := Option.some.inj H
      go_enter Tryd.func21, Tryd.ntmps21
      go_wp2_with (first | ((with_reducible refine gate_dst (N := 1) rfl ?_); (try (refine gate_guard (by rfl) ?_; dsimp only)); refine box_event ?hg (N := 1) ?hd (cs := #[.int .u64 0, .int .u64 0]) (t := 36) ?hr ?_; (case hd => rfl); (case hg => rfl); (case hr => first | (go_simp; done) | (go_simp; rfl)); intro g194 hg w12 hbox hb; have n0_ := Aside0.mk (below_step (by repeat (first | (with_reducible first | exact HB.out | apply below_alloc | apply pw_below_drewN | apply below_drew1) | exact HB.out)) hb); have n1_ := Aside0.mk (hbox); have n2_ := Aside0.mk ((by rw [hg]; exact (below_size (by repeat (first | (with_reducible first | exact HB.out | apply below_alloc | apply pw_below_drewN | apply below_drew1) | exact HB.out))) : w.heap.size ≤ g194)); have n3_ := Aside0.mk ((by rw [hg]; exact (below_size (by repeat (first | (with_reducible first | exact HB.out | apply below_alloc | apply pw_below_drewN | apply below_drew1) | exact HB.out))) : w.heap.size ≤ g194)); clear HB; have HB := n0_; have B194 := n1_; have GW194 := n2_; have GE194 := n3_; clear n0_ n1_ n2_ n3_; clear hb hbox hg; have hcz13_0 : w12.cell? ⟨g194, 0, none⟩ = some (.int .u64 0) := bq_ B194 0; have hcz13_1 : w12.cell? ⟨g194, 1, none⟩ = some (.int .u64 0) := bq_ B194 1; have hfz13_0 := blk_frozen B194.out 0; have hfz13_1 := blk_frozen B194.out 1) | ((with_reducible refine gate_dst (N := 9) rfl ?_); (try (refine gate_guard (by rfl) ?_; dsimp only)); refine Kd.R_lit k36 _ 36 ?hg (N := 9) ?hd (xs := ([(⟨0, 0⟩ : S36), (⟨0, 0⟩ : S36)] : List (S36))) (inner := [.int .u64 0, .int .u64 0, .int .u64 0, .int .u64 0]) (ok := fun _ => True) (okp := fun _ => True) ?hr ?hp (fun _ hk => hk) trivial (Below.refl _ _) (Nat.le_refl _) (by simp) ?_; (case hd => rfl); (case hg => rfl); (case hr => first | (go_simp; done) | (go_simp; rfl)); (case hp => exact (Reps.c2 (show Kd.M k36 _ _ _ (⟨0, 0⟩ : S36) [.int .u64 0, .int .u64 0] from (k36_mkM _ _ _ (⟨0, 0⟩ : S36) )) (Reps.c2 (show Kd.M k36 _ _ _ (⟨0, 0⟩ : S36) [.int .u64 0, .int .u64 0] from (k36_mkM _ _ _ (⟨0, 0⟩ : S36) )) (Reps.none _ _)))); intro v196 w14 ho15 hb hg_ hnew_; clear hg_ hnew_; (first | rw [← Ny195.out] at ho15 | (simp only [Int.reduceToNat] at ho15; rw [← Ny195.out] at ho15)); have n0_ := Aside0.mk (Kd.R_lower (Kd.R_newB ho15 (g := g194) (o := .cells #[.int .u64 0, .int .u64 0] 36 (0, 0)) (by exact B194.out)) (below_size (by repeat (first | (with_reducible first | exact HB.out | apply below_alloc | apply pw_below_drewN | apply below_drew1 | refine below_set ?_ GE194.out) | exact HB.out)))); have n1_ := Aside0.mk (blk_below (g := g194) (o := .cells #[.int .u64 0, .int .u64 0] 36 (0, 0)) (by exact B194.out) hb); have n2_ := Aside0.mk (below_step (by repeat (first | (with_reducible first | exact HB.out | apply below_alloc | apply pw_below_drewN | apply below_drew1 | refine below_set ?_ GE194.out) | exact HB.out)) hb); clear B194; clear HB; have HO197 := n0_; have B194 := n1_; have HB := n2_; clear n0_ n1_ n2_; clear hb ho15; obtain ⟨Ao16, co16, eo16⟩ := Kd.R_slice HO197.out; subst eo16) | ((with_reducible refine gate_callee (f := 13) rfl ?_); refine goesL_ (some 10) rfl rfl Tryd.func13 (by kernel_rfl) rfl #[.int .i64 0, .slice Ao16 y195.length co16, .int .i64 0] rfl (by (try simp only [List.map_toArray, List.map_cons, List.map_nil]); first | done | rfl | (go_simp; done)) ?_; (with_reducible refine (tree_Build.calls k 0 _ _ y195 0 t198 t199 t200 t201 t204 _ ?side1 ?side2 ?side3 A1.out).mono ?_); (case side1 => repeat (first | exact (Kd.R_reads' HO197.out).2.2 | (with_reducible refine Kd.C_alloc ?_ _) | (with_reducible refine Kd.C_drewN ?_ _) | (with_reducible refine Kd.C_drew ?_))); (case side2 => exact (Kd.R_reads' HO197.out).2.1); (case side3 => repeat (first | exact (GL.below HRG.out HB.out) | (with_reducible refine GL.alloc ?_ _) | (with_reducible refine GL.drewN ?_ _) | (with_reducible refine GL.drew ?_))); rintro e w17 ⟨v202, rfl, ho0, hb⟩; refine ⟨_, rfl, ?_⟩; have n0_ := Aside0.mk (Kd.R_below (by (with_reducible repeat (first | apply Kd.R_alloc | apply Kd.R_drewN | apply Kd.R_drew)); exact HO197.out) hb); have n1_ := Aside0.mk (Kd.S_lower (Kd.S_newB (Kd.S_new' ho0 (Kd.R_lt (by (with_reducible repeat (first | apply Kd.R_alloc | apply Kd.R_drewN | apply Kd.R_drew)); exact HO197.out))) (g := g194) (o := .cells #[.int .u64 0, .int .u64 0] 36 (0, 0)) (by exact B194.out)) (below_size (by repeat (first | (with_reducible first | exact HB.out | apply below_alloc | apply pw_below_drewN | apply below_drew1 | refine below_set ?_ GE194.out) | exact HB.out)))); have n2_ := Aside0.mk (blk_below (g := g194) (o := .cells #[.int .u64 0, .int .u64 0] 36 (0, 0)) (by exact B194.out) hb); have n3_ := Aside0.mk (below_step (by repeat (first | (with_reducible first | exact HB.out | apply below_alloc | apply pw_below_drewN | apply below_drew1 | refine below_set ?_ GE194.out) | exact HB.out)) hb); clear HO197; clear B194; clear HB; have HO197 := n0_; have HO203 := n1_; have B194 := n2_; have HB := n3_; clear n0_ n1_ n2_ n3_; (try clear hb); (try clear hb2); (try clear hk); (try clear hi); (try clear ho0)) | ((with_reducible refine gate_dst (N := 2) rfl ?_); (try (refine gate_guard (by rfl) ?_; dsimp only)); refine box_event ?hg (N := 2) ?hd (cs := #[.int .i64 0, .int .i64 0, .int .i64 0, .slice none 0 0]) (t := 26) ?hr ?_; (case hd => rfl); (case hg => rfl); (case hr => first | (go_simp; done) | (go_simp; rfl)); intro g205 hg w18 hbox hb; have n0_ := Aside0.mk (Kd.R_below (by (with_reducible repeat (first | apply Kd.R_alloc | apply Kd.R_drewN | apply Kd.R_drew)); exact HO197.out) hb); have n1_ := Aside0.mk (Kd.S_below (by (with_reducible repeat (first | apply Kd.S_alloc | apply Kd.S_drewN | apply Kd.S_drew)); exact HO203.out) hb); have n2_ := Aside0.mk (blk_below (g := g194) (o := .cells #[.int .u64 0, .int .u64 0] 36 (0, 0)) (by exact B194.out) hb); have n3_ := Aside0.mk (below_step (by repeat (first | (with_reducible first | exact HB.out | apply below_alloc | apply pw_below_drewN | apply below_drew1 | refine below_set ?_ GE194.out) | exact HB.out)) hb); have n4_ := Aside0.mk (hbox); have n5_ := Aside0.mk ((by rw [hg]; exact (below_size (by repeat (first | (with_reducible first | exact HB.out | apply below_alloc | apply pw_below_drewN | apply below_drew1 | refine below_set ?_ GE194.out) | exact HB.out))) : w.heap.size ≤ g205)); have n6_ := Aside0.mk ((by rw [hg]; exact (below_size (by repeat (first | (with_reducible first | exact HB.out | apply below_alloc | apply pw_below_drewN | apply below_drew1 | refine below_set ?_ GE194.out) | exact HB.out))) : w.heap.size ≤ g205)); have n7_ := Aside0.mk ((by rw [hg]; exact Nat.ne_of_lt (blk_lt (g := g194) (o := .cells #[.int .u64 0, .int .u64 0] 36 (0, 0)) (by exact B194.out)) : g194 ≠ g205)); have n8_ := Aside0.mk ((by rw [hg]; exact Nat.ne_of_gt (blk_lt (g := g194) (o := .cells #[.int .u64 0, .int .u64 0] 36 (0, 0)) (by exact B194.out)) : g205 ≠ g194)); clear HO197; clear HO203; clear B194; clear HB; have HO197 := n0_; have HO203 := n1_; have B194 := n2_; have HB := n3_; have B205 := n4_; have GW205 := n5_; have GE205 := n6_; have NB194_205 := n7_; have NB205_194 := n8_; clear n0_ n1_ n2_ n3_ n4_ n5_ n6_ n7_ n8_; clear hb hbox hg; have hnb19 := NB205_194.out; have hnc19 := NB194_205.out; have hcz20_0 : w18.cell? ⟨g205, 0, none⟩ = some (.int .i64 0) := bq_ B205 0; have hcz20_1 : w18.cell? ⟨g205, 1, none⟩ = some (.int .i64 0) := bq_ B205 1; have hcz20_2 : w18.cell? ⟨g205, 2, none⟩ = some (.int .i64 0) := bq_ B205 2; have hcz20_3 : w18.cell? ⟨g205, 3, none⟩ = some (.slice none 0 0) := bq_ B205 3; have hfz20_0 := blk_frozen B205.out 0; have hfz20_1 := blk_frozen B205.out 1; have hfz20_2 := blk_frozen B205.out 2; have hfz20_3 := blk_frozen B205.out 3; obtain ⟨Ao21, co21, eo21⟩ := Kd.S_slice HO203.out; subst eo21) | ((with_reducible refine gate_callee (f := 23) rfl ?_); refine goesL_ (some 15) rfl rfl Tryd.func23 (by kernel_rfl) rfl #[.agg #[.int .i64 t198, .int .i64 t199, .int .i64 t200, .slice Ao21 t201.length co21], .int .i64 1] rfl (by (try simp only [List.map_toArray, List.map_cons, List.map_nil]); first | done | rfl | (go_simp; done)) ?_; (with_reducible refine (tree_Path.calls k t198 t199 t200 _ _ t201 1 t206 t209 _ ?side1 ?side2 ?side3 A2.out).mono ?_); (case side1 => refine (Kd.S_reads' (e := 22) (base := w.heap.size) (ok := fun k_ => ((True ∧ some k_ ≠ (.slice Ao16 y195.length co16 : Value).ownBlock) ∧ k_ ≠ g194)) (n := t201.length) (c := co21) ?_).2.2; exact (by (with_reducible repeat (first | apply Kd.S_alloc | apply Kd.S_drewN | apply Kd.S_drew)); exact (Kd.S_mono (Kd.S_far (p := ⟨g205, 3, none⟩) (Kd.S_far (p := ⟨g205, 2, none⟩) (Kd.S_far (p := ⟨g205, 1, none⟩) (Kd.S_far (p := ⟨g205, 0, none⟩) (Kd.S_types HO203.out B205.out (by decide)) (fun _ hk => hk.2) (.int .i64 t198)) (fun _ hk => hk.2) (.int .i64 t199)) (fun _ hk => hk.2) (.int .i64 t200)) (fun _ hk => hk.2) (.slice Ao21 t201.length co21)) (fun _ h_ => h_.1)))); (case side2 => exact (Kd.S_reads' HO203.out).2.1); (case side3 => exact GL.below HRG.out (by repeat (first | (with_reducible first | exact HB.out | apply below_alloc | apply pw_below_drewN | apply below_drew1 | refine below_set ?_ GE194.out | refine below_set ?_ GE205.out) | exact HB.out))); rintro e w22 ⟨v207, rfl, ho0, hb⟩; refine ⟨_, rfl, ?_⟩; have n0_ := Aside0.mk (Kd.R_elder' (by (with_reducible repeat (first | apply Kd.R_alloc | apply Kd.R_drewN | apply Kd.R_drew)); exact (Kd.R_mono (Kd.R_far (p := ⟨g205, 3, none⟩) (Kd.R_far (p := ⟨g205, 2, none⟩) (Kd.R_far (p := ⟨g205, 1, none⟩) (Kd.R_far (p := ⟨g205, 0, none⟩) (Kd.R_types HO197.out B205.out (by decide)) (fun _ hk => hk.2) (.int .i64 t198)) (fun _ hk => hk.2) (.int .i64 t199)) (fun _ hk => hk.2) (.int .i64 t200)) (fun _ hk => hk.2) (.slice Ao21 t201.length co21)) (fun _ h_ => h_.1))) (Kd.R_base ho0) hb); have n1_ := Aside0.mk (Kd.S_elder' (by (with_reducible repeat (first | apply Kd.S_alloc | apply Kd.S_drewN | apply Kd.S_drew)); exact (Kd.S_mono (Kd.S_far (p := ⟨g205, 3, none⟩) (Kd.S_far (p := ⟨g205, 2, none⟩) (Kd.S_far (p := ⟨g205, 1, none⟩) (Kd.S_far (p := ⟨g205, 0, none⟩) (Kd.S_types HO203.out B205.out (by decide)) (fun _ hk => hk.2) (.int .i64 t198)) (fun _ hk => hk.2) (.int .i64 t199)) (fun _ hk => hk.2) (.int .i64 t200)) (fun _ hk => hk.2) (.slice Ao21 t201.length co21)) (fun _ h_ => h_.1))) (Kd.R_base ho0) hb); have n2_ := Aside0.mk (Kd.R_lower (Kd.R_newB (Kd.R_new' ho0 (Kd.R_lt (by (with_reducible repeat (first | apply Kd.R_alloc | apply Kd.R_drewN | apply Kd.R_drew)); exact (Kd.R_mono (Kd.R_far (p := ⟨g205, 3, none⟩) (Kd.R_far (p := ⟨g205, 2, none⟩) (Kd.R_far (p := ⟨g205, 1, none⟩) (Kd.R_far (p := ⟨g205, 0, none⟩) (Kd.R_types HO197.out B205.out (by decide)) (fun _ hk => hk.2) (.int .i64 t198)) (fun _ hk => hk.2) (.int .i64 t199)) (fun _ hk => hk.2) (.int .i64 t200)) (fun _ hk => hk.2) (.slice Ao21 t201.length co21)) (fun _ h_ => h_.1))))) (g := g194) (o := .cells #[.int .u64 0, .int .u64 0] 36 (0, 0)) (by refine blk_far ?_ NB194_205.out _; refine blk_far ?_ NB194_205.out _; refine blk_far ?_ NB194_205.out _; refine blk_far ?_ NB194_205.out _; exact B194.out)) (below_size (by repeat (first | (with_reducible first | exact HB.out | apply below_alloc | apply pw_below_drewN | apply below_drew1 | refine below_set ?_ GE194.out | refine below_set ?_ GE205.out) | exact HB.out)))); have n3_ := Aside0.mk (blk_below (g := g194) (o := .cells #[.int .u64 0, .int .u64 0] 36 (0, 0)) (by refine blk_far ?_ NB194_205.out _; refine blk_far ?_ NB194_205.out _; refine blk_far ?_ NB194_205.out _; refine blk_far ?_ NB194_205.out _; exact B194.out) hb); have n4_ := Aside0.mk (blk_below (g := g205) (o := .cells #[.int .i64 t198, .int .i64 t199, .int .i64 t200, .slice Ao21 t201.length co21] 26 (0, 0)) (by refine blk_put (cs := #[.int .i64 t198, .int .i64 t199, .int .i64 t200, .slice none 0 0]) ?_ 3 _ rfl; refine blk_put (cs := #[.int .i64 t198, .int .i64 t199, .int .i64 0, .slice none 0 0]) ?_ 2 _ rfl; refine blk_put (cs := #[.int .i64 t198, .int .i64 0, .int .i64 0, .slice none 0 0]) ?_ 1 _ rfl; refine blk_put (cs := #[.int .i64 0, .int .i64 0, .int .i64 0, .slice none 0 0]) ?_ 0 _ rfl; exact B205.out) hb); have n5_ := Aside0.mk (below_step (by repeat (first | (with_reducible first | exact HB.out | apply below_alloc | apply pw_below_drewN | apply below_drew1 | refine below_set ?_ GE194.out | refine below_set ?_ GE205.out) | exact HB.out)) hb); clear HO197; clear HO203; clear B194; clear B205; clear HB; have HO197 := n0_; have HO203 := n1_; have HO208 := n2_; have B194 := n3_; have B205 := n4_; have HB := n5_; clear n0_ n1_ n2_ n3_ n4_ n5_; (try clear hb); (try clear hb2); (try clear hk); (try clear hi); (try clear ho0); have hcz23_0 : w22.cell? ⟨g205, 0, none⟩ = some (.int .i64 t198) := bq_ B205 0; have hcz23_1 : w22.cell? ⟨g205, 1, none⟩ = some (.int .i64 t199) := bq_ B205 1; have hcz23_2 : w22.cell? ⟨g205, 2, none⟩ = some (.int .i64 t200) := bq_ B205 2; have hcz23_3 : w22.cell? ⟨g205, 3, none⟩ = some (.slice Ao21 t201.length co21) := bq_ B205 3; have hfz23_0 := blk_frozen B205.out 0; have hfz23_1 := blk_frozen B205.out 1; have hfz23_2 := blk_frozen B205.out 2; have hfz23_3 := blk_frozen B205.out 3) | (go_at_call 19; (with_reducible refine (tree_Cap.calls k t198 t199 t200 _ _ t201 t210 _ ?side1 ?side2 ?side3 A6.out).mono ?_); (case side1 => repeat (first | exact (Kd.S_reads' HO203.out).2.2 | (with_reducible refine Kd.C_alloc ?_ _) | (with_reducible refine Kd.C_drewN ?_ _) | (with_reducible refine Kd.C_drew ?_))); (case side2 => exact (Kd.S_reads' HO203.out).2.1); (case side3 => repeat (first | exact (GL.below HRG.out HB.out) | (with_reducible refine GL.alloc ?_ _) | (with_reducible refine GL.drewN ?_ _) | (with_reducible refine GL.drew ?_))); rintro e w24 ⟨v211, rfl, ho0, hb⟩; have n0_ := Aside0.mk (Kd.R_elder' (by (with_reducible repeat (first | apply Kd.R_alloc | apply Kd.R_drewN | apply Kd.R_drew)); exact HO197.out) (Kd.R_base ho0) hb); have n1_ := Aside0.mk (Kd.S_elder' (by (with_reducible repeat (first | apply Kd.S_alloc | apply Kd.S_drewN | apply Kd.S_drew)); exact HO203.out) (Kd.R_base ho0) hb); have n2_ := Aside0.mk (Kd.R_elder' (by (with_reducible repeat (first | apply Kd.R_alloc | apply Kd.R_drewN | apply Kd.R_drew)); exact HO208.out) (Kd.R_base ho0) hb); have n3_ := Aside0.mk (Kd.R_lower (Kd.R_newB (Kd.R_new' (Kd.R_new' ho0 (Kd.R_lt (by (with_reducible repeat (first | apply Kd.R_alloc | apply Kd.R_drewN | apply Kd.R_drew)); exact HO197.out))) (Kd.R_lt (by (with_reducible repeat (first | apply Kd.R_alloc | apply Kd.R_drewN | apply Kd.R_drew)); exact HO208.out))) (g := g194) (o := .cells #[.int .u64 0, .int .u64 0] 36 (0, 0)) (by exact B194.out)) (below_size (by repeat (first | (with_reducible first | exact HB.out | apply below_alloc | apply pw_below_drewN | apply below_drew1 | refine below_set ?_ GE194.out | refine below_set ?_ GE205.out) | exact HB.out)))); have n4_ := Aside0.mk (blk_below (g := g194) (o := .cells #[.int .u64 0, .int .u64 0] 36 (0, 0)) (by exact B194.out) hb); have n5_ := Aside0.mk (blk_below (g := g205) (o := .cells #[.int .i64 t198, .int .i64 t199, .int .i64 t200, .slice Ao21 t201.length co21] 26 (0, 0)) (by exact B205.out) hb); have n6_ := Aside0.mk (below_step (by repeat (first | (with_reducible first | exact HB.out | apply below_alloc | apply pw_below_drewN | apply below_drew1 | refine below_set ?_ GE194.out | refine below_set ?_ GE205.out) | exact HB.out)) hb); clear HO197; clear HO203; clear HO208; clear B194; clear B205; clear HB; have HO197 := n0_; have HO203 := n1_; have HO208 := n2_; have HO212 := n3_; have B194 := n4_; have B205 := n5_; have HB := n6_; clear n0_ n1_ n2_ n3_ n4_ n5_ n6_; (try clear hb); (try clear hb2); (try clear hk); (try clear hi); (try clear ho0)) | ((with_reducible refine gate_dst (N := 33) rfl ?_); (try (refine gate_guard (by rfl) ?_; dsimp only)); refine Kd.R_lit k36 _ 36 ?hg (N := 33) ?hd (xs := ([(⟨19, 58⟩ : S36)] : List (S36))) (inner := [.int .u64 19, .int .u64 58]) (ok := fun _ => True) (okp := fun _ => True) ?hr ?hp (fun _ hk => hk) trivial (Below.refl _ _) (Nat.le_refl _) (by simp) ?_; (case hd => rfl); (case hg => rfl); (case hr => first | (go_simp; done) | (go_simp; rfl)); (case hp => exact (Reps.c2 (show Kd.M k36 _ _ _ (⟨19, 58⟩ : S36) [.int .u64 19, .int .u64 58] from (k36_mkM _ _ _ (⟨19, 58⟩ : S36) )) (Reps.none _ _))); intro v214 w25 ho26 hb hg_ hnew_; clear hg_ hnew_; (first | rw [← Ny213.out] at ho26 | (simp only [Int.reduceToNat] at ho26; rw [← Ny213.out] at ho26)); have n0_ := Aside0.mk (Kd.R_elder' (by (with_reducible repeat (first | apply Kd.R_alloc | apply Kd.R_drewN | apply Kd.R_drew)); exact HO197.out) (Kd.R_base ho26) hb); have n1_ := Aside0.mk (Kd.S_elder' (by (with_reducible repeat (first | apply Kd.S_alloc | apply Kd.S_drewN | apply Kd.S_drew)); exact HO203.out) (Kd.R_base ho26) hb); have n2_ := Aside0.mk (Kd.R_elder' (by (with_reducible repeat (first | apply Kd.R_alloc | apply Kd.R_drewN | apply Kd.R_drew)); exact HO208.out) (Kd.R_base ho26) hb); have n3_ := Aside0.mk (Kd.R_elder' (by (with_reducible repeat (first | apply Kd.R_alloc | apply Kd.R_drewN | apply Kd.R_drew)); exact HO212.out) (Kd.R_base ho26) hb); have n4_ := Aside0.mk (Kd.R_lower (Kd.R_newB (Kd.R_new' (Kd.R_new' (Kd.R_new' ho26 (Kd.R_lt (by (with_reducible repeat (first | apply Kd.R_alloc | apply Kd.R_drewN | apply Kd.R_drew)); exact HO197.out))) (Kd.R_lt (by (with_reducible repeat (first | apply Kd.R_alloc | apply Kd.R_drewN | apply Kd.R_drew)); exact HO208.out))) (Kd.R_lt (by (with_reducible repeat (first | apply Kd.R_alloc | apply Kd.R_drewN | apply Kd.R_drew)); exact HO212.out))) (g := g194) (o := .cells #[.int .u64 0, .int .u64 0] 36 (0, 0)) (by exact B194.out)) (below_size (by repeat (first | (with_reducible first | exact HB.out | apply below_alloc | apply pw_below_drewN | apply below_drew1 | refine below_set ?_ GE194.out | refine below_set ?_ GE205.out) | exact HB.out)))); have n5_ := Aside0.mk (blk_below (g := g194) (o := .cells #[.int .u64 0, .int .u64 0] 36 (0, 0)) (by exact B194.out) hb); have n6_ := Aside0.mk (blk_below (g := g205) (o := .cells #[.int .i64 t198, .int .i64 t199, .int .i64 t200, .slice Ao21 t201.length co21] 26 (0, 0)) (by exact B205.out) hb); have n7_ := Aside0.mk (below_step (by repeat (first | (with_reducible first | exact HB.out | apply below_alloc | apply pw_below_drewN | apply below_drew1 | refine below_set ?_ GE194.out | refine below_set ?_ GE205.out) | exact HB.out)) hb); clear HO197; clear HO203; clear HO208; clear HO212; clear B194; clear B205; clear HB; have HO197 := n0_; have HO203 := n1_; have HO208 := n2_; have HO212 := n3_; have HO215 := n4_; have B194 := n5_; have B205 := n6_; have HB := n7_; clear n0_ n1_ n2_ n3_ n4_ n5_ n6_ n7_; clear hb ho26; obtain ⟨Ao27, co27, eo27⟩ := Kd.R_slice HO212.out; subst eo27; obtain ⟨Ao28, co28, eo28⟩ := Kd.R_slice HO215.out; subst eo28) | (go_at_call 18; (with_reducible refine (attestorref07_Equal.calls k _ _ t210 _ _ y213 true _ ?side1 ?side2 ?side3 ?side4 A7.out).mono ?_); (case side1 => repeat (first | exact (Kd.R_reads' HO212.out).2.2 | (with_reducible refine Kd.C_alloc ?_ _) | (with_reducible refine Kd.C_drewN ?_ _) | (with_reducible refine Kd.C_drew ?_))); (case side2 => exact (Kd.R_reads' HO212.out).2.1); (case side3 => repeat (first | exact (Kd.R_reads' HO215.out).2.2 | (with_reducible refine Kd.C_alloc ?_ _) | (with_reducible refine Kd.C_drewN ?_ _) | (with_reducible refine Kd.C_drew ?_))); (case side4 => exact (Kd.R_reads' HO215.out).2.1); rintro e w' ⟨rfl, ⟨nd, rfl⟩⟩; have hcz29_0 : w25.cell? ⟨g194, 0, none⟩ = some (.int .u64 0) := bq_ B194 0; have hcz29_1 : w25.cell? ⟨g194, 1, none⟩ = some (.int .u64 0) := bq_ B194 1; have hfz29_0 := blk_frozen B194.out 0; have hfz29_1 := blk_frozen B194.out 1) | ((with_reducible refine gate_dst (N := 39) rfl ?_); (try (refine gate_guard (by rfl) ?_; dsimp only)); refine Kd.R_lit k36 _ 36 ?hg (N := 39) ?hd (xs := ([(⟨0, 0⟩ : S36)] : List (S36))) (inner := [.int .u64 0, .int .u64 0]) (ok := fun _ => True) (okp := fun _ => True) ?hr ?hp (fun _ hk => hk) trivial (Below.refl _ _) (Nat.le_refl _) (by simp) ?_; (case hd => rfl); (case hg => rfl); (case hr => first | (go_simp; done) | (go_simp; rfl)); (case hp => exact (Reps.c2 (show Kd.M k36 _ _ _ (⟨0, 0⟩ : S36) [.int .u64 0, .int .u64 0] from (k36_mkM _ _ _ (⟨0, 0⟩ : S36) )) (Reps.none _ _))); intro v218 w30 ho31 hb hg_ hnew_; clear hg_ hnew_; (first | rw [← Ny217.out] at ho31 | (simp only [Int.reduceToNat] at ho31; rw [← Ny217.out] at ho31)); have n0_ := Aside0.mk (Kd.R_elder' (by (with_reducible repeat (first | apply Kd.R_alloc | apply Kd.R_drewN | apply Kd.R_drew)); exact HO197.out) (Kd.R_base ho31) hb); have n1_ := Aside0.mk (Kd.S_elder' (by (with_reducible repeat (first | apply Kd.S_alloc | apply Kd.S_drewN | apply Kd.S_drew)); exact HO203.out) (Kd.R_base ho31) hb); have n2_ := Aside0.mk (Kd.R_elder' (by (with_reducible repeat (first | apply Kd.R_alloc | apply Kd.R_drewN | apply Kd.R_drew)); exact HO208.out) (Kd.R_base ho31) hb); have n3_ := Aside0.mk (Kd.R_elder' (by (with_reducible repeat (first | apply Kd.R_alloc | apply Kd.R_drewN | apply Kd.R_drew)); exact HO212.out) (Kd.R_base ho31) hb); have n4_ := Aside0.mk (Kd.R_elder' (by (with_reducible repeat (first | apply Kd.R_alloc | apply Kd.R_drewN | apply Kd.R_drew)); exact HO215.out) (Kd.R_base ho31) hb); have n5_ := Aside0.mk (Kd.R_lower (Kd.R_newB (Kd.R_new' (Kd.R_new' (Kd.R_new' (Kd.R_new' ho31 (Kd.R_lt (by (with_reducible repeat (first | apply Kd.R_alloc | apply Kd.R_drewN | apply Kd.R_drew)); exact HO197.out))) (Kd.R_lt (by (with_reducible repeat (first | apply Kd.R_alloc | apply Kd.R_drewN | apply Kd.R_drew)); exact HO208.out))) (Kd.R_lt (by (with_reducible repeat (first | apply Kd.R_alloc | apply Kd.R_drewN | apply Kd.R_drew)); exact HO212.out))) (Kd.R_lt (by (with_reducible repeat (first | apply Kd.R_alloc | apply Kd.R_drewN | apply Kd.R_drew)); exact HO215.out))) (g := g194) (o := .cells #[.int .u64 0, .int .u64 0] 36 (0, 0)) (by exact B194.out)) (below_size (by repeat (first | (with_reducible first | exact HB.out | apply below_alloc | apply pw_below_drewN | apply below_drew1 | refine below_set ?_ GE194.out | refine below_set ?_ GE205.out) | exact HB.out)))); have n6_ := Aside0.mk (blk_below (g := g194) (o := .cells #[.int .u64 0, .int .u64 0] 36 (0, 0)) (by exact B194.out) hb); have n7_ := Aside0.mk (blk_below (g := g205) (o := .cells #[.int .i64 t198, .int .i64 t199, .int .i64 t200, .slice Ao21 t201.length co21] 26 (0, 0)) (by exact B205.out) hb); have n8_ := Aside0.mk (below_step (by repeat (first | (with_reducible first | exact HB.out | apply below_alloc | apply pw_below_drewN | apply below_drew1 | refine below_set ?_ GE194.out | refine below_set ?_ GE205.out) | exact HB.out)) hb); clear HO197; clear HO203; clear HO208; clear HO212; clear HO215; clear B194; clear B205; clear HB; have HO197 := n0_; have HO203 := n1_; have HO208 := n2_; have HO212 := n3_; have HO215 := n4_; have HO219 := n5_; have B194 := n6_; have B205 := n7_; have HB := n8_; clear n0_ n1_ n2_ n3_ n4_ n5_ n6_ n7_ n8_; clear hb ho31; obtain ⟨Ao32, co32, eo32⟩ := Kd.R_slice HO208.out; subst eo32; obtain ⟨Ao33, co33, eo33⟩ := Kd.R_slice HO219.out; subst eo33) | (go_at_call 18; (with_reducible refine (attestorref07_Equal.calls k _ _ t206 _ _ y217 true _ ?side1 ?side2 ?side3 ?side4 A9.out).mono ?_); (case side1 => repeat (first | exact (Kd.R_reads' HO208.out).2.2 | (with_reducible refine Kd.C_alloc ?_ _) | (with_reducible refine Kd.C_drewN ?_ _) | (with_reducible refine Kd.C_drew ?_))); (case side2 => exact (Kd.R_reads' HO208.out).2.1); (case side3 => repeat (first | exact (Kd.R_reads' HO219.out).2.2 | (with_reducible refine Kd.C_alloc ?_ _) | (with_reducible refine Kd.C_drewN ?_ _) | (with_reducible refine Kd.C_drew ?_))); (case side4 => exact (Kd.R_reads' HO219.out).2.1); rintro e w' ⟨rfl, ⟨nd, rfl⟩⟩) | ((with_reducible refine gate_dst (N := 44) rfl ?_); (try (refine gate_guard (by rfl) ?_; dsimp only)); refine Kd.R_lit k36 _ 36 ?hg (N := 44) ?hd (xs := ([(⟨19, 58⟩ : S36)] : List (S36))) (inner := [.int .u64 19, .int .u64 58]) (ok := fun _ => True) (okp := fun _ => True) ?hr ?hp (fun _ hk => hk) trivial (Below.refl _ _) (Nat.le_refl _) (by simp) ?_; (case hd => rfl); (case hg => rfl); (case hr => first | (go_simp; done) | (go_simp; rfl)); (case hp => exact (Reps.c2 (show Kd.M k36 _ _ _ (⟨19, 58⟩ : S36) [.int .u64 19, .int .u64 58] from (k36_mkM _ _ _ (⟨19, 58⟩ : S36) )) (Reps.none _ _))); intro v222 w34 ho35 hb hg_ hnew_; clear hg_ hnew_; (first | rw [← Ny221.out] at ho35 | (simp only [Int.reduceToNat] at ho35; rw [← Ny221.out] at ho35)); have n0_ := Aside0.mk (Kd.R_elder' (by (with_reducible repeat (first | apply Kd.R_alloc | apply Kd.R_drewN | apply Kd.R_drew)); exact HO197.out) (Kd.R_base ho35) hb); have n1_ := Aside0.mk (Kd.S_elder' (by (with_reducible repeat (first | apply Kd.S_alloc | apply Kd.S_drewN | apply Kd.S_drew)); exact HO203.out) (Kd.R_base ho35) hb); have n2_ := Aside0.mk (Kd.R_elder' (by (with_reducible repeat (first | apply Kd.R_alloc | apply Kd.R_drewN | apply Kd.R_drew)); exact HO208.out) (Kd.R_base ho35) hb); have n3_ := Aside0.mk (Kd.R_elder' (by (with_reducible repeat (first | apply Kd.R_alloc | apply Kd.R_drewN | apply Kd.R_drew)); exact HO212.out) (Kd.R_base ho35) hb); have n4_ := Aside0.mk (Kd.R_elder' (by (with_reducible repeat (first | apply Kd.R_alloc | apply Kd.R_drewN | apply Kd.R_drew)); exact HO215.out) (Kd.R_base ho35) hb); have n5_ := Aside0.mk (Kd.R_elder' (by (with_reducible repeat (first | apply Kd.R_alloc | apply Kd.R_drewN | apply Kd.R_drew)); exact HO219.out) (Kd.R_base ho35) hb); have n6_ := Aside0.mk (Kd.R_lower (Kd.R_newB (Kd.R_new' (Kd.R_new' (Kd.R_new' (Kd.R_new' (Kd.R_new' ho35 (Kd.R_lt (by (with_reducible repeat (first | apply Kd.R_alloc | apply Kd.R_drewN | apply Kd.R_drew)); exact HO197.out))) (Kd.R_lt (by (with_reducible repeat (first | apply Kd.R_alloc | apply Kd.R_drewN | apply Kd.R_drew)); exact HO208.out))) (Kd.R_lt (by (with_reducible repeat (first | apply Kd.R_alloc | apply Kd.R_drewN | apply Kd.R_drew)); exact HO212.out))) (Kd.R_lt (by (with_reducible repeat (first | apply Kd.R_alloc | apply Kd.R_drewN | apply Kd.R_drew)); exact HO215.out))) (Kd.R_lt (by (with_reducible repeat (first | apply Kd.R_alloc | apply Kd.R_drewN | apply Kd.R_drew)); exact HO219.out))) (g := g194) (o := .cells #[.int .u64 0, .int .u64 0] 36 (0, 0)) (by exact B194.out)) (below_size (by repeat (first | (with_reducible first | exact HB.out | apply below_alloc | apply pw_below_drewN | apply below_drew1 | refine below_set ?_ GE194.out | refine below_set ?_ GE205.out) | exact HB.out)))); have n7_ := Aside0.mk (blk_below (g := g194) (o := .cells #[.int .u64 0, .int .u64 0] 36 (0, 0)) (by exact B194.out) hb); have n8_ := Aside0.mk (blk_below (g := g205) (o := .cells #[.int .i64 t198, .int .i64 t199, .int .i64 t200, .slice Ao21 t201.length co21] 26 (0, 0)) (by exact B205.out) hb); have n9_ := Aside0.mk (below_step (by repeat (first | (with_reducible first | exact HB.out | apply below_alloc | apply pw_below_drewN | apply below_drew1 | refine below_set ?_ GE194.out | refine below_set ?_ GE205.out) | exact HB.out)) hb); clear HO197; clear HO203; clear HO208; clear HO212; clear HO215; clear HO219; clear B194; clear B205; clear HB; have HO197 := n0_; have HO203 := n1_; have HO208 := n2_; have HO212 := n3_; have HO215 := n4_; have HO219 := n5_; have HO223 := n6_; have B194 := n7_; have B205 := n8_; have HB := n9_; clear n0_ n1_ n2_ n3_ n4_ n5_ n6_ n7_ n8_ n9_; clear hb ho35; have hcz36_0 : w34.cell? ⟨g194, 0, none⟩ = some (.int .u64 0) := bq_ B194 0; have hcz36_1 : w34.cell? ⟨g194, 1, none⟩ = some (.int .u64 0) := bq_ B194 1; have hfz36_0 := blk_frozen B194.out 0; have hfz36_1 := blk_frozen B194.out 1; obtain ⟨Ao37, co37, eo37⟩ := Kd.R_slice HO223.out; subst eo37) | (go_at_call 26; (with_reducible refine (tree_Check.calls 0 _ _ y221 1 0 0 _ _ t206 t224 _ ?side1 ?side2 ?side3 ?side4 ?side5 A11.out).mono ?_); (case side1 => repeat (first | exact (Kd.R_reads' HO223.out).2.2 | (with_reducible refine Kd.C_alloc ?_ _) | (with_reducible refine Kd.C_drewN ?_ _) | (with_reducible refine Kd.C_drew ?_))); (case side2 => exact (Kd.R_reads' HO223.out).2.1); (case side3 => repeat (first | exact (Kd.R_reads' HO208.out).2.2 | (with_reducible refine Kd.C_alloc ?_ _) | (with_reducible refine Kd.C_drewN ?_ _) | (with_reducible refine Kd.C_drew ?_))); (case side4 => exact (Kd.R_reads' HO208.out).2.1); (case side5 => repeat (first | exact (GL.below HRG.out HB.out) | (with_reducible refine GL.alloc ?_ _) | (with_reducible refine GL.drewN ?_ _) | (with_reducible refine GL.drew ?_))); rintro e w38 ⟨rfl, hb⟩; have n0_ := Aside0.mk (Kd.R_below (by (with_reducible repeat (first | apply Kd.R_alloc | apply Kd.R_drewN | apply Kd.R_drew)); exact HO197.out) hb); have n1_ := Aside0.mk (Kd.S_below (by (with_reducible repeat (first | apply Kd.S_alloc | apply Kd.S_drewN | apply Kd.S_drew)); exact HO203.out) hb); have n2_ := Aside0.mk (Kd.R_below (by (with_reducible repeat (first | apply Kd.R_alloc | apply Kd.R_drewN | apply Kd.R_drew)); exact HO208.out) hb); have n3_ := Aside0.mk (Kd.R_below (by (with_reducible repeat (first | apply Kd.R_alloc | apply Kd.R_drewN | apply Kd.R_drew)); exact HO212.out) hb); have n4_ := Aside0.mk (Kd.R_below (by (with_reducible repeat (first | apply Kd.R_alloc | apply Kd.R_drewN | apply Kd.R_drew)); exact HO215.out) hb); have n5_ := Aside0.mk (Kd.R_below (by (with_reducible repeat (first | apply Kd.R_alloc | apply Kd.R_drewN | apply Kd.R_drew)); exact HO219.out) hb); have n6_ := Aside0.mk (Kd.R_below (by (with_reducible repeat (first | apply Kd.R_alloc | apply Kd.R_drewN | apply Kd.R_drew)); exact HO223.out) hb); have n7_ := Aside0.mk (blk_below (g := g194) (o := .cells #[.int .u64 0, .int .u64 0] 36 (0, 0)) (by exact B194.out) hb); have n8_ := Aside0.mk (blk_below (g := g205) (o := .cells #[.int .i64 t198, .int .i64 t199, .int .i64 t200, .slice Ao21 t201.length co21] 26 (0, 0)) (by exact B205.out) hb); have n9_ := Aside0.mk (below_step (by repeat (first | (with_reducible first | exact HB.out | apply below_alloc | apply pw_below_drewN | apply below_drew1 | refine below_set ?_ GE194.out | refine below_set ?_ GE205.out) | exact HB.out)) hb); clear HO197; clear HO203; clear HO208; clear HO212; clear HO215; clear HO219; clear HO223; clear B194; clear B205; clear HB; have HO197 := n0_; have HO203 := n1_; have HO208 := n2_; have HO212 := n3_; have HO215 := n4_; have HO219 := n5_; have HO223 := n6_; have B194 := n7_; have B205 := n8_; have HB := n9_; clear n0_ n1_ n2_ n3_ n4_ n5_ n6_ n7_ n8_ n9_; (try clear hb); (try clear hb2); (try clear hk); (try clear hi)))
      go_ret
      exact ⟨by first | rfl | (simp [errW_none, errW_some] <;> rfl) | (simp [*, errW_none, errW_some] <;> rfl), by repeat (first | (with_reducible first | exact HB.out | apply below_alloc | apply pw_below_drewN | apply below_drew1 | refine below_set ?_ GE194.out | refine below_set ?_ GE205.out) | exact HB.out)⟩
     ·replace c10 := Bool.eq_false_iff.mpr c10
      subst c10
      have H1 : (some false) = some r := by rw [if_neg (show ¬ (false = true) by decide)] at H; exact H
      clear H
      have H := H1
      clear H1
      obtain rfl := Option.some.inj H
      go_enter Tryd.func21, Tryd.ntmps21
      go_wp2_with (first | ((with_reducible refine gate_dst (N := 1) rfl ?_); (try (refine gate_guard (by rfl) ?_; dsimp only)); refine box_event ?hg (N := 1) ?hd (cs := #[.int .u64 0, .int .u64 0]) (t := 36) ?hr ?_; (case hd => rfl); (case hg => rfl); (case hr => first | (go_simp; done) | (go_simp; rfl)); intro g194 hg w39 hbox hb; have n0_ := Aside0.mk (below_step (by repeat (first | (with_reducible first | exact HB.out | apply below_alloc | apply pw_below_drewN | apply below_drew1) | exact HB.out)) hb); have n1_ := Aside0.mk (hbox); have n2_ := Aside0.mk ((by rw [hg]; exact (below_size (by repeat (first | (with_reducible first | exact HB.out | apply below_alloc | apply pw_below_drewN | apply below_drew1) | exact HB.out))) : w.heap.size ≤ g194)); have n3_ := Aside0.mk ((by rw [hg]; exact (below_size (by repeat (first | (with_reducible first | exact HB.out | apply below_alloc | apply pw_below_drewN | apply below_drew1) | exact HB.out))) : w.heap.size ≤ g194)); clear HB; have HB := n0_; have B194 := n1_; have GW194 := n2_; have GE194 := n3_; clear n0_ n1_ n2_ n3_; clear hb hbox hg; have hcz40_0 : w39.cell? ⟨g194, 0, none⟩ = some (.int .u64 0) := bq_ B194 0; have hcz40_1 : w39.cell? ⟨g194, 1, none⟩ = some (.int .u64 0) := bq_ B194 1; have hfz40_0 := blk_frozen B194.out 0; have hfz40_1 := blk_frozen B194.out 1) | ((with_reducible refine gate_dst (N := 9) rfl ?_); (try (refine gate_guard (by rfl) ?_; dsimp only)); refine Kd.R_lit k36 _ 36 ?hg (N := 9) ?hd (xs := ([(⟨0, 0⟩ : S36), (⟨0, 0⟩ : S36)] : List (S36))) (inner := [.int .u64 0, .int .u64 0, .int .u64 0, .int .u64 0]) (ok := fun _ => True) (okp := fun _ => True) ?hr ?hp (fun _ hk => hk) trivial (Below.refl _ _) (Nat.le_refl _) (by simp) ?_; (case hd => rfl); (case hg => rfl); (case hr => first | (go_simp; done) | (go_simp; rfl)); (case hp => exact (Reps.c2 (show Kd.M k36 _ _ _ (⟨0, 0⟩ : S36) [.int .u64 0, .int .u64 0] from (k36_mkM _ _ _ (⟨0, 0⟩ : S36) )) (Reps.c2 (show Kd.M k36 _ _ _ (⟨0, 0⟩ : S36) [.int .u64 0, .int .u64 0] from (k36_mkM _ _ _ (⟨0, 0⟩ : S36) )) (Reps.none _ _)))); intro v196 w41 ho42 hb hg_ hnew_; clear hg_ hnew_; (first | rw [← Ny195.out] at ho42 | (simp only [Int.reduceToNat] at ho42; rw [← Ny195.out] at ho42)); have n0_ := Aside0.mk (Kd.R_lower (Kd.R_newB ho42 (g := g194) (o := .cells #[.int .u64 0, .int .u64 0] 36 (0, 0)) (by exact B194.out)) (below_size (by repeat (first | (with_reducible first | exact HB.out | apply below_alloc | apply pw_below_drewN | apply below_drew1 | refine below_set ?_ GE194.out) | exact HB.out)))); have n1_ := Aside0.mk (blk_below (g := g194) (o := .cells #[.int .u64 0, .int .u64 0] 36 (0, 0)) (by exact B194.out) hb); have n2_ := Aside0.mk (below_step (by repeat (first | (with_reducible first | exact HB.out | apply below_alloc | apply pw_below_drewN | apply below_drew1 | refine below_set ?_ GE194.out) | exact HB.out)) hb); clear B194; clear HB; have HO197 := n0_; have B194 := n1_; have HB := n2_; clear n0_ n1_ n2_; clear hb ho42; obtain ⟨Ao43, co43, eo43⟩ := Kd.R_slice HO197.out; subst eo43) | ((with_reducible refine gate_callee (f := 13) rfl ?_); refine goesL_ (some 10) rfl rfl Tryd.func13 (by kernel_rfl) rfl #[.int .i64 0, .slice Ao43 y195.length co43, .int .i64 0] rfl (by (try simp only [List.map_toArray, List.map_cons, List.map_nil]); first | done | rfl | (go_simp; done)) ?_; (with_reducible refine (tree_Build.calls k 0 _ _ y195 0 t198 t199 t200 t201 t204 _ ?side1 ?side2 ?side3 A1.out).mono ?_); (case side1 => repeat (first | exact (Kd.R_reads' HO197.out).2.2 | (with_reducible refine Kd.C_alloc ?_ _) | (with_reducible refine Kd.C_drewN ?_ _) | (with_reducible refine Kd.C_drew ?_))); (case side2 => exact (Kd.R_reads' HO197.out).2.1); (case side3 => repeat (first | exact (GL.below HRG.out HB.out) | (with_reducible refine GL.alloc ?_ _) | (with_reducible refine GL.drewN ?_ _) | (with_reducible refine GL.drew ?_))); rintro e w44 ⟨v202, rfl, ho0, hb⟩; refine ⟨_, rfl, ?_⟩; have n0_ := Aside0.mk (Kd.R_below (by (with_reducible repeat (first | apply Kd.R_alloc | apply Kd.R_drewN | apply Kd.R_drew)); exact HO197.out) hb); have n1_ := Aside0.mk (Kd.S_lower (Kd.S_newB (Kd.S_new' ho0 (Kd.R_lt (by (with_reducible repeat (first | apply Kd.R_alloc | apply Kd.R_drewN | apply Kd.R_drew)); exact HO197.out))) (g := g194) (o := .cells #[.int .u64 0, .int .u64 0] 36 (0, 0)) (by exact B194.out)) (below_size (by repeat (first | (with_reducible first | exact HB.out | apply below_alloc | apply pw_below_drewN | apply below_drew1 | refine below_set ?_ GE194.out) | exact HB.out)))); have n2_ := Aside0.mk (blk_below (g := g194) (o := .cells #[.int .u64 0, .int .u64 0] 36 (0, 0)) (by exact B194.out) hb); have n3_ := Aside0.mk (below_step (by repeat (first | (with_reducible first | exact HB.out | apply below_alloc | apply pw_below_drewN | apply below_drew1 | refine below_set ?_ GE194.out) | exact HB.out)) hb); clear HO197; clear B194; clear HB; have HO197 := n0_; have HO203 := n1_; have B194 := n2_; have HB := n3_; clear n0_ n1_ n2_ n3_; (try clear hb); (try clear hb2); (try clear hk); (try clear hi); (try clear ho0)) | ((with_reducible refine gate_dst (N := 2) rfl ?_); (try (refine gate_guard (by rfl) ?_; dsimp only)); refine box_event ?hg (N := 2) ?hd (cs := #[.int .i64 0, .int .i64 0, .int .i64 0, .slice none 0 0]) (t := 26) ?hr ?_; (case hd => rfl); (case hg => rfl); (case hr => first | (go_simp; done) | (go_simp; rfl)); intro g205 hg w45 hbox hb; have n0_ := Aside0.mk (Kd.R_below (by (with_reducible repeat (first | apply Kd.R_alloc | apply Kd.R_drewN | apply Kd.R_drew)); exact HO197.out) hb); have n1_ := Aside0.mk (Kd.S_below (by (with_reducible repeat (first | apply Kd.S_alloc | apply Kd.S_drewN | apply Kd.S_drew)); exact HO203.out) hb); have n2_ := Aside0.mk (blk_below (g := g194) (o := .cells #[.int .u64 0, .int .u64 0] 36 (0, 0)) (by exact B194.out) hb); have n3_ := Aside0.mk (below_step (by repeat (first | (with_reducible first | exact HB.out | apply below_alloc | apply pw_below_drewN | apply below_drew1 | refine below_set ?_ GE194.out) | exact HB.out)) hb); have n4_ := Aside0.mk (hbox); have n5_ := Aside0.mk ((by rw [hg]; exact (below_size (by repeat (first | (with_reducible first | exact HB.out | apply below_alloc | apply pw_below_drewN | apply below_drew1 | refine below_set ?_ GE194.out) | exact HB.out))) : w.heap.size ≤ g205)); have n6_ := Aside0.mk ((by rw [hg]; exact (below_size (by repeat (first | (with_reducible first | exact HB.out | apply below_alloc | apply pw_below_drewN | apply below_drew1 | refine below_set ?_ GE194.out) | exact HB.out))) : w.heap.size ≤ g205)); have n7_ := Aside0.mk ((by rw [hg]; exact Nat.ne_of_lt (blk_lt (g := g194) (o := .cells #[.int .u64 0, .int .u64 0] 36 (0, 0)) (by exact B194.out)) : g194 ≠ g205)); have n8_ := Aside0.mk ((by rw [hg]; exact Nat.ne_of_gt (blk_lt (g := g194) (o := .cells #[.int .u64 0, .int .u64 0] 36 (0, 0)) (by exact B194.out)) : g205 ≠ g194)); clear HO197; clear HO203; clear B194; clear HB; have HO197 := n0_; have HO203 := n1_; have B194 := n2_; have HB := n3_; have B205 := n4_; have GW205 := n5_; have GE205 := n6_; have NB194_205 := n7_; have NB205_194 := n8_; clear n0_ n1_ n2_ n3_ n4_ n5_ n6_ n7_ n8_; clear hb hbox hg; have hnb46 := NB205_194.out; have hnc46 := NB194_205.out; have hcz47_0 : w45.cell? ⟨g205, 0, none⟩ = some (.int .i64 0) := bq_ B205 0; have hcz47_1 : w45.cell? ⟨g205, 1, none⟩ = some (.int .i64 0) := bq_ B205 1; have hcz47_2 : w45.cell? ⟨g205, 2, none⟩ = some (.int .i64 0) := bq_ B205 2; have hcz47_3 : w45.cell? ⟨g205, 3, none⟩ = some (.slice none 0 0) := bq_ B205 3; have hfz47_0 := blk_frozen B205.out 0; have hfz47_1 := blk_frozen B205.out 1; have hfz47_2 := blk_frozen B205.out 2; have hfz47_3 := blk_frozen B205.out 3; obtain ⟨Ao48, co48, eo48⟩ := Kd.S_slice HO203.out; subst eo48) | ((with_reducible refine gate_callee (f := 23) rfl ?_); refine goesL_ (some 15) rfl rfl Tryd.func23 (by kernel_rfl) rfl #[.agg #[.int .i64 t198, .int .i64 t199, .int .i64 t200, .slice Ao48 t201.length co48], .int .i64 1] rfl (by (try simp only [List.map_toArray, List.map_cons, List.map_nil]); first | done | rfl | (go_simp; done)) ?_; (with_reducible refine (tree_Path.calls k t198 t199 t200 _ _ t201 1 t206 t209 _ ?side1 ?side2 ?side3 A2.out).mono ?_); (case side1 => refine (Kd.S_reads' (e := 22) (base := w.heap.size) (ok := fun k_ => ((True ∧ some k_ ≠ (.slice Ao43 y195.length co43 : Value).ownBlock) ∧ k_ ≠ g194)) (n := t201.length) (c := co48) ?_).2.2; exact (by (with_reducible repeat (first | apply Kd.S_alloc | apply Kd.S_drewN | apply Kd.S_drew)); exact (Kd.S_mono (Kd.S_far (p := ⟨g205, 3, none⟩) (Kd.S_far (p := ⟨g205, 2, none⟩) (Kd.S_far (p := ⟨g205, 1, none⟩) (Kd.S_far (p := ⟨g205, 0, none⟩) (Kd.S_types HO203.out B205.out (by decide)) (fun _ hk => hk.2) (.int .i64 t198)) (fun _ hk => hk.2) (.int .i64 t199)) (fun _ hk => hk.2) (.int .i64 t200)) (fun _ hk => hk.2) (.slice Ao48 t201.length co48)) (fun _ h_ => h_.1)))); (case side2 => exact (Kd.S_reads' HO203.out).2.1); (case side3 => exact GL.below HRG.out (by repeat (first | (with_reducible first | exact HB.out | apply below_alloc | apply pw_below_drewN | apply below_drew1 | refine below_set ?_ GE194.out | refine below_set ?_ GE205.out) | exact HB.out))); rintro e w49 ⟨v207, rfl, ho0, hb⟩; refine ⟨_, rfl, ?_⟩; have n0_ := Aside0.mk (Kd.R_elder' (by (with_reducible repeat (first | apply Kd.R_alloc | apply Kd.R_drewN | apply Kd.R_drew)); exact (Kd.R_mono (Kd.R_far (p := ⟨g205, 3, none⟩) (Kd.R_far (p := ⟨g205, 2, none⟩) (Kd.R_far (p := ⟨g205, 1, none⟩) (Kd.R_far (p := ⟨g205, 0, none⟩) (Kd.R_types HO197.out B205.out (by decide)) (fun _ hk => hk.2) (.int .i64 t198)) (fun _ hk => hk.2) (.int .i64 t199)) (fun _ hk => hk.2) (.int .i64 t200)) (fun _ hk => hk.2) (.slice Ao48 t201.length co48)) (fun _ h_ => h_.1))) (Kd.R_base ho0) hb); have n1_ := Aside0.mk (Kd.S_elder' (by (with_reducible repeat (first | apply Kd.S_alloc | apply Kd.S_drewN | apply Kd.S_drew)); exact (Kd.S_mono (Kd.S_far (p := ⟨g205, 3, none⟩) (Kd.S_far (p := ⟨g205, 2, none⟩) (Kd.S_far (p := ⟨g205, 1, none⟩) (Kd.S_far (p := ⟨g205, 0, none⟩) (Kd.S_types HO203.out B205.out (by decide)) (fun _ hk => hk.2) (.int .i64 t198)) (fun _ hk => hk.2) (.int .i64 t199)) (fun _ hk => hk.2) (.int .i64 t200)) (fun _ hk => hk.2) (.slice Ao48 t201.length co48)) (fun _ h_ => h_.1))) (Kd.R_base ho0) hb); have n2_ := Aside0.mk (Kd.R_lower (Kd.R_newB (Kd.R_new' ho0 (Kd.R_lt (by (with_reducible repeat (first | apply Kd.R_alloc | apply Kd.R_drewN | apply Kd.R_drew)); exact (Kd.R_mono (Kd.R_far (p := ⟨g205, 3, none⟩) (Kd.R_far (p := ⟨g205, 2, none⟩) (Kd.R_far (p := ⟨g205, 1, none⟩) (Kd.R_far (p := ⟨g205, 0, none⟩) (Kd.R_types HO197.out B205.out (by decide)) (fun _ hk => hk.2) (.int .i64 t198)) (fun _ hk => hk.2) (.int .i64 t199)) (fun _ hk => hk.2) (.int .i64 t200)) (fun _ hk => hk.2) (.slice Ao48 t201.length co48)) (fun _ h_ => h_.1))))) (g := g194) (o := .cells #[.int .u64 0, .int .u64 0] 36 (0, 0)) (by refine blk_far ?_ NB194_205.out _; refine blk_far ?_ NB194_205.out _; refine blk_far ?_ NB194_205.out _; refine blk_far ?_ NB194_205.out _; exact B194.out)) (below_size (by repeat (first | (with_reducible first | exact HB.out | apply below_alloc | apply pw_below_drewN | apply below_drew1 | refine below_set ?_ GE194.out | refine below_set ?_ GE205.out) | exact HB.out)))); have n3_ := Aside0.mk (blk_below (g := g194) (o := .cells #[.int .u64 0, .int .u64 0] 36 (0, 0)) (by refine blk_far ?_ NB194_205.out _; refine blk_far ?_ NB194_205.out _; refine blk_far ?_ NB194_205.out _; refine blk_far ?_ NB194_205.out _; exact B194.out) hb); have n4_ := Aside0.mk (blk_below (g := g205) (o := .cells #[.int .i64 t198, .int .i64 t199, .int .i64 t200, .slice Ao48 t201.length co48] 26 (0, 0)) (by refine blk_put (cs := #[.int .i64 t198, .int .i64 t199, .int .i64 t200, .slice none 0 0]) ?_ 3 _ rfl; refine blk_put (cs := #[.int .i64 t198, .int .i64 t199, .int .i64 0, .slice none 0 0]) ?_ 2 _ rfl; refine blk_put (cs := #[.int .i64 t198, .int .i64 0, .int .i64 0, .slice none 0 0]) ?_ 1 _ rfl; refine blk_put (cs := #[.int .i64 0, .int .i64 0, .int .i64 0, .slice none 0 0]) ?_ 0 _ rfl; exact B205.out) hb); have n5_ := Aside0.mk (below_step (by repeat (first | (with_reducible first | exact HB.out | apply below_alloc | apply pw_below_drewN | apply below_drew1 | refine below_set ?_ GE194.out | refine below_set ?_ GE205.out) | exact HB.out)) hb); clear HO197; clear HO203; clear B194; clear B205; clear HB; have HO197 := n0_; have HO203 := n1_; have HO208 := n2_; have B194 := n3_; have B205 := n4_; have HB := n5_; clear n0_ n1_ n2_ n3_ n4_ n5_; (try clear hb); (try clear hb2); (try clear hk); (try clear hi); (try clear ho0); have hcz50_0 : w49.cell? ⟨g205, 0, none⟩ = some (.int .i64 t198) := bq_ B205 0; have hcz50_1 : w49.cell? ⟨g205, 1, none⟩ = some (.int .i64 t199) := bq_ B205 1; have hcz50_2 : w49.cell? ⟨g205, 2, none⟩ = some (.int .i64 t200) := bq_ B205 2; have hcz50_3 : w49.cell? ⟨g205, 3, none⟩ = some (.slice Ao48 t201.length co48) := bq_ B205 3; have hfz50_0 := blk_frozen B205.out 0; have hfz50_1 := blk_frozen B205.out 1; have hfz50_2 := blk_frozen B205.out 2; have hfz50_3 := blk_frozen B205.out 3) | (go_at_call 19; (with_reducible refine (tree_Cap.calls k t198 t199 t200 _ _ t201 t210 _ ?side1 ?side2 ?side3 A6.out).mono ?_); (case side1 => repeat (first | exact (Kd.S_reads' HO203.out).2.2 | (with_reducible refine Kd.C_alloc ?_ _) | (with_reducible refine Kd.C_drewN ?_ _) | (with_reducible refine Kd.C_drew ?_))); (case side2 => exact (Kd.S_reads' HO203.out).2.1); (case side3 => repeat (first | exact (GL.below HRG.out HB.out) | (with_reducible refine GL.alloc ?_ _) | (with_reducible refine GL.drewN ?_ _) | (with_reducible refine GL.drew ?_))); rintro e w51 ⟨v211, rfl, ho0, hb⟩; have n0_ := Aside0.mk (Kd.R_elder' (by (with_reducible repeat (first | apply Kd.R_alloc | apply Kd.R_drewN | apply Kd.R_drew)); exact HO197.out) (Kd.R_base ho0) hb); have n1_ := Aside0.mk (Kd.S_elder' (by (with_reducible repeat (first | apply Kd.S_alloc | apply Kd.S_drewN | apply Kd.S_drew)); exact HO203.out) (Kd.R_base ho0) hb); have n2_ := Aside0.mk (Kd.R_elder' (by (with_reducible repeat (first | apply Kd.R_alloc | apply Kd.R_drewN | apply Kd.R_drew)); exact HO208.out) (Kd.R_base ho0) hb); have n3_ := Aside0.mk (Kd.R_lower (Kd.R_newB (Kd.R_new' (Kd.R_new' ho0 (Kd.R_lt (by (with_reducible repeat (first | apply Kd.R_alloc | apply Kd.R_drewN | apply Kd.R_drew)); exact HO197.out))) (Kd.R_lt (by (with_reducible repeat (first | apply Kd.R_alloc | apply Kd.R_drewN | apply Kd.R_drew)); exact HO208.out))) (g := g194) (o := .cells #[.int .u64 0, .int .u64 0] 36 (0, 0)) (by exact B194.out)) (below_size (by repeat (first | (with_reducible first | exact HB.out | apply below_alloc | apply pw_below_drewN | apply below_drew1 | refine below_set ?_ GE194.out | refine below_set ?_ GE205.out) | exact HB.out)))); have n4_ := Aside0.mk (blk_below (g := g194) (o := .cells #[.int .u64 0, .int .u64 0] 36 (0, 0)) (by exact B194.out) hb); have n5_ := Aside0.mk (blk_below (g := g205) (o := .cells #[.int .i64 t198, .int .i64 t199, .int .i64 t200, .slice Ao48 t201.length co48] 26 (0, 0)) (by exact B205.out) hb); have n6_ := Aside0.mk (below_step (by repeat (first | (with_reducible first | exact HB.out | apply below_alloc | apply pw_below_drewN | apply below_drew1 | refine below_set ?_ GE194.out | refine below_set ?_ GE205.out) | exact HB.out)) hb); clear HO197; clear HO203; clear HO208; clear B194; clear B205; clear HB; have HO197 := n0_; have HO203 := n1_; have HO208 := n2_; have HO212 := n3_; have B194 := n4_; have B205 := n5_; have HB := n6_; clear n0_ n1_ n2_ n3_ n4_ n5_ n6_; (try clear hb); (try clear hb2); (try clear hk); (try clear hi); (try clear ho0)) | ((with_reducible refine gate_dst (N := 33) rfl ?_); (try (refine gate_guard (by rfl) ?_; dsimp only)); refine Kd.R_lit k36 _ 36 ?hg (N := 33) ?hd (xs := ([(⟨19, 58⟩ : S36)] : List (S36))) (inner := [.int .u64 19, .int .u64 58]) (ok := fun _ => True) (okp := fun _ => True) ?hr ?hp (fun _ hk => hk) trivial (Below.refl _ _) (Nat.le_refl _) (by simp) ?_; (case hd => rfl); (case hg => rfl); (case hr => first | (go_simp; done) | (go_simp; rfl)); (case hp => exact (Reps.c2 (show Kd.M k36 _ _ _ (⟨19, 58⟩ : S36) [.int .u64 19, .int .u64 58] from (k36_mkM _ _ _ (⟨19, 58⟩ : S36) )) (Reps.none _ _))); intro v214 w52 ho53 hb hg_ hnew_; clear hg_ hnew_; (first | rw [← Ny213.out] at ho53 | (simp only [Int.reduceToNat] at ho53; rw [← Ny213.out] at ho53)); have n0_ := Aside0.mk (Kd.R_elder' (by (with_reducible repeat (first | apply Kd.R_alloc | apply Kd.R_drewN | apply Kd.R_drew)); exact HO197.out) (Kd.R_base ho53) hb); have n1_ := Aside0.mk (Kd.S_elder' (by (with_reducible repeat (first | apply Kd.S_alloc | apply Kd.S_drewN | apply Kd.S_drew)); exact HO203.out) (Kd.R_base ho53) hb); have n2_ := Aside0.mk (Kd.R_elder' (by (with_reducible repeat (first | apply Kd.R_alloc | apply Kd.R_drewN | apply Kd.R_drew)); exact HO208.out) (Kd.R_base ho53) hb); have n3_ := Aside0.mk (Kd.R_elder' (by (with_reducible repeat (first | apply Kd.R_alloc | apply Kd.R_drewN | apply Kd.R_drew)); exact HO212.out) (Kd.R_base ho53) hb); have n4_ := Aside0.mk (Kd.R_lower (Kd.R_newB (Kd.R_new' (Kd.R_new' (Kd.R_new' ho53 (Kd.R_lt (by (with_reducible repeat (first | apply Kd.R_alloc | apply Kd.R_drewN | apply Kd.R_drew)); exact HO197.out))) (Kd.R_lt (by (with_reducible repeat (first | apply Kd.R_alloc | apply Kd.R_drewN | apply Kd.R_drew)); exact HO208.out))) (Kd.R_lt (by (with_reducible repeat (first | apply Kd.R_alloc | apply Kd.R_drewN | apply Kd.R_drew)); exact HO212.out))) (g := g194) (o := .cells #[.int .u64 0, .int .u64 0] 36 (0, 0)) (by exact B194.out)) (below_size (by repeat (first | (with_reducible first | exact HB.out | apply below_alloc | apply pw_below_drewN | apply below_drew1 | refine below_set ?_ GE194.out | refine below_set ?_ GE205.out) | exact HB.out)))); have n5_ := Aside0.mk (blk_below (g := g194) (o := .cells #[.int .u64 0, .int .u64 0] 36 (0, 0)) (by exact B194.out) hb); have n6_ := Aside0.mk (blk_below (g := g205) (o := .cells #[.int .i64 t198, .int .i64 t199, .int .i64 t200, .slice Ao48 t201.length co48] 26 (0, 0)) (by exact B205.out) hb); have n7_ := Aside0.mk (below_step (by repeat (first | (with_reducible first | exact HB.out | apply below_alloc | apply pw_below_drewN | apply below_drew1 | refine below_set ?_ GE194.out | refine below_set ?_ GE205.out) | exact HB.out)) hb); clear HO197; clear HO203; clear HO208; clear HO212; clear B194; clear B205; clear HB; have HO197 := n0_; have HO203 := n1_; have HO208 := n2_; have HO212 := n3_; have HO215 := n4_; have B194 := n5_; have B205 := n6_; have HB := n7_; clear n0_ n1_ n2_ n3_ n4_ n5_ n6_ n7_; clear hb ho53; obtain ⟨Ao54, co54, eo54⟩ := Kd.R_slice HO212.out; subst eo54; obtain ⟨Ao55, co55, eo55⟩ := Kd.R_slice HO215.out; subst eo55) | (go_at_call 18; (with_reducible refine (attestorref07_Equal.calls k _ _ t210 _ _ y213 true _ ?side1 ?side2 ?side3 ?side4 A7.out).mono ?_); (case side1 => repeat (first | exact (Kd.R_reads' HO212.out).2.2 | (with_reducible refine Kd.C_alloc ?_ _) | (with_reducible refine Kd.C_drewN ?_ _) | (with_reducible refine Kd.C_drew ?_))); (case side2 => exact (Kd.R_reads' HO212.out).2.1); (case side3 => repeat (first | exact (Kd.R_reads' HO215.out).2.2 | (with_reducible refine Kd.C_alloc ?_ _) | (with_reducible refine Kd.C_drewN ?_ _) | (with_reducible refine Kd.C_drew ?_))); (case side4 => exact (Kd.R_reads' HO215.out).2.1); rintro e w' ⟨rfl, ⟨nd, rfl⟩⟩; have hcz56_0 : w52.cell? ⟨g194, 0, none⟩ = some (.int .u64 0) := bq_ B194 0; have hcz56_1 : w52.cell? ⟨g194, 1, none⟩ = some (.int .u64 0) := bq_ B194 1; have hfz56_0 := blk_frozen B194.out 0; have hfz56_1 := blk_frozen B194.out 1) | ((with_reducible refine gate_dst (N := 39) rfl ?_); (try (refine gate_guard (by rfl) ?_; dsimp only)); refine Kd.R_lit k36 _ 36 ?hg (N := 39) ?hd (xs := ([(⟨0, 0⟩ : S36)] : List (S36))) (inner := [.int .u64 0, .int .u64 0]) (ok := fun _ => True) (okp := fun _ => True) ?hr ?hp (fun _ hk => hk) trivial (Below.refl _ _) (Nat.le_refl _) (by simp) ?_; (case hd => rfl); (case hg => rfl); (case hr => first | (go_simp; done) | (go_simp; rfl)); (case hp => exact (Reps.c2 (show Kd.M k36 _ _ _ (⟨0, 0⟩ : S36) [.int .u64 0, .int .u64 0] from (k36_mkM _ _ _ (⟨0, 0⟩ : S36) )) (Reps.none _ _))); intro v218 w57 ho58 hb hg_ hnew_; clear hg_ hnew_; (first | rw [← Ny217.out] at ho58 | (simp only [Int.reduceToNat] at ho58; rw [← Ny217.out] at ho58)); have n0_ := Aside0.mk (Kd.R_elder' (by (with_reducible repeat (first | apply Kd.R_alloc | apply Kd.R_drewN | apply Kd.R_drew)); exact HO197.out) (Kd.R_base ho58) hb); have n1_ := Aside0.mk (Kd.S_elder' (by (with_reducible repeat (first | apply Kd.S_alloc | apply Kd.S_drewN | apply Kd.S_drew)); exact HO203.out) (Kd.R_base ho58) hb); have n2_ := Aside0.mk (Kd.R_elder' (by (with_reducible repeat (first | apply Kd.R_alloc | apply Kd.R_drewN | apply Kd.R_drew)); exact HO208.out) (Kd.R_base ho58) hb); have n3_ := Aside0.mk (Kd.R_elder' (by (with_reducible repeat (first | apply Kd.R_alloc | apply Kd.R_drewN | apply Kd.R_drew)); exact HO212.out) (Kd.R_base ho58) hb); have n4_ := Aside0.mk (Kd.R_elder' (by (with_reducible repeat (first | apply Kd.R_alloc | apply Kd.R_drewN | apply Kd.R_drew)); exact HO215.out) (Kd.R_base ho58) hb); have n5_ := Aside0.mk (Kd.R_lower (Kd.R_newB (Kd.R_new' (Kd.R_new' (Kd.R_new' (Kd.R_new' ho58 (Kd.R_lt (by (with_reducible repeat (first | apply Kd.R_alloc | apply Kd.R_drewN | apply Kd.R_drew)); exact HO197.out))) (Kd.R_lt (by (with_reducible repeat (first | apply Kd.R_alloc | apply Kd.R_drewN | apply Kd.R_drew)); exact HO208.out))) (Kd.R_lt (by (with_reducible repeat (first | apply Kd.R_alloc | apply Kd.R_drewN | apply Kd.R_drew)); exact HO212.out))) (Kd.R_lt (by (with_reducible repeat (first | apply Kd.R_alloc | apply Kd.R_drewN | apply Kd.R_drew)); exact HO215.out))) (g := g194) (o := .cells #[.int .u64 0, .int .u64 0] 36 (0, 0)) (by exact B194.out)) (below_size (by repeat (first | (with_reducible first | exact HB.out | apply below_alloc | apply pw_below_drewN | apply below_drew1 | refine below_set ?_ GE194.out | refine below_set ?_ GE205.out) | exact HB.out)))); have n6_ := Aside0.mk (blk_below (g := g194) (o := .cells #[.int .u64 0, .int .u64 0] 36 (0, 0)) (by exact B194.out) hb); have n7_ := Aside0.mk (blk_below (g := g205) (o := .cells #[.int .i64 t198, .int .i64 t199, .int .i64 t200, .slice Ao48 t201.length co48] 26 (0, 0)) (by exact B205.out) hb); have n8_ := Aside0.mk (below_step (by repeat (first | (with_reducible first | exact HB.out | apply below_alloc | apply pw_below_drewN | apply below_drew1 | refine below_set ?_ GE194.out | refine below_set ?_ GE205.out) | exact HB.out)) hb); clear HO197; clear HO203; clear HO208; clear HO212; clear HO215; clear B194; clear B205; clear HB; have HO197 := n0_; have HO203 := n1_; have HO208 := n2_; have HO212 := n3_; have HO215 := n4_; have HO219 := n5_; have B194 := n6_; have B205 := n7_; have HB := n8_; clear n0_ n1_ n2_ n3_ n4_ n5_ n6_ n7_ n8_; clear hb ho58; obtain ⟨Ao59, co59, eo59⟩ := Kd.R_slice HO208.out; subst eo59; obtain ⟨Ao60, co60, eo60⟩ := Kd.R_slice HO219.out; subst eo60) | (go_at_call 18; (with_reducible refine (attestorref07_Equal.calls k _ _ t206 _ _ y217 false _ ?side1 ?side2 ?side3 ?side4 A9.out).mono ?_); (case side1 => repeat (first | exact (Kd.R_reads' HO208.out).2.2 | (with_reducible refine Kd.C_alloc ?_ _) | (with_reducible refine Kd.C_drewN ?_ _) | (with_reducible refine Kd.C_drew ?_))); (case side2 => exact (Kd.R_reads' HO208.out).2.1); (case side3 => repeat (first | exact (Kd.R_reads' HO219.out).2.2 | (with_reducible refine Kd.C_alloc ?_ _) | (with_reducible refine Kd.C_drewN ?_ _) | (with_reducible refine Kd.C_drew ?_))); (case side4 => exact (Kd.R_reads' HO219.out).2.1); rintro e w' ⟨rfl, ⟨nd, rfl⟩⟩))
      go_ret
      exact ⟨by first | rfl | (simp [errW_none, errW_some] <;> rfl) | (simp [*, errW_none, errW_some] <;> rfl), by repeat (first | (with_reducible first | exact HB.out | apply below_alloc | apply pw_below_drewN | apply below_drew1 | refine below_set ?_ GE194.out | refine below_set ?_ GE205.out) | exact HB.out)⟩
    ·replace c8 := Bool.eq_false_iff.mpr c8
     subst c8
     have H1 : (some false) = some r := by rw [if_neg (show ¬ (false = true) by decide)] at H; exact H
     clear H
     have H := H1
     clear H1
     obtain rfl := Option.some.inj H
     go_enter Tryd.func21, Tryd.ntmps21
     go_wp2_with (first | ((with_reducible refine gate_dst (N := 1) rfl ?_); (try (refine gate_guard (by rfl) ?_; dsimp only)); refine box_event ?hg (N := 1) ?hd (cs := #[.int .u64 0, .int .u64 0]) (t := 36) ?hr ?_; (case hd => rfl); (case hg => rfl); (case hr => first | (go_simp; done) | (go_simp; rfl)); intro g194 hg w61 hbox hb; have n0_ := Aside0.mk (below_step (by repeat (first | (with_reducible first | exact HB.out | apply below_alloc | apply pw_below_drewN | apply below_drew1) | exact HB.out)) hb); have n1_ := Aside0.mk (hbox); have n2_ := Aside0.mk ((by rw [hg]; exact (below_size (by repeat (first | (with_reducible first | exact HB.out | apply below_alloc | apply pw_below_drewN | apply below_drew1) | exact HB.out))) : w.heap.size ≤ g194)); have n3_ := Aside0.mk ((by rw [hg]; exact (below_size (by repeat (first | (with_reducible first | exact HB.out | apply below_alloc | apply pw_below_drewN | apply below_drew1) | exact HB.out))) : w.heap.size ≤ g194)); clear HB; have HB := n0_; have B194 := n1_; have GW194 := n2_; have GE194 := n3_; clear n0_ n1_ n2_ n3_; clear hb hbox hg; have hcz62_0 : w61.cell? ⟨g194, 0, none⟩ = some (.int .u64 0) := bq_ B194 0; have hcz62_1 : w61.cell? ⟨g194, 1, none⟩ = some (.int .u64 0) := bq_ B194 1; have hfz62_0 := blk_frozen B194.out 0; have hfz62_1 := blk_frozen B194.out 1) | ((with_reducible refine gate_dst (N := 9) rfl ?_); (try (refine gate_guard (by rfl) ?_; dsimp only)); refine Kd.R_lit k36 _ 36 ?hg (N := 9) ?hd (xs := ([(⟨0, 0⟩ : S36), (⟨0, 0⟩ : S36)] : List (S36))) (inner := [.int .u64 0, .int .u64 0, .int .u64 0, .int .u64 0]) (ok := fun _ => True) (okp := fun _ => True) ?hr ?hp (fun _ hk => hk) trivial (Below.refl _ _) (Nat.le_refl _) (by simp) ?_; (case hd => rfl); (case hg => rfl); (case hr => first | (go_simp; done) | (go_simp; rfl)); (case hp => exact (Reps.c2 (show Kd.M k36 _ _ _ (⟨0, 0⟩ : S36) [.int .u64 0, .int .u64 0] from (k36_mkM _ _ _ (⟨0, 0⟩ : S36) )) (Reps.c2 (show Kd.M k36 _ _ _ (⟨0, 0⟩ : S36) [.int .u64 0, .int .u64 0] from (k36_mkM _ _ _ (⟨0, 0⟩ : S36) )) (Reps.none _ _)))); intro v196 w63 ho64 hb hg_ hnew_; clear hg_ hnew_; (first | rw [← Ny195.out] at ho64 | (simp only [Int.reduceToNat] at ho64; rw [← Ny195.out] at ho64)); have n0_ := Aside0.mk (Kd.R_lower (Kd.R_newB ho64 (g := g194) (o := .cells #[.int .u64 0, .int .u64 0] 36 (0, 0)) (by exact B194.out)) (below_size (by repeat (first | (with_reducible first | exact HB.out | apply below_alloc | apply pw_below_drewN | apply below_drew1 | refine below_set ?_ GE194.out) | exact HB.out)))); have n1_ := Aside0.mk (blk_below (g := g194) (o := .cells #[.int .u64 0, .int .u64 0] 36 (0, 0)) (by exact B194.out) hb); have n2_ := Aside0.mk (below_step (by repeat (first | (with_reducible first | exact HB.out | apply below_alloc | apply pw_below_drewN | apply below_drew1 | refine below_set ?_ GE194.out) | exact HB.out)) hb); clear B194; clear HB; have HO197 := n0_; have B194 := n1_; have HB := n2_; clear n0_ n1_ n2_; clear hb ho64; obtain ⟨Ao65, co65, eo65⟩ := Kd.R_slice HO197.out; subst eo65) | ((with_reducible refine gate_callee (f := 13) rfl ?_); refine goesL_ (some 10) rfl rfl Tryd.func13 (by kernel_rfl) rfl #[.int .i64 0, .slice Ao65 y195.length co65, .int .i64 0] rfl (by (try simp only [List.map_toArray, List.map_cons, List.map_nil]); first | done | rfl | (go_simp; done)) ?_; (with_reducible refine (tree_Build.calls k 0 _ _ y195 0 t198 t199 t200 t201 t204 _ ?side1 ?side2 ?side3 A1.out).mono ?_); (case side1 => repeat (first | exact (Kd.R_reads' HO197.out).2.2 | (with_reducible refine Kd.C_alloc ?_ _) | (with_reducible refine Kd.C_drewN ?_ _) | (with_reducible refine Kd.C_drew ?_))); (case side2 => exact (Kd.R_reads' HO197.out).2.1); (case side3 => repeat (first | exact (GL.below HRG.out HB.out) | (with_reducible refine GL.alloc ?_ _) | (with_reducible refine GL.drewN ?_ _) | (with_reducible refine GL.drew ?_))); rintro e w66 ⟨v202, rfl, ho0, hb⟩; refine ⟨_, rfl, ?_⟩; have n0_ := Aside0.mk (Kd.R_below (by (with_reducible repeat (first | apply Kd.R_alloc | apply Kd.R_drewN | apply Kd.R_drew)); exact HO197.out) hb); have n1_ := Aside0.mk (Kd.S_lower (Kd.S_newB (Kd.S_new' ho0 (Kd.R_lt (by (with_reducible repeat (first | apply Kd.R_alloc | apply Kd.R_drewN | apply Kd.R_drew)); exact HO197.out))) (g := g194) (o := .cells #[.int .u64 0, .int .u64 0] 36 (0, 0)) (by exact B194.out)) (below_size (by repeat (first | (with_reducible first | exact HB.out | apply below_alloc | apply pw_below_drewN | apply below_drew1 | refine below_set ?_ GE194.out) | exact HB.out)))); have n2_ := Aside0.mk (blk_below (g := g194) (o := .cells #[.int .u64 0, .int .u64 0] 36 (0, 0)) (by exact B194.out) hb); have n3_ := Aside0.mk (below_step (by repeat (first | (with_reducible first | exact HB.out | apply below_alloc | apply pw_below_drewN | apply below_drew1 | refine below_set ?_ GE194.out) | exact HB.out)) hb); clear HO197; clear B194; clear HB; have HO197 := n0_; have HO203 := n1_; have B194 := n2_; have HB := n3_; clear n0_ n1_ n2_ n3_; (try clear hb); (try clear hb2); (try clear hk); (try clear hi); (try clear ho0)) | ((with_reducible refine gate_dst (N := 2) rfl ?_); (try (refine gate_guard (by rfl) ?_; dsimp only)); refine box_event ?hg (N := 2) ?hd (cs := #[.int .i64 0, .int .i64 0, .int .i64 0, .slice none 0 0]) (t := 26) ?hr ?_; (case hd => rfl); (case hg => rfl); (case hr => first | (go_simp; done) | (go_simp; rfl)); intro g205 hg w67 hbox hb; have n0_ := Aside0.mk (Kd.R_below (by (with_reducible repeat (first | apply Kd.R_alloc | apply Kd.R_drewN | apply Kd.R_drew)); exact HO197.out) hb); have n1_ := Aside0.mk (Kd.S_below (by (with_reducible repeat (first | apply Kd.S_alloc | apply Kd.S_drewN | apply Kd.S_drew)); exact HO203.out) hb); have n2_ := Aside0.mk (blk_below (g := g194) (o := .cells #[.int .u64 0, .int .u64 0] 36 (0, 0)) (by exact B194.out) hb); have n3_ := Aside0.mk (below_step (by repeat (first | (with_reducible first | exact HB.out | apply below_alloc | apply pw_below_drewN | apply below_drew1 | refine below_set ?_ GE194.out) | exact HB.out)) hb); have n4_ := Aside0.mk (hbox); have n5_ := Aside0.mk ((by rw [hg]; exact (below_size (by repeat (first | (with_reducible first | exact HB.out | apply below_alloc | apply pw_below_drewN | apply below_drew1 | refine below_set ?_ GE194.out) | exact HB.out))) : w.heap.size ≤ g205)); have n6_ := Aside0.mk ((by rw [hg]; exact (below_size (by repeat (first | (with_reducible first | exact HB.out | apply below_alloc | apply pw_below_drewN | apply below_drew1 | refine below_set ?_ GE194.out) | exact HB.out))) : w.heap.size ≤ g205)); have n7_ := Aside0.mk ((by rw [hg]; exact Nat.ne_of_lt (blk_lt (g := g194) (o := .cells #[.int .u64 0, .int .u64 0] 36 (0, 0)) (by exact B194.out)) : g194 ≠ g205)); have n8_ := Aside0.mk ((by rw [hg]; exact Nat.ne_of_gt (blk_lt (g := g194) (o := .cells #[.int .u64 0, .int .u64 0] 36 (0, 0)) (by exact B194.out)) : g205 ≠ g194)); clear HO197; clear HO203; clear B194; clear HB; have HO197 := n0_; have HO203 := n1_; have B194 := n2_; have HB := n3_; have B205 := n4_; have GW205 := n5_; have GE205 := n6_; have NB194_205 := n7_; have NB205_194 := n8_; clear n0_ n1_ n2_ n3_ n4_ n5_ n6_ n7_ n8_; clear hb hbox hg; have hnb68 := NB205_194.out; have hnc68 := NB194_205.out; have hcz69_0 : w67.cell? ⟨g205, 0, none⟩ = some (.int .i64 0) := bq_ B205 0; have hcz69_1 : w67.cell? ⟨g205, 1, none⟩ = some (.int .i64 0) := bq_ B205 1; have hcz69_2 : w67.cell? ⟨g205, 2, none⟩ = some (.int .i64 0) := bq_ B205 2; have hcz69_3 : w67.cell? ⟨g205, 3, none⟩ = some (.slice none 0 0) := bq_ B205 3; have hfz69_0 := blk_frozen B205.out 0; have hfz69_1 := blk_frozen B205.out 1; have hfz69_2 := blk_frozen B205.out 2; have hfz69_3 := blk_frozen B205.out 3; obtain ⟨Ao70, co70, eo70⟩ := Kd.S_slice HO203.out; subst eo70) | ((with_reducible refine gate_callee (f := 23) rfl ?_); refine goesL_ (some 15) rfl rfl Tryd.func23 (by kernel_rfl) rfl #[.agg #[.int .i64 t198, .int .i64 t199, .int .i64 t200, .slice Ao70 t201.length co70], .int .i64 1] rfl (by (try simp only [List.map_toArray, List.map_cons, List.map_nil]); first | done | rfl | (go_simp; done)) ?_; (with_reducible refine (tree_Path.calls k t198 t199 t200 _ _ t201 1 t206 t209 _ ?side1 ?side2 ?side3 A2.out).mono ?_); (case side1 => refine (Kd.S_reads' (e := 22) (base := w.heap.size) (ok := fun k_ => ((True ∧ some k_ ≠ (.slice Ao65 y195.length co65 : Value).ownBlock) ∧ k_ ≠ g194)) (n := t201.length) (c := co70) ?_).2.2; exact (by (with_reducible repeat (first | apply Kd.S_alloc | apply Kd.S_drewN | apply Kd.S_drew)); exact (Kd.S_mono (Kd.S_far (p := ⟨g205, 3, none⟩) (Kd.S_far (p := ⟨g205, 2, none⟩) (Kd.S_far (p := ⟨g205, 1, none⟩) (Kd.S_far (p := ⟨g205, 0, none⟩) (Kd.S_types HO203.out B205.out (by decide)) (fun _ hk => hk.2) (.int .i64 t198)) (fun _ hk => hk.2) (.int .i64 t199)) (fun _ hk => hk.2) (.int .i64 t200)) (fun _ hk => hk.2) (.slice Ao70 t201.length co70)) (fun _ h_ => h_.1)))); (case side2 => exact (Kd.S_reads' HO203.out).2.1); (case side3 => exact GL.below HRG.out (by repeat (first | (with_reducible first | exact HB.out | apply below_alloc | apply pw_below_drewN | apply below_drew1 | refine below_set ?_ GE194.out | refine below_set ?_ GE205.out) | exact HB.out))); rintro e w71 ⟨v207, rfl, ho0, hb⟩; refine ⟨_, rfl, ?_⟩; have n0_ := Aside0.mk (Kd.R_elder' (by (with_reducible repeat (first | apply Kd.R_alloc | apply Kd.R_drewN | apply Kd.R_drew)); exact (Kd.R_mono (Kd.R_far (p := ⟨g205, 3, none⟩) (Kd.R_far (p := ⟨g205, 2, none⟩) (Kd.R_far (p := ⟨g205, 1, none⟩) (Kd.R_far (p := ⟨g205, 0, none⟩) (Kd.R_types HO197.out B205.out (by decide)) (fun _ hk => hk.2) (.int .i64 t198)) (fun _ hk => hk.2) (.int .i64 t199)) (fun _ hk => hk.2) (.int .i64 t200)) (fun _ hk => hk.2) (.slice Ao70 t201.length co70)) (fun _ h_ => h_.1))) (Kd.R_base ho0) hb); have n1_ := Aside0.mk (Kd.S_elder' (by (with_reducible repeat (first | apply Kd.S_alloc | apply Kd.S_drewN | apply Kd.S_drew)); exact (Kd.S_mono (Kd.S_far (p := ⟨g205, 3, none⟩) (Kd.S_far (p := ⟨g205, 2, none⟩) (Kd.S_far (p := ⟨g205, 1, none⟩) (Kd.S_far (p := ⟨g205, 0, none⟩) (Kd.S_types HO203.out B205.out (by decide)) (fun _ hk => hk.2) (.int .i64 t198)) (fun _ hk => hk.2) (.int .i64 t199)) (fun _ hk => hk.2) (.int .i64 t200)) (fun _ hk => hk.2) (.slice Ao70 t201.length co70)) (fun _ h_ => h_.1))) (Kd.R_base ho0) hb); have n2_ := Aside0.mk (Kd.R_lower (Kd.R_newB (Kd.R_new' ho0 (Kd.R_lt (by (with_reducible repeat (first | apply Kd.R_alloc | apply Kd.R_drewN | apply Kd.R_drew)); exact (Kd.R_mono (Kd.R_far (p := ⟨g205, 3, none⟩) (Kd.R_far (p := ⟨g205, 2, none⟩) (Kd.R_far (p := ⟨g205, 1, none⟩) (Kd.R_far (p := ⟨g205, 0, none⟩) (Kd.R_types HO197.out B205.out (by decide)) (fun _ hk => hk.2) (.int .i64 t198)) (fun _ hk => hk.2) (.int .i64 t199)) (fun _ hk => hk.2) (.int .i64 t200)) (fun _ hk => hk.2) (.slice Ao70 t201.length co70)) (fun _ h_ => h_.1))))) (g := g194) (o := .cells #[.int .u64 0, .int .u64 0] 36 (0, 0)) (by refine blk_far ?_ NB194_205.out _; refine blk_far ?_ NB194_205.out _; refine blk_far ?_ NB194_205.out _; refine blk_far ?_ NB194_205.out _; exact B194.out)) (below_size (by repeat (first | (with_reducible first | exact HB.out | apply below_alloc | apply pw_below_drewN | apply below_drew1 | refine below_set ?_ GE194.out | refine below_set ?_ GE205.out) | exact HB.out)))); have n3_ := Aside0.mk (blk_below (g := g194) (o := .cells #[.int .u64 0, .int .u64 0] 36 (0, 0)) (by refine blk_far ?_ NB194_205.out _; refine blk_far ?_ NB194_205.out _; refine blk_far ?_ NB194_205.out _; refine blk_far ?_ NB194_205.out _; exact B194.out) hb); have n4_ := Aside0.mk (blk_below (g := g205) (o := .cells #[.int .i64 t198, .int .i64 t199, .int .i64 t200, .slice Ao70 t201.length co70] 26 (0, 0)) (by refine blk_put (cs := #[.int .i64 t198, .int .i64 t199, .int .i64 t200, .slice none 0 0]) ?_ 3 _ rfl; refine blk_put (cs := #[.int .i64 t198, .int .i64 t199, .int .i64 0, .slice none 0 0]) ?_ 2 _ rfl; refine blk_put (cs := #[.int .i64 t198, .int .i64 0, .int .i64 0, .slice none 0 0]) ?_ 1 _ rfl; refine blk_put (cs := #[.int .i64 0, .int .i64 0, .int .i64 0, .slice none 0 0]) ?_ 0 _ rfl; exact B205.out) hb); have n5_ := Aside0.mk (below_step (by repeat (first | (with_reducible first | exact HB.out | apply below_alloc | apply pw_below_drewN | apply below_drew1 | refine below_set ?_ GE194.out | refine below_set ?_ GE205.out) | exact HB.out)) hb); clear HO197; clear HO203; clear B194; clear B205; clear HB; have HO197 := n0_; have HO203 := n1_; have HO208 := n2_; have B194 := n3_; have B205 := n4_; have HB := n5_; clear n0_ n1_ n2_ n3_ n4_ n5_; (try clear hb); (try clear hb2); (try clear hk); (try clear hi); (try clear ho0); have hcz72_0 : w71.cell? ⟨g205, 0, none⟩ = some (.int .i64 t198) := bq_ B205 0; have hcz72_1 : w71.cell? ⟨g205, 1, none⟩ = some (.int .i64 t199) := bq_ B205 1; have hcz72_2 : w71.cell? ⟨g205, 2, none⟩ = some (.int .i64 t200) := bq_ B205 2; have hcz72_3 : w71.cell? ⟨g205, 3, none⟩ = some (.slice Ao70 t201.length co70) := bq_ B205 3; have hfz72_0 := blk_frozen B205.out 0; have hfz72_1 := blk_frozen B205.out 1; have hfz72_2 := blk_frozen B205.out 2; have hfz72_3 := blk_frozen B205.out 3) | (go_at_call 19; (with_reducible refine (tree_Cap.calls k t198 t199 t200 _ _ t201 t210 _ ?side1 ?side2 ?side3 A6.out).mono ?_); (case side1 => repeat (first | exact (Kd.S_reads' HO203.out).2.2 | (with_reducible refine Kd.C_alloc ?_ _) | (with_reducible refine Kd.C_drewN ?_ _) | (with_reducible refine Kd.C_drew ?_))); (case side2 => exact (Kd.S_reads' HO203.out).2.1); (case side3 => repeat (first | exact (GL.below HRG.out HB.out) | (with_reducible refine GL.alloc ?_ _) | (with_reducible refine GL.drewN ?_ _) | (with_reducible refine GL.drew ?_))); rintro e w73 ⟨v211, rfl, ho0, hb⟩; have n0_ := Aside0.mk (Kd.R_elder' (by (with_reducible repeat (first | apply Kd.R_alloc | apply Kd.R_drewN | apply Kd.R_drew)); exact HO197.out) (Kd.R_base ho0) hb); have n1_ := Aside0.mk (Kd.S_elder' (by (with_reducible repeat (first | apply Kd.S_alloc | apply Kd.S_drewN | apply Kd.S_drew)); exact HO203.out) (Kd.R_base ho0) hb); have n2_ := Aside0.mk (Kd.R_elder' (by (with_reducible repeat (first | apply Kd.R_alloc | apply Kd.R_drewN | apply Kd.R_drew)); exact HO208.out) (Kd.R_base ho0) hb); have n3_ := Aside0.mk (Kd.R_lower (Kd.R_newB (Kd.R_new' (Kd.R_new' ho0 (Kd.R_lt (by (with_reducible repeat (first | apply Kd.R_alloc | apply Kd.R_drewN | apply Kd.R_drew)); exact HO197.out))) (Kd.R_lt (by (with_reducible repeat (first | apply Kd.R_alloc | apply Kd.R_drewN | apply Kd.R_drew)); exact HO208.out))) (g := g194) (o := .cells #[.int .u64 0, .int .u64 0] 36 (0, 0)) (by exact B194.out)) (below_size (by repeat (first | (with_reducible first | exact HB.out | apply below_alloc | apply pw_below_drewN | apply below_drew1 | refine below_set ?_ GE194.out | refine below_set ?_ GE205.out) | exact HB.out)))); have n4_ := Aside0.mk (blk_below (g := g194) (o := .cells #[.int .u64 0, .int .u64 0] 36 (0, 0)) (by exact B194.out) hb); have n5_ := Aside0.mk (blk_below (g := g205) (o := .cells #[.int .i64 t198, .int .i64 t199, .int .i64 t200, .slice Ao70 t201.length co70] 26 (0, 0)) (by exact B205.out) hb); have n6_ := Aside0.mk (below_step (by repeat (first | (with_reducible first | exact HB.out | apply below_alloc | apply pw_below_drewN | apply below_drew1 | refine below_set ?_ GE194.out | refine below_set ?_ GE205.out) | exact HB.out)) hb); clear HO197; clear HO203; clear HO208; clear B194; clear B205; clear HB; have HO197 := n0_; have HO203 := n1_; have HO208 := n2_; have HO212 := n3_; have B194 := n4_; have B205 := n5_; have HB := n6_; clear n0_ n1_ n2_ n3_ n4_ n5_ n6_; (try clear hb); (try clear hb2); (try clear hk); (try clear hi); (try clear ho0)) | ((with_reducible refine gate_dst (N := 33) rfl ?_); (try (refine gate_guard (by rfl) ?_; dsimp only)); refine Kd.R_lit k36 _ 36 ?hg (N := 33) ?hd (xs := ([(⟨19, 58⟩ : S36)] : List (S36))) (inner := [.int .u64 19, .int .u64 58]) (ok := fun _ => True) (okp := fun _ => True) ?hr ?hp (fun _ hk => hk) trivial (Below.refl _ _) (Nat.le_refl _) (by simp) ?_; (case hd => rfl); (case hg => rfl); (case hr => first | (go_simp; done) | (go_simp; rfl)); (case hp => exact (Reps.c2 (show Kd.M k36 _ _ _ (⟨19, 58⟩ : S36) [.int .u64 19, .int .u64 58] from (k36_mkM _ _ _ (⟨19, 58⟩ : S36) )) (Reps.none _ _))); intro v214 w74 ho75 hb hg_ hnew_; clear hg_ hnew_; (first | rw [← Ny213.out] at ho75 | (simp only [Int.reduceToNat] at ho75; rw [← Ny213.out] at ho75)); have n0_ := Aside0.mk (Kd.R_elder' (by (with_reducible repeat (first | apply Kd.R_alloc | apply Kd.R_drewN | apply Kd.R_drew)); exact HO197.out) (Kd.R_base ho75) hb); have n1_ := Aside0.mk (Kd.S_elder' (by (with_reducible repeat (first | apply Kd.S_alloc | apply Kd.S_drewN | apply Kd.S_drew)); exact HO203.out) (Kd.R_base ho75) hb); have n2_ := Aside0.mk (Kd.R_elder' (by (with_reducible repeat (first | apply Kd.R_alloc | apply Kd.R_drewN | apply Kd.R_drew)); exact HO208.out) (Kd.R_base ho75) hb); have n3_ := Aside0.mk (Kd.R_elder' (by (with_reducible repeat (first | apply Kd.R_alloc | apply Kd.R_drewN | apply Kd.R_drew)); exact HO212.out) (Kd.R_base ho75) hb); have n4_ := Aside0.mk (Kd.R_lower (Kd.R_newB (Kd.R_new' (Kd.R_new' (Kd.R_new' ho75 (Kd.R_lt (by (with_reducible repeat (first | apply Kd.R_alloc | apply Kd.R_drewN | apply Kd.R_drew)); exact HO197.out))) (Kd.R_lt (by (with_reducible repeat (first | apply Kd.R_alloc | apply Kd.R_drewN | apply Kd.R_drew)); exact HO208.out))) (Kd.R_lt (by (with_reducible repeat (first | apply Kd.R_alloc | apply Kd.R_drewN | apply Kd.R_drew)); exact HO212.out))) (g := g194) (o := .cells #[.int .u64 0, .int .u64 0] 36 (0, 0)) (by exact B194.out)) (below_size (by repeat (first | (with_reducible first | exact HB.out | apply below_alloc | apply pw_below_drewN | apply below_drew1 | refine below_set ?_ GE194.out | refine below_set ?_ GE205.out) | exact HB.out)))); have n5_ := Aside0.mk (blk_below (g := g194) (o := .cells #[.int .u64 0, .int .u64 0] 36 (0, 0)) (by exact B194.out) hb); have n6_ := Aside0.mk (blk_below (g := g205) (o := .cells #[.int .i64 t198, .int .i64 t199, .int .i64 t200, .slice Ao70 t201.length co70] 26 (0, 0)) (by exact B205.out) hb); have n7_ := Aside0.mk (below_step (by repeat (first | (with_reducible first | exact HB.out | apply below_alloc | apply pw_below_drewN | apply below_drew1 | refine below_set ?_ GE194.out | refine below_set ?_ GE205.out) | exact HB.out)) hb); clear HO197; clear HO203; clear HO208; clear HO212; clear B194; clear B205; clear HB; have HO197 := n0_; have HO203 := n1_; have HO208 := n2_; have HO212 := n3_; have HO215 := n4_; have B194 := n5_; have B205 := n6_; have HB := n7_; clear n0_ n1_ n2_ n3_ n4_ n5_ n6_ n7_; clear hb ho75; obtain ⟨Ao76, co76, eo76⟩ := Kd.R_slice HO212.out; subst eo76; obtain ⟨Ao77, co77, eo77⟩ := Kd.R_slice HO215.out; subst eo77) | (go_at_call 18; (with_reducible refine (attestorref07_Equal.calls k _ _ t210 _ _ y213 false _ ?side1 ?side2 ?side3 ?side4 A7.out).mono ?_); (case side1 => repeat (first | exact (Kd.R_reads' HO212.out).2.2 | (with_reducible refine Kd.C_alloc ?_ _) | (with_reducible refine Kd.C_drewN ?_ _) | (with_reducible refine Kd.C_drew ?_))); (case side2 => exact (Kd.R_reads' HO212.out).2.1); (case side3 => repeat (first | exact (Kd.R_reads' HO215.out).2.2 | (with_reducible refine Kd.C_alloc ?_ _) | (with_reducible refine Kd.C_drewN ?_ _) | (with_reducible refine Kd.C_drew ?_))); (case side4 => exact (Kd.R_reads' HO215.out).2.1); rintro e w' ⟨rfl, ⟨nd, rfl⟩⟩))
     go_ret
     exact ⟨by first | rfl | (simp [errW_none, errW_some] <;> rfl) | (simp [*, errW_none, errW_some] <;> rfl), by repeat (first | (with_reducible first | exact HB.out | apply below_alloc | apply pw_below_drewN | apply below_drew1 | refine below_set ?_ GE194.out | refine below_set ?_ GE205.out) | exact HB.out)⟩
   ·rw [if_neg c5] at H
    have c5b0 : (t199 == 1) = false := beq_eq_false_iff_ne.mpr c5
    have c5b1 : (t199 != 1) = true := bne_iff_ne.mpr c5
    obtain rfl := Option.some.inj H
    go_enter Tryd.func21, Tryd.ntmps21
    go_wp2_with (first | ((with_reducible refine gate_dst (N := 1) rfl ?_); (try (refine gate_guard (by rfl) ?_; dsimp only)); refine box_event ?hg (N := 1) ?hd (cs := #[.int .u64 0, .int .u64 0]) (t := 36) ?hr ?_; (case hd => rfl); (case hg => rfl); (case hr => first | (go_simp; done) | (go_simp; rfl)); intro g194 hg w78 hbox hb; have n0_ := Aside0.mk (below_step (by repeat (first | (with_reducible first | exact HB.out | apply below_alloc | apply pw_below_drewN | apply below_drew1) | exact HB.out)) hb); have n1_ := Aside0.mk (hbox); have n2_ := Aside0.mk ((by rw [hg]; exact (below_size (by repeat (first | (with_reducible first | exact HB.out | apply below_alloc | apply pw_below_drewN | apply below_drew1) | exact HB.out))) : w.heap.size ≤ g194)); have n3_ := Aside0.mk ((by rw [hg]; exact (below_size (by repeat (first | (with_reducible first | exact HB.out | apply below_alloc | apply pw_below_drewN | apply below_drew1) | exact HB.out))) : w.heap.size ≤ g194)); clear HB; have HB := n0_; have B194 := n1_; have GW194 := n2_; have GE194 := n3_; clear n0_ n1_ n2_ n3_; clear hb hbox hg; have hcz79_0 : w78.cell? ⟨g194, 0, none⟩ = some (.int .u64 0) := bq_ B194 0; have hcz79_1 : w78.cell? ⟨g194, 1, none⟩ = some (.int .u64 0) := bq_ B194 1; have hfz79_0 := blk_frozen B194.out 0; have hfz79_1 := blk_frozen B194.out 1) | ((with_reducible refine gate_dst (N := 9) rfl ?_); (try (refine gate_guard (by rfl) ?_; dsimp only)); refine Kd.R_lit k36 _ 36 ?hg (N := 9) ?hd (xs := ([(⟨0, 0⟩ : S36), (⟨0, 0⟩ : S36)] : List (S36))) (inner := [.int .u64 0, .int .u64 0, .int .u64 0, .int .u64 0]) (ok := fun _ => True) (okp := fun _ => True) ?hr ?hp (fun _ hk => hk) trivial (Below.refl _ _) (Nat.le_refl _) (by simp) ?_; (case hd => rfl); (case hg => rfl); (case hr => first | (go_simp; done) | (go_simp; rfl)); (case hp => exact (Reps.c2 (show Kd.M k36 _ _ _ (⟨0, 0⟩ : S36) [.int .u64 0, .int .u64 0] from (k36_mkM _ _ _ (⟨0, 0⟩ : S36) )) (Reps.c2 (show Kd.M k36 _ _ _ (⟨0, 0⟩ : S36) [.int .u64 0, .int .u64 0] from (k36_mkM _ _ _ (⟨0, 0⟩ : S36) )) (Reps.none _ _)))); intro v196 w80 ho81 hb hg_ hnew_; clear hg_ hnew_; (first | rw [← Ny195.out] at ho81 | (simp only [Int.reduceToNat] at ho81; rw [← Ny195.out] at ho81)); have n0_ := Aside0.mk (Kd.R_lower (Kd.R_newB ho81 (g := g194) (o := .cells #[.int .u64 0, .int .u64 0] 36 (0, 0)) (by exact B194.out)) (below_size (by repeat (first | (with_reducible first | exact HB.out | apply below_alloc | apply pw_below_drewN | apply below_drew1 | refine below_set ?_ GE194.out) | exact HB.out)))); have n1_ := Aside0.mk (blk_below (g := g194) (o := .cells #[.int .u64 0, .int .u64 0] 36 (0, 0)) (by exact B194.out) hb); have n2_ := Aside0.mk (below_step (by repeat (first | (with_reducible first | exact HB.out | apply below_alloc | apply pw_below_drewN | apply below_drew1 | refine below_set ?_ GE194.out) | exact HB.out)) hb); clear B194; clear HB; have HO197 := n0_; have B194 := n1_; have HB := n2_; clear n0_ n1_ n2_; clear hb ho81; obtain ⟨Ao82, co82, eo82⟩ := Kd.R_slice HO197.out; subst eo82) | ((with_reducible refine gate_callee (f := 13) rfl ?_); refine goesL_ (some 10) rfl rfl Tryd.func13 (by kernel_rfl) rfl #[.int .i64 0, .slice Ao82 y195.length co82, .int .i64 0] rfl (by (try simp only [List.map_toArray, List.map_cons, List.map_nil]); first | done | rfl | (go_simp; done)) ?_; (with_reducible refine (tree_Build.calls k 0 _ _ y195 0 t198 t199 t200 t201 t204 _ ?side1 ?side2 ?side3 A1.out).mono ?_); (case side1 => repeat (first | exact (Kd.R_reads' HO197.out).2.2 | (with_reducible refine Kd.C_alloc ?_ _) | (with_reducible refine Kd.C_drewN ?_ _) | (with_reducible refine Kd.C_drew ?_))); (case side2 => exact (Kd.R_reads' HO197.out).2.1); (case side3 => repeat (first | exact (GL.below HRG.out HB.out) | (with_reducible refine GL.alloc ?_ _) | (with_reducible refine GL.drewN ?_ _) | (with_reducible refine GL.drew ?_))); rintro e w83 ⟨v202, rfl, ho0, hb⟩; refine ⟨_, rfl, ?_⟩; have n0_ := Aside0.mk (Kd.R_below (by (with_reducible repeat (first | apply Kd.R_alloc | apply Kd.R_drewN | apply Kd.R_drew)); exact HO197.out) hb); have n1_ := Aside0.mk (Kd.S_lower (Kd.S_newB (Kd.S_new' ho0 (Kd.R_lt (by (with_reducible repeat (first | apply Kd.R_alloc | apply Kd.R_drewN | apply Kd.R_drew)); exact HO197.out))) (g := g194) (o := .cells #[.int .u64 0, .int .u64 0] 36 (0, 0)) (by exact B194.out)) (below_size (by repeat (first | (with_reducible first | exact HB.out | apply below_alloc | apply pw_below_drewN | apply below_drew1 | refine below_set ?_ GE194.out) | exact HB.out)))); have n2_ := Aside0.mk (blk_below (g := g194) (o := .cells #[.int .u64 0, .int .u64 0] 36 (0, 0)) (by exact B194.out) hb); have n3_ := Aside0.mk (below_step (by repeat (first | (with_reducible first | exact HB.out | apply below_alloc | apply pw_below_drewN | apply below_drew1 | refine below_set ?_ GE194.out) | exact HB.out)) hb); clear HO197; clear B194; clear HB; have HO197 := n0_; have HO203 := n1_; have B194 := n2_; have HB := n3_; clear n0_ n1_ n2_ n3_; (try clear hb); (try clear hb2); (try clear hk); (try clear hi); (try clear ho0)) | ((with_reducible refine gate_dst (N := 2) rfl ?_); (try (refine gate_guard (by rfl) ?_; dsimp only)); refine box_event ?hg (N := 2) ?hd (cs := #[.int .i64 0, .int .i64 0, .int .i64 0, .slice none 0 0]) (t := 26) ?hr ?_; (case hd => rfl); (case hg => rfl); (case hr => first | (go_simp; done) | (go_simp; rfl)); intro g205 hg w84 hbox hb; have n0_ := Aside0.mk (Kd.R_below (by (with_reducible repeat (first | apply Kd.R_alloc | apply Kd.R_drewN | apply Kd.R_drew)); exact HO197.out) hb); have n1_ := Aside0.mk (Kd.S_below (by (with_reducible repeat (first | apply Kd.S_alloc | apply Kd.S_drewN | apply Kd.S_drew)); exact HO203.out) hb); have n2_ := Aside0.mk (blk_below (g := g194) (o := .cells #[.int .u64 0, .int .u64 0] 36 (0, 0)) (by exact B194.out) hb); have n3_ := Aside0.mk (below_step (by repeat (first | (with_reducible first | exact HB.out | apply below_alloc | apply pw_below_drewN | apply below_drew1 | refine below_set ?_ GE194.out) | exact HB.out)) hb); have n4_ := Aside0.mk (hbox); have n5_ := Aside0.mk ((by rw [hg]; exact (below_size (by repeat (first | (with_reducible first | exact HB.out | apply below_alloc | apply pw_below_drewN | apply below_drew1 | refine below_set ?_ GE194.out) | exact HB.out))) : w.heap.size ≤ g205)); have n6_ := Aside0.mk ((by rw [hg]; exact (below_size (by repeat (first | (with_reducible first | exact HB.out | apply below_alloc | apply pw_below_drewN | apply below_drew1 | refine below_set ?_ GE194.out) | exact HB.out))) : w.heap.size ≤ g205)); have n7_ := Aside0.mk ((by rw [hg]; exact Nat.ne_of_lt (blk_lt (g := g194) (o := .cells #[.int .u64 0, .int .u64 0] 36 (0, 0)) (by exact B194.out)) : g194 ≠ g205)); have n8_ := Aside0.mk ((by rw [hg]; exact Nat.ne_of_gt (blk_lt (g := g194) (o := .cells #[.int .u64 0, .int .u64 0] 36 (0, 0)) (by exact B194.out)) : g205 ≠ g194)); clear HO197; clear HO203; clear B194; clear HB; have HO197 := n0_; have HO203 := n1_; have B194 := n2_; have HB := n3_; have B205 := n4_; have GW205 := n5_; have GE205 := n6_; have NB194_205 := n7_; have NB205_194 := n8_; clear n0_ n1_ n2_ n3_ n4_ n5_ n6_ n7_ n8_; clear hb hbox hg; have hnb85 := NB205_194.out; have hnc85 := NB194_205.out; have hcz86_0 : w84.cell? ⟨g205, 0, none⟩ = some (.int .i64 0) := bq_ B205 0; have hcz86_1 : w84.cell? ⟨g205, 1, none⟩ = some (.int .i64 0) := bq_ B205 1; have hcz86_2 : w84.cell? ⟨g205, 2, none⟩ = some (.int .i64 0) := bq_ B205 2; have hcz86_3 : w84.cell? ⟨g205, 3, none⟩ = some (.slice none 0 0) := bq_ B205 3; have hfz86_0 := blk_frozen B205.out 0; have hfz86_1 := blk_frozen B205.out 1; have hfz86_2 := blk_frozen B205.out 2; have hfz86_3 := blk_frozen B205.out 3; obtain ⟨Ao87, co87, eo87⟩ := Kd.S_slice HO203.out; subst eo87) | ((with_reducible refine gate_callee (f := 23) rfl ?_); refine goesL_ (some 15) rfl rfl Tryd.func23 (by kernel_rfl) rfl #[.agg #[.int .i64 t198, .int .i64 t199, .int .i64 t200, .slice Ao87 t201.length co87], .int .i64 1] rfl (by (try simp only [List.map_toArray, List.map_cons, List.map_nil]); first | done | rfl | (go_simp; done)) ?_; (with_reducible refine (tree_Path.calls k t198 t199 t200 _ _ t201 1 t206 t209 _ ?side1 ?side2 ?side3 A2.out).mono ?_); (case side1 => refine (Kd.S_reads' (e := 22) (base := w.heap.size) (ok := fun k_ => ((True ∧ some k_ ≠ (.slice Ao82 y195.length co82 : Value).ownBlock) ∧ k_ ≠ g194)) (n := t201.length) (c := co87) ?_).2.2; exact (by (with_reducible repeat (first | apply Kd.S_alloc | apply Kd.S_drewN | apply Kd.S_drew)); exact (Kd.S_mono (Kd.S_far (p := ⟨g205, 3, none⟩) (Kd.S_far (p := ⟨g205, 2, none⟩) (Kd.S_far (p := ⟨g205, 1, none⟩) (Kd.S_far (p := ⟨g205, 0, none⟩) (Kd.S_types HO203.out B205.out (by decide)) (fun _ hk => hk.2) (.int .i64 t198)) (fun _ hk => hk.2) (.int .i64 t199)) (fun _ hk => hk.2) (.int .i64 t200)) (fun _ hk => hk.2) (.slice Ao87 t201.length co87)) (fun _ h_ => h_.1)))); (case side2 => exact (Kd.S_reads' HO203.out).2.1); (case side3 => exact GL.below HRG.out (by repeat (first | (with_reducible first | exact HB.out | apply below_alloc | apply pw_below_drewN | apply below_drew1 | refine below_set ?_ GE194.out | refine below_set ?_ GE205.out) | exact HB.out))); rintro e w88 ⟨v207, rfl, ho0, hb⟩; refine ⟨_, rfl, ?_⟩; have n0_ := Aside0.mk (Kd.R_elder' (by (with_reducible repeat (first | apply Kd.R_alloc | apply Kd.R_drewN | apply Kd.R_drew)); exact (Kd.R_mono (Kd.R_far (p := ⟨g205, 3, none⟩) (Kd.R_far (p := ⟨g205, 2, none⟩) (Kd.R_far (p := ⟨g205, 1, none⟩) (Kd.R_far (p := ⟨g205, 0, none⟩) (Kd.R_types HO197.out B205.out (by decide)) (fun _ hk => hk.2) (.int .i64 t198)) (fun _ hk => hk.2) (.int .i64 t199)) (fun _ hk => hk.2) (.int .i64 t200)) (fun _ hk => hk.2) (.slice Ao87 t201.length co87)) (fun _ h_ => h_.1))) (Kd.R_base ho0) hb); have n1_ := Aside0.mk (Kd.S_elder' (by (with_reducible repeat (first | apply Kd.S_alloc | apply Kd.S_drewN | apply Kd.S_drew)); exact (Kd.S_mono (Kd.S_far (p := ⟨g205, 3, none⟩) (Kd.S_far (p := ⟨g205, 2, none⟩) (Kd.S_far (p := ⟨g205, 1, none⟩) (Kd.S_far (p := ⟨g205, 0, none⟩) (Kd.S_types HO203.out B205.out (by decide)) (fun _ hk => hk.2) (.int .i64 t198)) (fun _ hk => hk.2) (.int .i64 t199)) (fun _ hk => hk.2) (.int .i64 t200)) (fun _ hk => hk.2) (.slice Ao87 t201.length co87)) (fun _ h_ => h_.1))) (Kd.R_base ho0) hb); have n2_ := Aside0.mk (Kd.R_lower (Kd.R_newB (Kd.R_new' ho0 (Kd.R_lt (by (with_reducible repeat (first | apply Kd.R_alloc | apply Kd.R_drewN | apply Kd.R_drew)); exact (Kd.R_mono (Kd.R_far (p := ⟨g205, 3, none⟩) (Kd.R_far (p := ⟨g205, 2, none⟩) (Kd.R_far (p := ⟨g205, 1, none⟩) (Kd.R_far (p := ⟨g205, 0, none⟩) (Kd.R_types HO197.out B205.out (by decide)) (fun _ hk => hk.2) (.int .i64 t198)) (fun _ hk => hk.2) (.int .i64 t199)) (fun _ hk => hk.2) (.int .i64 t200)) (fun _ hk => hk.2) (.slice Ao87 t201.length co87)) (fun _ h_ => h_.1))))) (g := g194) (o := .cells #[.int .u64 0, .int .u64 0] 36 (0, 0)) (by refine blk_far ?_ NB194_205.out _; refine blk_far ?_ NB194_205.out _; refine blk_far ?_ NB194_205.out _; refine blk_far ?_ NB194_205.out _; exact B194.out)) (below_size (by repeat (first | (with_reducible first | exact HB.out | apply below_alloc | apply pw_below_drewN | apply below_drew1 | refine below_set ?_ GE194.out | refine below_set ?_ GE205.out) | exact HB.out)))); have n3_ := Aside0.mk (blk_below (g := g194) (o := .cells #[.int .u64 0, .int .u64 0] 36 (0, 0)) (by refine blk_far ?_ NB194_205.out _; refine blk_far ?_ NB194_205.out _; refine blk_far ?_ NB194_205.out _; refine blk_far ?_ NB194_205.out _; exact B194.out) hb); have n4_ := Aside0.mk (blk_below (g := g205) (o := .cells #[.int .i64 t198, .int .i64 t199, .int .i64 t200, .slice Ao87 t201.length co87] 26 (0, 0)) (by refine blk_put (cs := #[.int .i64 t198, .int .i64 t199, .int .i64 t200, .slice none 0 0]) ?_ 3 _ rfl; refine blk_put (cs := #[.int .i64 t198, .int .i64 t199, .int .i64 0, .slice none 0 0]) ?_ 2 _ rfl; refine blk_put (cs := #[.int .i64 t198, .int .i64 0, .int .i64 0, .slice none 0 0]) ?_ 1 _ rfl; refine blk_put (cs := #[.int .i64 0, .int .i64 0, .int .i64 0, .slice none 0 0]) ?_ 0 _ rfl; exact B205.out) hb); have n5_ := Aside0.mk (below_step (by repeat (first | (with_reducible first | exact HB.out | apply below_alloc | apply pw_below_drewN | apply below_drew1 | refine below_set ?_ GE194.out | refine below_set ?_ GE205.out) | exact HB.out)) hb); clear HO197; clear HO203; clear B194; clear B205; clear HB; have HO197 := n0_; have HO203 := n1_; have HO208 := n2_; have B194 := n3_; have B205 := n4_; have HB := n5_; clear n0_ n1_ n2_ n3_ n4_ n5_; (try clear hb); (try clear hb2); (try clear hk); (try clear hi); (try clear ho0); have hcz89_0 : w88.cell? ⟨g205, 0, none⟩ = some (.int .i64 t198) := bq_ B205 0; have hcz89_1 : w88.cell? ⟨g205, 1, none⟩ = some (.int .i64 t199) := bq_ B205 1; have hcz89_2 : w88.cell? ⟨g205, 2, none⟩ = some (.int .i64 t200) := bq_ B205 2; have hcz89_3 : w88.cell? ⟨g205, 3, none⟩ = some (.slice Ao87 t201.length co87) := bq_ B205 3; have hfz89_0 := blk_frozen B205.out 0; have hfz89_1 := blk_frozen B205.out 1; have hfz89_2 := blk_frozen B205.out 2; have hfz89_3 := blk_frozen B205.out 3))
    go_ret
    exact ⟨by first | rfl | (simp [errW_none, errW_some] <;> rfl) | (simp [*, errW_none, errW_some] <;> rfl), by repeat (first | (with_reducible first | exact HB.out | apply below_alloc | apply pw_below_drewN | apply below_drew1 | refine below_set ?_ GE194.out | refine below_set ?_ GE205.out) | exact HB.out)⟩
  ·rw [if_neg c4] at H
   have c4b0 : (t209 == 0) = false := beq_eq_false_iff_ne.mpr c4
   have c4b1 : (t209 != 0) = true := bne_iff_ne.mpr c4
   obtain rfl := Option.some.inj H
   go_enter Tryd.func21, Tryd.ntmps21
   go_wp2_with (first | ((with_reducible refine gate_dst (N := 1) rfl ?_); (try (refine gate_guard (by rfl) ?_; dsimp only)); refine box_event ?hg (N := 1) ?hd (cs := #[.int .u64 0, .int .u64 0]) (t := 36) ?hr ?_; (case hd => rfl); (case hg => rfl); (case hr => first | (go_simp; done) | (go_simp; rfl)); intro g194 hg w90 hbox hb; have n0_ := Aside0.mk (below_step (by repeat (first | (with_reducible first | exact HB.out | apply below_alloc | apply pw_below_drewN | apply below_drew1) | exact HB.out)) hb); have n1_ := Aside0.mk (hbox); have n2_ := Aside0.mk ((by rw [hg]; exact (below_size (by repeat (first | (with_reducible first | exact HB.out | apply below_alloc | apply pw_below_drewN | apply below_drew1) | exact HB.out))) : w.heap.size ≤ g194)); have n3_ := Aside0.mk ((by rw [hg]; exact (below_size (by repeat (first | (with_reducible first | exact HB.out | apply below_alloc | apply pw_below_drewN | apply below_drew1) | exact HB.out))) : w.heap.size ≤ g194)); clear HB; have HB := n0_; have B194 := n1_; have GW194 := n2_; have GE194 := n3_; clear n0_ n1_ n2_ n3_; clear hb hbox hg; have hcz91_0 : w90.cell? ⟨g194, 0, none⟩ = some (.int .u64 0) := bq_ B194 0; have hcz91_1 : w90.cell? ⟨g194, 1, none⟩ = some (.int .u64 0) := bq_ B194 1; have hfz91_0 := blk_frozen B194.out 0; have hfz91_1 := blk_frozen B194.out 1) | ((with_reducible refine gate_dst (N := 9) rfl ?_); (try (refine gate_guard (by rfl) ?_; dsimp only)); refine Kd.R_lit k36 _ 36 ?hg (N := 9) ?hd (xs := ([(⟨0, 0⟩ : S36), (⟨0, 0⟩ : S36)] : List (S36))) (inner := [.int .u64 0, .int .u64 0, .int .u64 0, .int .u64 0]) (ok := fun _ => True) (okp := fun _ => True) ?hr ?hp (fun _ hk => hk) trivial (Below.refl _ _) (Nat.le_refl _) (by simp) ?_; (case hd => rfl); (case hg => rfl); (case hr => first | (go_simp; done) | (go_simp; rfl)); (case hp => exact (Reps.c2 (show Kd.M k36 _ _ _ (⟨0, 0⟩ : S36) [.int .u64 0, .int .u64 0] from (k36_mkM _ _ _ (⟨0, 0⟩ : S36) )) (Reps.c2 (show Kd.M k36 _ _ _ (⟨0, 0⟩ : S36) [.int .u64 0, .int .u64 0] from (k36_mkM _ _ _ (⟨0, 0⟩ : S36) )) (Reps.none _ _)))); intro v196 w92 ho93 hb hg_ hnew_; clear hg_ hnew_; (first | rw [← Ny195.out] at ho93 | (simp only [Int.reduceToNat] at ho93; rw [← Ny195.out] at ho93)); have n0_ := Aside0.mk (Kd.R_lower (Kd.R_newB ho93 (g := g194) (o := .cells #[.int .u64 0, .int .u64 0] 36 (0, 0)) (by exact B194.out)) (below_size (by repeat (first | (with_reducible first | exact HB.out | apply below_alloc | apply pw_below_drewN | apply below_drew1 | refine below_set ?_ GE194.out) | exact HB.out)))); have n1_ := Aside0.mk (blk_below (g := g194) (o := .cells #[.int .u64 0, .int .u64 0] 36 (0, 0)) (by exact B194.out) hb); have n2_ := Aside0.mk (below_step (by repeat (first | (with_reducible first | exact HB.out | apply below_alloc | apply pw_below_drewN | apply below_drew1 | refine below_set ?_ GE194.out) | exact HB.out)) hb); clear B194; clear HB; have HO197 := n0_; have B194 := n1_; have HB := n2_; clear n0_ n1_ n2_; clear hb ho93; obtain ⟨Ao94, co94, eo94⟩ := Kd.R_slice HO197.out; subst eo94) | ((with_reducible refine gate_callee (f := 13) rfl ?_); refine goesL_ (some 10) rfl rfl Tryd.func13 (by kernel_rfl) rfl #[.int .i64 0, .slice Ao94 y195.length co94, .int .i64 0] rfl (by (try simp only [List.map_toArray, List.map_cons, List.map_nil]); first | done | rfl | (go_simp; done)) ?_; (with_reducible refine (tree_Build.calls k 0 _ _ y195 0 t198 t199 t200 t201 t204 _ ?side1 ?side2 ?side3 A1.out).mono ?_); (case side1 => repeat (first | exact (Kd.R_reads' HO197.out).2.2 | (with_reducible refine Kd.C_alloc ?_ _) | (with_reducible refine Kd.C_drewN ?_ _) | (with_reducible refine Kd.C_drew ?_))); (case side2 => exact (Kd.R_reads' HO197.out).2.1); (case side3 => repeat (first | exact (GL.below HRG.out HB.out) | (with_reducible refine GL.alloc ?_ _) | (with_reducible refine GL.drewN ?_ _) | (with_reducible refine GL.drew ?_))); rintro e w95 ⟨v202, rfl, ho0, hb⟩; refine ⟨_, rfl, ?_⟩; have n0_ := Aside0.mk (Kd.R_below (by (with_reducible repeat (first | apply Kd.R_alloc | apply Kd.R_drewN | apply Kd.R_drew)); exact HO197.out) hb); have n1_ := Aside0.mk (Kd.S_lower (Kd.S_newB (Kd.S_new' ho0 (Kd.R_lt (by (with_reducible repeat (first | apply Kd.R_alloc | apply Kd.R_drewN | apply Kd.R_drew)); exact HO197.out))) (g := g194) (o := .cells #[.int .u64 0, .int .u64 0] 36 (0, 0)) (by exact B194.out)) (below_size (by repeat (first | (with_reducible first | exact HB.out | apply below_alloc | apply pw_below_drewN | apply below_drew1 | refine below_set ?_ GE194.out) | exact HB.out)))); have n2_ := Aside0.mk (blk_below (g := g194) (o := .cells #[.int .u64 0, .int .u64 0] 36 (0, 0)) (by exact B194.out) hb); have n3_ := Aside0.mk (below_step (by repeat (first | (with_reducible first | exact HB.out | apply below_alloc | apply pw_below_drewN | apply below_drew1 | refine below_set ?_ GE194.out) | exact HB.out)) hb); clear HO197; clear B194; clear HB; have HO197 := n0_; have HO203 := n1_; have B194 := n2_; have HB := n3_; clear n0_ n1_ n2_ n3_; (try clear hb); (try clear hb2); (try clear hk); (try clear hi); (try clear ho0)) | ((with_reducible refine gate_dst (N := 2) rfl ?_); (try (refine gate_guard (by rfl) ?_; dsimp only)); refine box_event ?hg (N := 2) ?hd (cs := #[.int .i64 0, .int .i64 0, .int .i64 0, .slice none 0 0]) (t := 26) ?hr ?_; (case hd => rfl); (case hg => rfl); (case hr => first | (go_simp; done) | (go_simp; rfl)); intro g205 hg w96 hbox hb; have n0_ := Aside0.mk (Kd.R_below (by (with_reducible repeat (first | apply Kd.R_alloc | apply Kd.R_drewN | apply Kd.R_drew)); exact HO197.out) hb); have n1_ := Aside0.mk (Kd.S_below (by (with_reducible repeat (first | apply Kd.S_alloc | apply Kd.S_drewN | apply Kd.S_drew)); exact HO203.out) hb); have n2_ := Aside0.mk (blk_below (g := g194) (o := .cells #[.int .u64 0, .int .u64 0] 36 (0, 0)) (by exact B194.out) hb); have n3_ := Aside0.mk (below_step (by repeat (first | (with_reducible first | exact HB.out | apply below_alloc | apply pw_below_drewN | apply below_drew1 | refine below_set ?_ GE194.out) | exact HB.out)) hb); have n4_ := Aside0.mk (hbox); have n5_ := Aside0.mk ((by rw [hg]; exact (below_size (by repeat (first | (with_reducible first | exact HB.out | apply below_alloc | apply pw_below_drewN | apply below_drew1 | refine below_set ?_ GE194.out) | exact HB.out))) : w.heap.size ≤ g205)); have n6_ := Aside0.mk ((by rw [hg]; exact (below_size (by repeat (first | (with_reducible first | exact HB.out | apply below_alloc | apply pw_below_drewN | apply below_drew1 | refine below_set ?_ GE194.out) | exact HB.out))) : w.heap.size ≤ g205)); have n7_ := Aside0.mk ((by rw [hg]; exact Nat.ne_of_lt (blk_lt (g := g194) (o := .cells #[.int .u64 0, .int .u64 0] 36 (0, 0)) (by exact B194.out)) : g194 ≠ g205)); have n8_ := Aside0.mk ((by rw [hg]; exact Nat.ne_of_gt (blk_lt (g := g194) (o := .cells #[.int .u64 0, .int .u64 0] 36 (0, 0)) (by exact B194.out)) : g205 ≠ g194)); clear HO197; clear HO203; clear B194; clear HB; have HO197 := n0_; have HO203 := n1_; have B194 := n2_; have HB := n3_; have B205 := n4_; have GW205 := n5_; have GE205 := n6_; have NB194_205 := n7_; have NB205_194 := n8_; clear n0_ n1_ n2_ n3_ n4_ n5_ n6_ n7_ n8_; clear hb hbox hg; have hnb97 := NB205_194.out; have hnc97 := NB194_205.out; have hcz98_0 : w96.cell? ⟨g205, 0, none⟩ = some (.int .i64 0) := bq_ B205 0; have hcz98_1 : w96.cell? ⟨g205, 1, none⟩ = some (.int .i64 0) := bq_ B205 1; have hcz98_2 : w96.cell? ⟨g205, 2, none⟩ = some (.int .i64 0) := bq_ B205 2; have hcz98_3 : w96.cell? ⟨g205, 3, none⟩ = some (.slice none 0 0) := bq_ B205 3; have hfz98_0 := blk_frozen B205.out 0; have hfz98_1 := blk_frozen B205.out 1; have hfz98_2 := blk_frozen B205.out 2; have hfz98_3 := blk_frozen B205.out 3; obtain ⟨Ao99, co99, eo99⟩ := Kd.S_slice HO203.out; subst eo99) | ((with_reducible refine gate_callee (f := 23) rfl ?_); refine goesL_ (some 15) rfl rfl Tryd.func23 (by kernel_rfl) rfl #[.agg #[.int .i64 t198, .int .i64 t199, .int .i64 t200, .slice Ao99 t201.length co99], .int .i64 1] rfl (by (try simp only [List.map_toArray, List.map_cons, List.map_nil]); first | done | rfl | (go_simp; done)) ?_; (with_reducible refine (tree_Path.calls k t198 t199 t200 _ _ t201 1 t206 t209 _ ?side1 ?side2 ?side3 A2.out).mono ?_); (case side1 => refine (Kd.S_reads' (e := 22) (base := w.heap.size) (ok := fun k_ => ((True ∧ some k_ ≠ (.slice Ao94 y195.length co94 : Value).ownBlock) ∧ k_ ≠ g194)) (n := t201.length) (c := co99) ?_).2.2; exact (by (with_reducible repeat (first | apply Kd.S_alloc | apply Kd.S_drewN | apply Kd.S_drew)); exact (Kd.S_mono (Kd.S_far (p := ⟨g205, 3, none⟩) (Kd.S_far (p := ⟨g205, 2, none⟩) (Kd.S_far (p := ⟨g205, 1, none⟩) (Kd.S_far (p := ⟨g205, 0, none⟩) (Kd.S_types HO203.out B205.out (by decide)) (fun _ hk => hk.2) (.int .i64 t198)) (fun _ hk => hk.2) (.int .i64 t199)) (fun _ hk => hk.2) (.int .i64 t200)) (fun _ hk => hk.2) (.slice Ao99 t201.length co99)) (fun _ h_ => h_.1)))); (case side2 => exact (Kd.S_reads' HO203.out).2.1); (case side3 => exact GL.below HRG.out (by repeat (first | (with_reducible first | exact HB.out | apply below_alloc | apply pw_below_drewN | apply below_drew1 | refine below_set ?_ GE194.out | refine below_set ?_ GE205.out) | exact HB.out))); rintro e w100 ⟨v207, rfl, ho0, hb⟩; refine ⟨_, rfl, ?_⟩; have n0_ := Aside0.mk (Kd.R_elder' (by (with_reducible repeat (first | apply Kd.R_alloc | apply Kd.R_drewN | apply Kd.R_drew)); exact (Kd.R_mono (Kd.R_far (p := ⟨g205, 3, none⟩) (Kd.R_far (p := ⟨g205, 2, none⟩) (Kd.R_far (p := ⟨g205, 1, none⟩) (Kd.R_far (p := ⟨g205, 0, none⟩) (Kd.R_types HO197.out B205.out (by decide)) (fun _ hk => hk.2) (.int .i64 t198)) (fun _ hk => hk.2) (.int .i64 t199)) (fun _ hk => hk.2) (.int .i64 t200)) (fun _ hk => hk.2) (.slice Ao99 t201.length co99)) (fun _ h_ => h_.1))) (Kd.R_base ho0) hb); have n1_ := Aside0.mk (Kd.S_elder' (by (with_reducible repeat (first | apply Kd.S_alloc | apply Kd.S_drewN | apply Kd.S_drew)); exact (Kd.S_mono (Kd.S_far (p := ⟨g205, 3, none⟩) (Kd.S_far (p := ⟨g205, 2, none⟩) (Kd.S_far (p := ⟨g205, 1, none⟩) (Kd.S_far (p := ⟨g205, 0, none⟩) (Kd.S_types HO203.out B205.out (by decide)) (fun _ hk => hk.2) (.int .i64 t198)) (fun _ hk => hk.2) (.int .i64 t199)) (fun _ hk => hk.2) (.int .i64 t200)) (fun _ hk => hk.2) (.slice Ao99 t201.length co99)) (fun _ h_ => h_.1))) (Kd.R_base ho0) hb); have n2_ := Aside0.mk (Kd.R_lower (Kd.R_newB (Kd.R_new' ho0 (Kd.R_lt (by (with_reducible repeat (first | apply Kd.R_alloc | apply Kd.R_drewN | apply Kd.R_drew)); exact (Kd.R_mono (Kd.R_far (p := ⟨g205, 3, none⟩) (Kd.R_far (p := ⟨g205, 2, none⟩) (Kd.R_far (p := ⟨g205, 1, none⟩) (Kd.R_far (p := ⟨g205, 0, none⟩) (Kd.R_types HO197.out B205.out (by decide)) (fun _ hk => hk.2) (.int .i64 t198)) (fun _ hk => hk.2) (.int .i64 t199)) (fun _ hk => hk.2) (.int .i64 t200)) (fun _ hk => hk.2) (.slice Ao99 t201.length co99)) (fun _ h_ => h_.1))))) (g := g194) (o := .cells #[.int .u64 0, .int .u64 0] 36 (0, 0)) (by refine blk_far ?_ NB194_205.out _; refine blk_far ?_ NB194_205.out _; refine blk_far ?_ NB194_205.out _; refine blk_far ?_ NB194_205.out _; exact B194.out)) (below_size (by repeat (first | (with_reducible first | exact HB.out | apply below_alloc | apply pw_below_drewN | apply below_drew1 | refine below_set ?_ GE194.out | refine below_set ?_ GE205.out) | exact HB.out)))); have n3_ := Aside0.mk (blk_below (g := g194) (o := .cells #[.int .u64 0, .int .u64 0] 36 (0, 0)) (by refine blk_far ?_ NB194_205.out _; refine blk_far ?_ NB194_205.out _; refine blk_far ?_ NB194_205.out _; refine blk_far ?_ NB194_205.out _; exact B194.out) hb); have n4_ := Aside0.mk (blk_below (g := g205) (o := .cells #[.int .i64 t198, .int .i64 t199, .int .i64 t200, .slice Ao99 t201.length co99] 26 (0, 0)) (by refine blk_put (cs := #[.int .i64 t198, .int .i64 t199, .int .i64 t200, .slice none 0 0]) ?_ 3 _ rfl; refine blk_put (cs := #[.int .i64 t198, .int .i64 t199, .int .i64 0, .slice none 0 0]) ?_ 2 _ rfl; refine blk_put (cs := #[.int .i64 t198, .int .i64 0, .int .i64 0, .slice none 0 0]) ?_ 1 _ rfl; refine blk_put (cs := #[.int .i64 0, .int .i64 0, .int .i64 0, .slice none 0 0]) ?_ 0 _ rfl; exact B205.out) hb); have n5_ := Aside0.mk (below_step (by repeat (first | (with_reducible first | exact HB.out | apply below_alloc | apply pw_below_drewN | apply below_drew1 | refine below_set ?_ GE194.out | refine below_set ?_ GE205.out) | exact HB.out)) hb); clear HO197; clear HO203; clear B194; clear B205; clear HB; have HO197 := n0_; have HO203 := n1_; have HO208 := n2_; have B194 := n3_; have B205 := n4_; have HB := n5_; clear n0_ n1_ n2_ n3_ n4_ n5_; (try clear hb); (try clear hb2); (try clear hk); (try clear hi); (try clear ho0)))
   go_ret
   exact ⟨by first | rfl | (simp [errW_none, errW_some] <;> rfl) | (simp [*, errW_none, errW_some] <;> rfl), by repeat (first | (with_reducible first | exact HB.out | apply below_alloc | apply pw_below_drewN | apply below_drew1 | refine below_set ?_ GE194.out | refine below_set ?_ GE205.out) | exact HB.out)⟩
 ·rw [if_neg c3] at H
  have c3b0 : (t204 == 0) = false := beq_eq_false_iff_ne.mpr c3
  have c3b1 : (t204 != 0) = true := bne_iff_ne.mpr c3
  obtain rfl := Option.some.inj H
  go_enter Tryd.func21, Tryd.ntmps21
  go_wp2_with (first | ((with_reducible refine gate_dst (N := 1) rfl ?_); (try (refine gate_guard (by rfl) ?_; dsimp only)); refine box_event ?hg (N := 1) ?hd (cs := #[.int .u64 0, .int .u64 0]) (t := 36) ?hr ?_; (case hd => rfl); (case hg => rfl); (case hr => first | (go_simp; done) | (go_simp; rfl)); intro g194 hg w101 hbox hb; have n0_ := Aside0.mk (below_step (by repeat (first | (with_reducible first | exact HB.out | apply below_alloc | apply pw_below_drewN | apply below_drew1) | exact HB.out)) hb); have n1_ := Aside0.mk (hbox); have n2_ := Aside0.mk ((by rw [hg]; exact (below_size (by repeat (first | (with_reducible first | exact HB.out | apply below_alloc | apply pw_below_drewN | apply below_drew1) | exact HB.out))) : w.heap.size ≤ g194)); have n3_ := Aside0.mk ((by rw [hg]; exact (below_size (by repeat (first | (with_reducible first | exact HB.out | apply below_alloc | apply pw_below_drewN | apply below_drew1) | exact HB.out))) : w.heap.size ≤ g194)); clear HB; have HB := n0_; have B194 := n1_; have GW194 := n2_; have GE194 := n3_; clear n0_ n1_ n2_ n3_; clear hb hbox hg; have hcz102_0 : w101.cell? ⟨g194, 0, none⟩ = some (.int .u64 0) := bq_ B194 0; have hcz102_1 : w101.cell? ⟨g194, 1, none⟩ = some (.int .u64 0) := bq_ B194 1; have hfz102_0 := blk_frozen B194.out 0; have hfz102_1 := blk_frozen B194.out 1) | ((with_reducible refine gate_dst (N := 9) rfl ?_); (try (refine gate_guard (by rfl) ?_; dsimp only)); refine Kd.R_lit k36 _ 36 ?hg (N := 9) ?hd (xs := ([(⟨0, 0⟩ : S36), (⟨0, 0⟩ : S36)] : List (S36))) (inner := [.int .u64 0, .int .u64 0, .int .u64 0, .int .u64 0]) (ok := fun _ => True) (okp := fun _ => True) ?hr ?hp (fun _ hk => hk) trivial (Below.refl _ _) (Nat.le_refl _) (by simp) ?_; (case hd => rfl); (case hg => rfl); (case hr => first | (go_simp; done) | (go_simp; rfl)); (case hp => exact (Reps.c2 (show Kd.M k36 _ _ _ (⟨0, 0⟩ : S36) [.int .u64 0, .int .u64 0] from (k36_mkM _ _ _ (⟨0, 0⟩ : S36) )) (Reps.c2 (show Kd.M k36 _ _ _ (⟨0, 0⟩ : S36) [.int .u64 0, .int .u64 0] from (k36_mkM _ _ _ (⟨0, 0⟩ : S36) )) (Reps.none _ _)))); intro v196 w103 ho104 hb hg_ hnew_; clear hg_ hnew_; (first | rw [← Ny195.out] at ho104 | (simp only [Int.reduceToNat] at ho104; rw [← Ny195.out] at ho104)); have n0_ := Aside0.mk (Kd.R_lower (Kd.R_newB ho104 (g := g194) (o := .cells #[.int .u64 0, .int .u64 0] 36 (0, 0)) (by exact B194.out)) (below_size (by repeat (first | (with_reducible first | exact HB.out | apply below_alloc | apply pw_below_drewN | apply below_drew1 | refine below_set ?_ GE194.out) | exact HB.out)))); have n1_ := Aside0.mk (blk_below (g := g194) (o := .cells #[.int .u64 0, .int .u64 0] 36 (0, 0)) (by exact B194.out) hb); have n2_ := Aside0.mk (below_step (by repeat (first | (with_reducible first | exact HB.out | apply below_alloc | apply pw_below_drewN | apply below_drew1 | refine below_set ?_ GE194.out) | exact HB.out)) hb); clear B194; clear HB; have HO197 := n0_; have B194 := n1_; have HB := n2_; clear n0_ n1_ n2_; clear hb ho104; obtain ⟨Ao105, co105, eo105⟩ := Kd.R_slice HO197.out; subst eo105) | ((with_reducible refine gate_callee (f := 13) rfl ?_); refine goesL_ (some 10) rfl rfl Tryd.func13 (by kernel_rfl) rfl #[.int .i64 0, .slice Ao105 y195.length co105, .int .i64 0] rfl (by (try simp only [List.map_toArray, List.map_cons, List.map_nil]); first | done | rfl | (go_simp; done)) ?_; (with_reducible refine (tree_Build.calls k 0 _ _ y195 0 t198 t199 t200 t201 t204 _ ?side1 ?side2 ?side3 A1.out).mono ?_); (case side1 => repeat (first | exact (Kd.R_reads' HO197.out).2.2 | (with_reducible refine Kd.C_alloc ?_ _) | (with_reducible refine Kd.C_drewN ?_ _) | (with_reducible refine Kd.C_drew ?_))); (case side2 => exact (Kd.R_reads' HO197.out).2.1); (case side3 => repeat (first | exact (GL.below HRG.out HB.out) | (with_reducible refine GL.alloc ?_ _) | (with_reducible refine GL.drewN ?_ _) | (with_reducible refine GL.drew ?_))); rintro e w106 ⟨v202, rfl, ho0, hb⟩; refine ⟨_, rfl, ?_⟩; have n0_ := Aside0.mk (Kd.R_below (by (with_reducible repeat (first | apply Kd.R_alloc | apply Kd.R_drewN | apply Kd.R_drew)); exact HO197.out) hb); have n1_ := Aside0.mk (Kd.S_lower (Kd.S_newB (Kd.S_new' ho0 (Kd.R_lt (by (with_reducible repeat (first | apply Kd.R_alloc | apply Kd.R_drewN | apply Kd.R_drew)); exact HO197.out))) (g := g194) (o := .cells #[.int .u64 0, .int .u64 0] 36 (0, 0)) (by exact B194.out)) (below_size (by repeat (first | (with_reducible first | exact HB.out | apply below_alloc | apply pw_below_drewN | apply below_drew1 | refine below_set ?_ GE194.out) | exact HB.out)))); have n2_ := Aside0.mk (blk_below (g := g194) (o := .cells #[.int .u64 0, .int .u64 0] 36 (0, 0)) (by exact B194.out) hb); have n3_ := Aside0.mk (below_step (by repeat (first | (with_reducible first | exact HB.out | apply below_alloc | apply pw_below_drewN | apply below_drew1 | refine below_set ?_ GE194.out) | exact HB.out)) hb); clear HO197; clear B194; clear HB; have HO197 := n0_; have HO203 := n1_; have B194 := n2_; have HB := n3_; clear n0_ n1_ n2_ n3_; (try clear hb); (try clear hb2); (try clear hk); (try clear hi); (try clear ho0)) | ((with_reducible refine gate_dst (N := 2) rfl ?_); (try (refine gate_guard (by rfl) ?_; dsimp only)); refine box_event ?hg (N := 2) ?hd (cs := #[.int .i64 0, .int .i64 0, .int .i64 0, .slice none 0 0]) (t := 26) ?hr ?_; (case hd => rfl); (case hg => rfl); (case hr => first | (go_simp; done) | (go_simp; rfl)); intro g205 hg w107 hbox hb; have n0_ := Aside0.mk (Kd.R_below (by (with_reducible repeat (first | apply Kd.R_alloc | apply Kd.R_drewN | apply Kd.R_drew)); exact HO197.out) hb); have n1_ := Aside0.mk (Kd.S_below (by (with_reducible repeat (first | apply Kd.S_alloc | apply Kd.S_drewN | apply Kd.S_drew)); exact HO203.out) hb); have n2_ := Aside0.mk (blk_below (g := g194) (o := .cells #[.int .u64 0, .int .u64 0] 36 (0, 0)) (by exact B194.out) hb); have n3_ := Aside0.mk (below_step (by repeat (first | (with_reducible first | exact HB.out | apply below_alloc | apply pw_below_drewN | apply below_drew1 | refine below_set ?_ GE194.out) | exact HB.out)) hb); have n4_ := Aside0.mk (hbox); have n5_ := Aside0.mk ((by rw [hg]; exact (below_size (by repeat (first | (with_reducible first | exact HB.out | apply below_alloc | apply pw_below_drewN | apply below_drew1 | refine below_set ?_ GE194.out) | exact HB.out))) : w.heap.size ≤ g205)); have n6_ := Aside0.mk ((by rw [hg]; exact (below_size (by repeat (first | (with_reducible first | exact HB.out | apply below_alloc | apply pw_below_drewN | apply below_drew1 | refine below_set ?_ GE194.out) | exact HB.out))) : w.heap.size ≤ g205)); have n7_ := Aside0.mk ((by rw [hg]; exact Nat.ne_of_lt (blk_lt (g := g194) (o := .cells #[.int .u64 0, .int .u64 0] 36 (0, 0)) (by exact B194.out)) : g194 ≠ g205)); have n8_ := Aside0.mk ((by rw [hg]; exact Nat.ne_of_gt (blk_lt (g := g194) (o := .cells #[.int .u64 0, .int .u64 0] 36 (0, 0)) (by exact B194.out)) : g205 ≠ g194)); clear HO197; clear HO203; clear B194; clear HB; have HO197 := n0_; have HO203 := n1_; have B194 := n2_; have HB := n3_; have B205 := n4_; have GW205 := n5_; have GE205 := n6_; have NB194_205 := n7_; have NB205_194 := n8_; clear n0_ n1_ n2_ n3_ n4_ n5_ n6_ n7_ n8_; clear hb hbox hg; have hnb108 := NB205_194.out; have hnc108 := NB194_205.out; have hcz109_0 : w107.cell? ⟨g205, 0, none⟩ = some (.int .i64 0) := bq_ B205 0; have hcz109_1 : w107.cell? ⟨g205, 1, none⟩ = some (.int .i64 0) := bq_ B205 1; have hcz109_2 : w107.cell? ⟨g205, 2, none⟩ = some (.int .i64 0) := bq_ B205 2; have hcz109_3 : w107.cell? ⟨g205, 3, none⟩ = some (.slice none 0 0) := bq_ B205 3; have hfz109_0 := blk_frozen B205.out 0; have hfz109_1 := blk_frozen B205.out 1; have hfz109_2 := blk_frozen B205.out 2; have hfz109_3 := blk_frozen B205.out 3; obtain ⟨Ao110, co110, eo110⟩ := Kd.S_slice HO203.out; subst eo110) | ((with_reducible refine gate_callee (f := 23) rfl ?_); refine goesL_ (some 15) rfl rfl Tryd.func23 (by kernel_rfl) rfl #[.agg #[.int .i64 t198, .int .i64 t199, .int .i64 t200, .slice Ao110 t201.length co110], .int .i64 1] rfl (by (try simp only [List.map_toArray, List.map_cons, List.map_nil]); first | done | rfl | (go_simp; done)) ?_; (with_reducible refine (tree_Path.calls k t198 t199 t200 _ _ t201 1 t206 t209 _ ?side1 ?side2 ?side3 A2.out).mono ?_); (case side1 => refine (Kd.S_reads' (e := 22) (base := w.heap.size) (ok := fun k_ => ((True ∧ some k_ ≠ (.slice Ao105 y195.length co105 : Value).ownBlock) ∧ k_ ≠ g194)) (n := t201.length) (c := co110) ?_).2.2; exact (by (with_reducible repeat (first | apply Kd.S_alloc | apply Kd.S_drewN | apply Kd.S_drew)); exact (Kd.S_mono (Kd.S_far (p := ⟨g205, 3, none⟩) (Kd.S_far (p := ⟨g205, 2, none⟩) (Kd.S_far (p := ⟨g205, 1, none⟩) (Kd.S_far (p := ⟨g205, 0, none⟩) (Kd.S_types HO203.out B205.out (by decide)) (fun _ hk => hk.2) (.int .i64 t198)) (fun _ hk => hk.2) (.int .i64 t199)) (fun _ hk => hk.2) (.int .i64 t200)) (fun _ hk => hk.2) (.slice Ao110 t201.length co110)) (fun _ h_ => h_.1)))); (case side2 => exact (Kd.S_reads' HO203.out).2.1); (case side3 => exact GL.below HRG.out (by repeat (first | (with_reducible first | exact HB.out | apply below_alloc | apply pw_below_drewN | apply below_drew1 | refine below_set ?_ GE194.out | refine below_set ?_ GE205.out) | exact HB.out))); rintro e w111 ⟨v207, rfl, ho0, hb⟩; refine ⟨_, rfl, ?_⟩; have n0_ := Aside0.mk (Kd.R_elder' (by (with_reducible repeat (first | apply Kd.R_alloc | apply Kd.R_drewN | apply Kd.R_drew)); exact (Kd.R_mono (Kd.R_far (p := ⟨g205, 3, none⟩) (Kd.R_far (p := ⟨g205, 2, none⟩) (Kd.R_far (p := ⟨g205, 1, none⟩) (Kd.R_far (p := ⟨g205, 0, none⟩) (Kd.R_types HO197.out B205.out (by decide)) (fun _ hk => hk.2) (.int .i64 t198)) (fun _ hk => hk.2) (.int .i64 t199)) (fun _ hk => hk.2) (.int .i64 t200)) (fun _ hk => hk.2) (.slice Ao110 t201.length co110)) (fun _ h_ => h_.1))) (Kd.R_base ho0) hb); have n1_ := Aside0.mk (Kd.S_elder' (by (with_reducible repeat (first | apply Kd.S_alloc | apply Kd.S_drewN | apply Kd.S_drew)); exact (Kd.S_mono (Kd.S_far (p := ⟨g205, 3, none⟩) (Kd.S_far (p := ⟨g205, 2, none⟩) (Kd.S_far (p := ⟨g205, 1, none⟩) (Kd.S_far (p := ⟨g205, 0, none⟩) (Kd.S_types HO203.out B205.out (by decide)) (fun _ hk => hk.2) (.int .i64 t198)) (fun _ hk => hk.2) (.int .i64 t199)) (fun _ hk => hk.2) (.int .i64 t200)) (fun _ hk => hk.2) (.slice Ao110 t201.length co110)) (fun _ h_ => h_.1))) (Kd.R_base ho0) hb); have n2_ := Aside0.mk (Kd.R_lower (Kd.R_newB (Kd.R_new' ho0 (Kd.R_lt (by (with_reducible repeat (first | apply Kd.R_alloc | apply Kd.R_drewN | apply Kd.R_drew)); exact (Kd.R_mono (Kd.R_far (p := ⟨g205, 3, none⟩) (Kd.R_far (p := ⟨g205, 2, none⟩) (Kd.R_far (p := ⟨g205, 1, none⟩) (Kd.R_far (p := ⟨g205, 0, none⟩) (Kd.R_types HO197.out B205.out (by decide)) (fun _ hk => hk.2) (.int .i64 t198)) (fun _ hk => hk.2) (.int .i64 t199)) (fun _ hk => hk.2) (.int .i64 t200)) (fun _ hk => hk.2) (.slice Ao110 t201.length co110)) (fun _ h_ => h_.1))))) (g := g194) (o := .cells #[.int .u64 0, .int .u64 0] 36 (0, 0)) (by refine blk_far ?_ NB194_205.out _; refine blk_far ?_ NB194_205.out _; refine blk_far ?_ NB194_205.out _; refine blk_far ?_ NB194_205.out _; exact B194.out)) (below_size (by repeat (first | (with_reducible first | exact HB.out | apply below_alloc | apply pw_below_drewN | apply below_drew1 | refine below_set ?_ GE194.out | refine below_set ?_ GE205.out) | exact HB.out)))); have n3_ := Aside0.mk (blk_below (g := g194) (o := .cells #[.int .u64 0, .int .u64 0] 36 (0, 0)) (by refine blk_far ?_ NB194_205.out _; refine blk_far ?_ NB194_205.out _; refine blk_far ?_ NB194_205.out _; refine blk_far ?_ NB194_205.out _; exact B194.out) hb); have n4_ := Aside0.mk (blk_below (g := g205) (o := .cells #[.int .i64 t198, .int .i64 t199, .int .i64 t200, .slice Ao110 t201.length co110] 26 (0, 0)) (by refine blk_put (cs := #[.int .i64 t198, .int .i64 t199, .int .i64 t200, .slice none 0 0]) ?_ 3 _ rfl; refine blk_put (cs := #[.int .i64 t198, .int .i64 t199, .int .i64 0, .slice none 0 0]) ?_ 2 _ rfl; refine blk_put (cs := #[.int .i64 t198, .int .i64 0, .int .i64 0, .slice none 0 0]) ?_ 1 _ rfl; refine blk_put (cs := #[.int .i64 0, .int .i64 0, .int .i64 0, .slice none 0 0]) ?_ 0 _ rfl; exact B205.out) hb); have n5_ := Aside0.mk (below_step (by repeat (first | (with_reducible first | exact HB.out | apply below_alloc | apply pw_below_drewN | apply below_drew1 | refine below_set ?_ GE194.out | refine below_set ?_ GE205.out) | exact HB.out)) hb); clear HO197; clear HO203; clear B194; clear B205; clear HB; have HO197 := n0_; have HO203 := n1_; have HO208 := n2_; have B194 := n3_; have B205 := n4_; have HB := n5_; clear n0_ n1_ n2_ n3_ n4_ n5_; (try clear hb); (try clear hb2); (try clear hk); (try clear hi); (try clear ho0)))
  go_ret
  exact ⟨by first | rfl | (simp [errW_none, errW_some] <;> rfl) | (simp [*, errW_none, errW_some] <;> rfl), by repeat (first | (with_reducible first | exact HB.out | apply below_alloc | apply pw_below_drewN | apply below_drew1 | refine below_set ?_ GE194.out | refine below_set ?_ GE205.out) | exact HB.out)⟩

end Go.Proofs.YtpnpmeogffodgaaDoor.Q
end
section
namespace Go.Proofs.YtpnpmeogffodgaaDoor.Q
open Go.RowKit Go.Proofs.YtpnpmeogffodgaaDoorW.PrintWords Go.Proofs.YtpnpmeogffodgaaDoorW.PrintLast Go.Proofs.YtpnpmeogffodgaaDoorW.PrintMore
open Go.Proofs.YtpnpmeogffodgaaDoor.Num
set_option linter.unusedVariables false
set_option linter.unusedSimpArgs false
def okD (p : Int) (d : S36) : Bool := decide (d.f0 < p) && decide (d.f1 < p)
theorem bad_ok (p : Int) (d : S36) : badD p d = !(okD p d) := by
  unfold badD okD
  by_cases h0 : d.f0 < p
  · by_cases h1 : d.f1 < p
    · simp [h0, h1, Int.not_le.mpr h0, Int.not_le.mpr h1]
    · simp [h0, h1, Int.not_le.mpr h0, Int.not_lt.mp h1]
  · simp [h0, Int.not_lt.mp h0]
theorem proper_f (f : Int) (l : List S36) : tree_proper.f f l = some (l.all (okD (fp f))) := by
  have h : ∀ l : List S36, (!(l.any (badD (fp f)))) = l.all (okD (fp f)) := by
    intro l
    induction l with
    | nil => rfl
    | cons d l ih => rw [List.any_cons, List.all_cons, Bool.not_or, ih, bad_ok, Bool.not_not]
  unfold tree_proper.f
  rw [show field_P.f f = some (fp f) from rfl, Option.bind_some, h]
theorem lgI_neg (n : Int) (h : n < 1) : lgI n = -1 := lgI_none n fun k hk e => by have := Nat.pow_pos (n := k) (show 0 < 2 by decide); omega
theorem height_f (n : Int) : tree_height.f n = some (lgI n) := by
  unfold tree_height.f
  by_cases h : n < 1
  · rw [if_pos h, lgI_neg n h]
  · rw [if_neg h]
def nnD (d : S36) : Prop := 0 ≤ d.f0 ∧ 0 ≤ d.f1
theorem cut_f (l : List S36) (n : Nat) (h : n ≤ 1000) : attestorlaw07_cut.f l (n : Int) = some (l.take n) := by
  have e : mn (l.length : Int) (n : Int) = ((min l.length n : Nat) : Int) := by unfold mn; split <;> omega
  unfold attestorlaw07_cut.f
  rw [e, if_pos (by omega), if_pos (by omega), Option.bind_some, Int.toNat_natCast, if_pos (by simp; omega), List.nil_append]
  congr 1
  rcases Nat.le_total l.length n with h1 | h1
  · rw [Nat.min_eq_left h1, List.take_of_length_le (Nat.le_refl _), List.take_of_length_le h1]
  · rw [Nat.min_eq_right h1]
set_option maxRecDepth 100000 in
theorem lives_true (k : Nat) (hk : 80 ≤ k) : attestorlaw07_lives.f k = some true :=
  at_rounds (g := fun k => attestorlaw07_lives.f k) attestorlaw07_lives.mono hk (by decide +kernel)
end Go.Proofs.YtpnpmeogffodgaaDoor.Q
end
section
namespace Go.Proofs.YtpnpmeogffodgaaDoor.Q
open Go.RowKit Go.Proofs.YtpnpmeogffodgaaDoor.Opn
theorem nn_of {l : List S36} (h : ∀ y ∈ l, wf36 y) : ∀ d ∈ l, nnD d := fun d hd => ⟨(wf_u64 (h d hd).1).1, (wf_u64 (h d hd).2).1⟩
end Go.Proofs.YtpnpmeogffodgaaDoor.Q
end
section
namespace Go.Proofs.YtpnpmeogffodgaaDoor.Q
open Go.RowKit Go.Proofs.YtpnpmeogffodgaaDoorW.PrintWords Go.Proofs.YtpnpmeogffodgaaDoorW.PrintLast Go.Proofs.YtpnpmeogffodgaaDoorW.PrintMore
open Go.Proofs.YtpnpmeogffodgaaDoor.Num
set_option linter.unusedVariables false
set_option linter.unusedSimpArgs false
theorem valid_f (f : Int) : field_Valid.f f = some (decide (0 ≤ f ∧ f < 4)) := by
  by_cases h : 0 ≤ f ∧ f < 4
  · obtain ⟨p, g, e, D⟩ := fd_of h.1 h.2
    rw [valid_yes D.F, decide_eq_true h]
  · rw [valid_no h, decide_eq_false h]
def OpD (f i a b : Int) (l : List S36) : Prop := (0 ≤ f ∧ f < 4) ∧ 0 ≤ i ∧ l.length ≤ 18 ∧ okD (fp f) ⟨a, b⟩ = true ∧ l.all (okD (fp f)) = true
instance (f i a b : Int) (l : List S36) : Decidable (OpD f i a b l) := by unfold OpD; infer_instance
theorem opens_f (f i a b : Int) (l : List S36) : tree_opens.f f i a b l = some (decide (OpD f i a b l)) := by
  unfold tree_opens.f
  rw [valid_f, Option.bind_some]
  by_cases h1 : 0 ≤ f ∧ f < 4
  · rw [decide_eq_true h1, if_pos rfl]
    by_cases h2 : 0 ≤ i
    · rw [if_pos h2]
      by_cases h3 : l.length ≤ 18
      · rw [if_pos (by omega), proper_f, Option.bind_some]
        by_cases h4 : okD (fp f) ⟨a, b⟩ = true
        · rw [if_pos (by simp [h4]), proper_f, Option.bind_some]
          cases h5 : l.all (okD (fp f)) <;> simp [OpD, h1, h2, h3, h4, h5]
        · rw [if_neg (by simp [h4])]
          simp [OpD, h4]
      · rw [if_neg (by omega)]
        simp [OpD, h3]
    · rw [if_neg h2]
      simp [OpD, h2]
  · rw [decide_eq_false h1, if_neg (by decide)]
    simp only [OpD, h1, false_and, decide_false]
theorem shr_of (i : Int) (d : Nat) (h : d < 40) : shr .i64 i (d : Int) = i / ((2 ^ d : Nat) : Int) := by
  show i / 2 ^ min ((d : Int).toNat) 64 = _
  rw [Int.toNat_natCast, Nat.min_eq_left (by omega)]
  simp
end Go.Proofs.YtpnpmeogffodgaaDoor.Q
end
section
namespace Go.Proofs.YtpnpmeogffodgaaDoor.Q
open Go.RowKit Go.Proofs.YtpnpmeogffodgaaDoorW.PrintWords Go.Proofs.YtpnpmeogffodgaaDoorW.PrintLast Go.Proofs.YtpnpmeogffodgaaDoorW.PrintMore
attribute [local go_sem] max2_int min2_int max_two min_two max_three min_three max_four min_four run_store_fnV run_store_fnc run_store_nfn   -- for this text's walks alone
set_option linter.unusedVariables false
set_option linter.unusedSimpArgs false

theorem eqA48 (d : Nat) (w : World) (x0 y0 : Int) (x1 y1 : Int) (x2 y2 : Int) (x3 y3 : Int) :
    (Op.equalIn (d + 3) 48 (.agg #[.int .u64 x0, .int .u64 x1, .int .u64 x2, .int .u64 x3]) (.agg #[.int .u64 y0, .int .u64 y1, .int .u64 y2, .int .u64 y3])).run Tryd.prog w = .ok ((x0 == y0 && (x1 == y1)) && ((x2 == y2 && (x3 == y3)))) w := by
  refine eqarr_of (c := 2) (l := [0, 1]) Tryd.underlying48 (by kernel_rfl) (by kernel_rfl) (by rfl) ?_
  refine eqi_cons (by go_simp) (by go_simp) (eqA36 (d + 0) w _ _ _ _) ?_
  exact eqi_last (by go_simp) (by go_simp) (eqA36 (d + 0) w _ _ _ _)
end Go.Proofs.YtpnpmeogffodgaaDoor.Q
end
