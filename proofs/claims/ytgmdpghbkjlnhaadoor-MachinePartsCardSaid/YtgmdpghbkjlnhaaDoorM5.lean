/- Several texts in one, in build order. What they prove, each by its own first remark:
Written by our own copy of a printing program (a twelfth state) out of the translation. Not trusted: Lean checks it.
Of PRunsA what this claim needs.
Of PIter what this claim needs.
Of PMachS what this claim needs.
A record of many cells loaded whole in a region that only reads. -/
import Derived.Test.YtgmdpghbkjlnhaaDoorM2
import Derived.Test.YtgmdpghbkjlnhaaDoorM3
import Derived.Test.YtgmdpghbkjlnhaaDoorM4
import Derived.Deep.QuietTactic
section
namespace Go.Proofs.YtgmdpghbkjlnhaaDoor.Q
open Go.RowKit Go.Proofs.YtgmdpghbkjlnhaaDoorW.PrintWords Go.Proofs.YtgmdpghbkjlnhaaDoorW.PrintLast Go.Proofs.YtgmdpghbkjlnhaaDoorW.PrintMore
attribute [local go_sem] max2_int min2_int max_two min_two max_three min_three max_four min_four run_store_fnV run_store_fnc run_store_nfn   -- for this text's walks alone
set_option linter.unusedVariables false
set_option linter.unusedSimpArgs false

abbrev z21_0_ : Array Bool := #[false, false, false, false, false, false, false]
abbrev z21_1_ : Array Bool := #[true, false, false, false, false, false, false]
abbrev z21_2_ : Array Bool := #[true, true, false, false, false, false, false]
abbrev z21_3_ : Array Bool := #[true, true, true, false, false, false, false]
abbrev z21_4_ : Array Bool := #[true, true, true, false, true, false, false]
abbrev z21_5_ : Array Bool := #[true, true, true, true, true, false, false]
abbrev z21_6_ : Array Bool := #[true, true, true, true, true, true, false]
abbrev z21_7_ : Array Bool := #[true, true, true, true, true, true, true]
/-! ### machine_States: function 21 -/
def machine_States.l0 : Nat → List (S47) → List (S26) → Int → Int → Int → Int → Int → Int → Int → Int → Int → Int → Int → Int → Int → Int → Int → Int → Int → Int → Int → Int → Int → Int → Int → Option ((List (S26)) × Int)
  | 0, _, _, _, _, _, _, _, _, _, _, _, _, _, _, _, _, _, _, _, _, _, _, _, _, _ => none
  | k + 1, x0, x9, x21, x22, x458000, x458001, x458002, x458003, x458004, x458005, x458006, x458007, x458008, x458009, x458010, x458011, x458012, x458013, x458014, x458015, x458016, x458017, x458018, x458019, x458020 => if x22 < x21 then (if 0 ≤ x22 then (if x22 < (x9.length : Int) then ((isa_Fetch.f x0 x458000).bind fun bt463 => ((machine_step.f bt463.1 bt463.2.1 bt463.2.2.1 bt463.2.2.2 x458000 x458001 x458002 x458003 x458004 x458005 x458006 x458007 x458008 x458009 x458010 x458011 x458012 x458013 x458014 x458015 x458016 x458017 x458018 x458019 x458020).bind fun bt467 => (machine_States.l0 k x0 (x9.set (x22 : Int).toNat (⟨x458000, (⟨x458001, x458002, x458003, x458004⟩ : S23), (⟨x458005, x458006, x458007, x458008, x458009, x458010, x458011, x458012, x458013, x458014, x458015, x458016, x458017, x458018, x458019, x458020⟩ : S24)⟩ : S26)) x21 (wrap64 (x22 + 1)) bt467.1 bt467.2.1 bt467.2.2.1 bt467.2.2.2.1 bt467.2.2.2.2.1 bt467.2.2.2.2.2.1 bt467.2.2.2.2.2.2.1 bt467.2.2.2.2.2.2.2.1 bt467.2.2.2.2.2.2.2.2.1 bt467.2.2.2.2.2.2.2.2.2.1 bt467.2.2.2.2.2.2.2.2.2.2.1 bt467.2.2.2.2.2.2.2.2.2.2.2.1 bt467.2.2.2.2.2.2.2.2.2.2.2.2.1 bt467.2.2.2.2.2.2.2.2.2.2.2.2.2.1 bt467.2.2.2.2.2.2.2.2.2.2.2.2.2.2.1 bt467.2.2.2.2.2.2.2.2.2.2.2.2.2.2.2.1 bt467.2.2.2.2.2.2.2.2.2.2.2.2.2.2.2.2.1 bt467.2.2.2.2.2.2.2.2.2.2.2.2.2.2.2.2.2.1 bt467.2.2.2.2.2.2.2.2.2.2.2.2.2.2.2.2.2.2.1 bt467.2.2.2.2.2.2.2.2.2.2.2.2.2.2.2.2.2.2.2.1 bt467.2.2.2.2.2.2.2.2.2.2.2.2.2.2.2.2.2.2.2.2))) else (none)) else (none)) else (some (x9, 0))
def machine_States.f (k : Nat) (l0 : List (S47)) (a1_0 : Int) (a1_1 : Int) (a1_2 : Int) (a1_3 : Int) (a1_4 : Int) (a1_5 : Int) (a1_6 : Int) (a1_7 : Int) (a1_8 : Int) (a1_9 : Int) (a1_10 : Int) (a1_11 : Int) (a1_12 : Int) (a1_13 : Int) (a1_14 : Int) (a1_15 : Int) (a1_16 : Int) (a1_17 : Int) (a1_18 : Int) (a1_19 : Int) (a1_20 : Int) (a2 : Int) : Option ((List (S26)) × Int) := (machine_bound.f k l0 a1_0 a1_1 a1_2 a1_3 a1_4 a1_5 a1_6 a1_7 a1_8 a1_9 a1_10 a1_11 a1_12 a1_13 a1_14 a1_15 a1_16 a1_17 a1_18 a1_19 a1_20 a2).bind fun t458 => (if t458 = 0 then (if 0 ≤ a2 then (if (a2 : Int).toNat ≤ 8796093022208 then ((some (List.replicate (a2 : Int).toNat z26 : List (S26))).bind fun y459 => (machine_States.l0 k l0 y459 (y459.length : Int) 0 a1_0 a1_1 a1_2 a1_3 a1_4 a1_5 a1_6 a1_7 a1_8 a1_9 a1_10 a1_11 a1_12 a1_13 a1_14 a1_15 a1_16 a1_17 a1_18 a1_19 a1_20)) else (none)) else (none)) else (some (([] : List (S26)), t458)))
theorem machine_States.mono_l : ∀ k, (∀ y0 y1 y2 y3 y4 y5 y6 y7 y8 y9 y10 y11 y12 y13 y14 y15 y16 y17 y18 y19 y20 y21 y22 y23 y24, LeO (machine_States.l0 k y0 y1 y2 y3 y4 y5 y6 y7 y8 y9 y10 y11 y12 y13 y14 y15 y16 y17 y18 y19 y20 y21 y22 y23 y24) (machine_States.l0 (k + 1) y0 y1 y2 y3 y4 y5 y6 y7 y8 y9 y10 y11 y12 y13 y14 y15 y16 y17 y18 y19 y20 y21 y22 y23 y24))
  | 0 => fun _ _ _ _ _ _ _ _ _ _ _ _ _ _ _ _ _ _ _ _ _ _ _ _ _ r h => by simp [machine_States.l0] at h
  | k + 1 => by
    have ih0 := machine_States.mono_l k
    · intro y0 y1 y2 y3 y4 y5 y6 y7 y8 y9 y10 y11 y12 y13 y14 y15 y16 y17 y18 y19 y20 y21 y22 y23 y24
      unfold machine_States.l0
      repeat' first
      | (with_reducible exact ih0 _ _ _ _ _ _ _ _ _ _ _ _ _ _ _ _ _ _ _ _ _ _ _ _ _)
      | (with_reducible exact machine_bound.mono _ _ _ _ _ _ _ _ _ _ _ _ _ _ _ _ _ _ _ _ _ _ _ _)
      | (with_reducible exact LeO.refl _)
      | (with_reducible exact LeO.none _)
      | (with_reducible refine LeO.ite ?_ ?_)
      | (with_reducible refine LeO.bind ?_ (fun _ => ?_))
      | exact ih0 _ _ _ _ _ _ _ _ _ _ _ _ _ _ _ _ _ _ _ _ _ _ _ _ _
      | exact machine_bound.mono _ _ _ _ _ _ _ _ _ _ _ _ _ _ _ _ _ _ _ _ _ _ _ _
      | exact LeO.none _
      | refine LeO.ite ?_ ?_
      | refine LeO.bind ?_ (fun _ => ?_)
theorem machine_States.mono : ∀ a0 a1 a2 a3 a4 a5 a6 a7 a8 a9 a10 a11 a12 a13 a14 a15 a16 a17 a18 a19 a20 a21 a22 k, LeO (machine_States.f k a0 a1 a2 a3 a4 a5 a6 a7 a8 a9 a10 a11 a12 a13 a14 a15 a16 a17 a18 a19 a20 a21 a22) (machine_States.f (k + 1) a0 a1 a2 a3 a4 a5 a6 a7 a8 a9 a10 a11 a12 a13 a14 a15 a16 a17 a18 a19 a20 a21 a22) := by
  intro a0 a1 a2 a3 a4 a5 a6 a7 a8 a9 a10 a11 a12 a13 a14 a15 a16 a17 a18 a19 a20 a21 a22 k
  have ih0 := machine_States.mono_l k
  unfold machine_States.f
  repeat' first
      | (with_reducible exact ih0 _ _ _ _ _ _ _ _ _ _ _ _ _ _ _ _ _ _ _ _ _ _ _ _ _)
      | (with_reducible exact machine_bound.mono _ _ _ _ _ _ _ _ _ _ _ _ _ _ _ _ _ _ _ _ _ _ _ _)
      | (with_reducible exact LeO.refl _)
      | (with_reducible exact LeO.none _)
      | (with_reducible refine LeO.ite ?_ ?_)
      | (with_reducible refine LeO.bind ?_ (fun _ => ?_))
      | exact ih0 _ _ _ _ _ _ _ _ _ _ _ _ _ _ _ _ _ _ _ _ _ _ _ _ _
      | exact machine_bound.mono _ _ _ _ _ _ _ _ _ _ _ _ _ _ _ _ _ _ _ _ _ _ _ _
      | exact LeO.none _
      | refine LeO.ite ?_ ?_
      | refine LeO.bind ?_ (fun _ => ?_)
set_option maxHeartbeats 8000000 in
set_option maxRecDepth 100000 in
theorem machine_States.calls (k : Nat) (A0 : Option Addr) (c0 : Nat) (l0 : List (S47)) (a1_0 : Int) (a1_1 : Int) (a1_2 : Int) (a1_3 : Int) (a1_4 : Int) (a1_5 : Int) (a1_6 : Int) (a1_7 : Int) (a1_8 : Int) (a1_9 : Int) (a1_10 : Int) (a1_11 : Int) (a1_12 : Int) (a1_13 : Int) (a1_14 : Int) (a1_15 : Int) (a1_16 : Int) (a1_17 : Int) (a1_18 : Int) (a1_19 : Int) (a1_20 : Int) (a2 : Int) (r1 : List (S26)) (r2 : Int) (w : World) (hr0 : Kd.C k47 w A0 l0.length l0) (hc0 : l0.length ≤ c0) (hrG : GL w) (h : machine_States.f k l0 a1_0 a1_1 a1_2 a1_3 a1_4 a1_5 a1_6 a1_7 a1_8 a1_9 a1_10 a1_11 a1_12 a1_13 a1_14 a1_15 a1_16 a1_17 a1_18 a1_19 a1_20 a2 = some (r1, r2)) :
  Calls Tryd.prog 21 #[.slice A0 l0.length c0, .agg #[.int .i64 a1_0, .int .u8 a1_1, .int .u8 a1_2, .int .u8 a1_3, .int .u8 a1_4, .int .u8 a1_5, .int .u8 a1_6, .int .u8 a1_7, .int .u8 a1_8, .int .u8 a1_9, .int .u8 a1_10, .int .u8 a1_11, .int .u8 a1_12, .int .u8 a1_13, .int .u8 a1_14, .int .u8 a1_15, .int .u8 a1_16, .int .u8 a1_17, .int .u8 a1_18, .int .u8 a1_19, .int .u8 a1_20], .int .i64 a2] w fun e w' => ∃ v0_ : Value, e = .returned (.tuple #[v0_, .int .i64 r2]) ∧ Kd.R k26 26 w' w.heap.size (fun _ => True) v0_ r1 ∧ Below w.heap.size w w' := by
 have hu26 := Tryd.underlying26
 have HRG := Aside0.mk hrG
 clear hrG
 have HR0 := Aside0.mk hr0
 have HC0 := Aside0.mk hc0
 clear hr0 hc0
 have HB := Aside0.mk (Below.refl w.heap.size w)
 have H : ((machine_bound.f k l0 a1_0 a1_1 a1_2 a1_3 a1_4 a1_5 a1_6 a1_7 a1_8 a1_9 a1_10 a1_11 a1_12 a1_13 a1_14 a1_15 a1_16 a1_17 a1_18 a1_19 a1_20 a2).bind fun t458 => (if t458 = 0 then (if 0 ≤ a2 then (if (a2 : Int).toNat ≤ 8796093022208 then ((some (List.replicate (a2 : Int).toNat z26 : List (S26))).bind fun y459 => (machine_States.l0 k l0 y459 (y459.length : Int) 0 a1_0 a1_1 a1_2 a1_3 a1_4 a1_5 a1_6 a1_7 a1_8 a1_9 a1_10 a1_11 a1_12 a1_13 a1_14 a1_15 a1_16 a1_17 a1_18 a1_19 a1_20)) else (none)) else (none)) else (some (([] : List (S26)), t458)))) = some (r1, r2) := h
 clear h
 replace H := Option.bind_eq_some_iff.mp H
 obtain ⟨t458, A40, H⟩ := H
 have A4 := Aside0.mk A40
 clear A40
 by_cases c5 : t458 = 0
 ·rw [if_pos c5] at H
  have c5b0 : (t458 == 0) = true := beq_iff_eq.mpr c5
  have c5b1 : (t458 != 0) = false := bne_eq_false_iff_eq.mpr c5
  clear c5
  by_cases c6 : 0 ≤ a2
  ·rw [if_pos c6] at H
   have c6b0 := eq_true c6
   have c6b1 : decide (0 ≤ a2) = true := decide_eq_true c6
   clear c6
   by_cases c7 : (a2 : Int).toNat ≤ 8796093022208
   ·rw [if_pos c7] at H
    have c7b0 := eq_true c7
    have c7b1 : decide ((a2 : Int).toNat ≤ 8796093022208) = true := decide_eq_true c7
    clear c7
    obtain ⟨y459, hy459⟩ : ∃ y_ : List (S26), y_ = (List.replicate (a2 : Int).toNat z26) := ⟨_, rfl⟩
    replace H : (machine_States.l0 k l0 y459 (y459.length : Int) 0 a1_0 a1_1 a1_2 a1_3 a1_4 a1_5 a1_6 a1_7 a1_8 a1_9 a1_10 a1_11 a1_12 a1_13 a1_14 a1_15 a1_16 a1_17 a1_18 a1_19 a1_20) = some (r1, r2) := by first | (rw [hy459]; with_reducible exact H) | (have H2_ := (Option.bind_some _ _).symm.trans H; rw [hy459]; with_reducible exact H2_) | (have H2_ := (Option.bind_some _ _).symm.trans H; with_reducible exact H2_) | with_reducible exact H | (rw [hy459]; exact H) | exact H
    have Ny459 := Aside0.mk hy459
    clear hy459
    have H' := Aside0.mk H
    clear H
    go_enter Tryd.func21, Tryd.ntmps21
    go_wp2_with (first | ((with_reducible refine gate_dst (N := 4) rfl ?_); refine box_event ?hg (N := 4) ?hd (cs := #[.int .i64 a1_0, .int .u8 a1_1, .int .u8 a1_2, .int .u8 a1_3, .int .u8 a1_4, .int .u8 a1_5, .int .u8 a1_6, .int .u8 a1_7, .int .u8 a1_8, .int .u8 a1_9, .int .u8 a1_10, .int .u8 a1_11, .int .u8 a1_12, .int .u8 a1_13, .int .u8 a1_14, .int .u8 a1_15, .int .u8 a1_16, .int .u8 a1_17, .int .u8 a1_18, .int .u8 a1_19, .int .u8 a1_20]) (t := 26) ?hr ?_; (case hd => rfl); (case hg => rfl); (case hr => first | (go_simp; done) | (go_simp; rfl)); intro g457 hg w8 hbox hb; have n0_ := Aside0.mk (below_step (by repeat (first | (with_reducible first | exact HB.out | apply below_alloc | apply pw_below_drewN | apply below_drew1) | exact HB.out)) hb); have n1_ := Aside0.mk (hbox); have n2_ := Aside0.mk ((by rw [hg]; exact (below_size (by repeat (first | (with_reducible first | exact HB.out | apply below_alloc | apply pw_below_drewN | apply below_drew1) | exact HB.out))) : w.heap.size ≤ g457)); have n3_ := Aside0.mk ((by rw [hg]; exact (below_size (by repeat (first | (with_reducible first | exact HB.out | apply below_alloc | apply pw_below_drewN | apply below_drew1) | exact HB.out))) : w.heap.size ≤ g457)); clear HB; have HB := n0_; have B457 := n1_; have GW457 := n2_; have GE457 := n3_; clear n0_ n1_ n2_ n3_; clear hb hbox hg) | ((with_reducible refine gate_dst (N := 12) rfl ?_); refine wpList_load_row rfl 26 (.tmp 4) rfl g457 rfl 26 #[.int .i64 a1_0, .int .u8 a1_1, .int .u8 a1_2, .int .u8 a1_3, .int .u8 a1_4, .int .u8 a1_5, .int .u8 a1_6, .int .u8 a1_7, .int .u8 a1_8, .int .u8 a1_9, .int .u8 a1_10, .int .u8 a1_11, .int .u8 a1_12, .int .u8 a1_13, .int .u8 a1_14, .int .u8 a1_15, .int .u8 a1_16, .int .u8 a1_17, .int .u8 a1_18, .int .u8 a1_19, .int .u8 a1_20] (0, 0) _ (by exact B457.out) Tryd.underlying26 rfl (by kernel_rfl) ?_) | ((with_reducible refine gate_callee (f := 32) rfl ?_); refine goesL_ (some 14) rfl rfl Tryd.func32 (by kernel_rfl) rfl #[.slice A0 l0.length c0, .agg #[.int .i64 a1_0, .int .u8 a1_1, .int .u8 a1_2, .int .u8 a1_3, .int .u8 a1_4, .int .u8 a1_5, .int .u8 a1_6, .int .u8 a1_7, .int .u8 a1_8, .int .u8 a1_9, .int .u8 a1_10, .int .u8 a1_11, .int .u8 a1_12, .int .u8 a1_13, .int .u8 a1_14, .int .u8 a1_15, .int .u8 a1_16, .int .u8 a1_17, .int .u8 a1_18, .int .u8 a1_19, .int .u8 a1_20], .int .i64 a2] rfl (by (try simp only [List.map_toArray, List.map_cons, List.map_nil]); first | done | rfl | (go_simp; done)) ?_; (with_reducible refine (machine_bound.calls k _ _ l0 a1_0 a1_1 a1_2 a1_3 a1_4 a1_5 a1_6 a1_7 a1_8 a1_9 a1_10 a1_11 a1_12 a1_13 a1_14 a1_15 a1_16 a1_17 a1_18 a1_19 a1_20 a2 t458 _ ?side1 ?side2 ?side3 A4.out).mono ?_); (case side1 => repeat (first | exact (Kd.C_below HR0.out HB.out) | (with_reducible refine Kd.C_alloc ?_ _) | (with_reducible refine Kd.C_drewN ?_ _) | (with_reducible refine Kd.C_drew ?_))); (case side2 => exact HC0.out); (case side3 => repeat (first | exact (GL.below HRG.out HB.out) | (with_reducible refine GL.alloc ?_ _) | (with_reducible refine GL.drewN ?_ _) | (with_reducible refine GL.drew ?_))); rintro e w9 ⟨rfl, hb⟩; refine ⟨_, rfl, ?_⟩; have n0_ := Aside0.mk (blk_below (g := g457) (o := .cells #[.int .i64 a1_0, .int .u8 a1_1, .int .u8 a1_2, .int .u8 a1_3, .int .u8 a1_4, .int .u8 a1_5, .int .u8 a1_6, .int .u8 a1_7, .int .u8 a1_8, .int .u8 a1_9, .int .u8 a1_10, .int .u8 a1_11, .int .u8 a1_12, .int .u8 a1_13, .int .u8 a1_14, .int .u8 a1_15, .int .u8 a1_16, .int .u8 a1_17, .int .u8 a1_18, .int .u8 a1_19, .int .u8 a1_20] 26 (0, 0)) (by exact B457.out) hb); have n1_ := Aside0.mk (below_step (by repeat (first | (with_reducible first | exact HB.out | apply below_alloc | apply pw_below_drewN | apply below_drew1 | refine below_set ?_ GE457.out) | exact HB.out)) hb); clear B457; clear HB; have B457 := n0_; have HB := n1_; clear n0_ n1_; (try clear hb); (try clear hb2); (try clear hk); (try clear hi)) | ((with_reducible refine gate_dst (N := 19) rfl ?_); refine Kd.R_make k26 _ 26 rfl (N := 19) rfl 37 _ _ rfl a2 rfl rfl Tryd.underlying37 (.agg #[(.int .i64 0), (.int .u8 0), (.int .u8 0), (.int .u8 0), (.int .u8 0), (.int .u8 0), (.int .u8 0), (.int .u8 0), (.int .u8 0), (.int .u8 0), (.int .u8 0), (.int .u8 0), (.int .u8 0), (.int .u8 0), (.int .u8 0), (.int .u8 0), (.int .u8 0), (.int .u8 0), (.int .u8 0), (.int .u8 0), (.int .u8 0)]) 32 info26 rfl (by decide) (by omega) z26 (ok := fun _ => True) (okp := fun _ => True) (k26_mkM _ _ _ z26 ) (fun _ hk => hk) trivial (of_decide_eq_true (by first | (with_reducible assumption) | assumption)) (Nat.le_trans (Nat.mul_le_mul_right _ (of_decide_eq_true (by first | (with_reducible assumption) | assumption) : a2.toNat ≤ 8796093022208)) (by omega)) (Below.refl _ _) (Nat.le_refl _) ?_; intro v460 w10 ho11 hb hg_ hnew_; clear hg_ hnew_; (first | rw [← Ny459.out] at ho11 | (simp only [Int.reduceToNat] at ho11; rw [← Ny459.out] at ho11)); have n0_ := Aside0.mk (Kd.R_lower (Kd.R_newB ho11 (g := g457) (o := .cells #[.int .i64 a1_0, .int .u8 a1_1, .int .u8 a1_2, .int .u8 a1_3, .int .u8 a1_4, .int .u8 a1_5, .int .u8 a1_6, .int .u8 a1_7, .int .u8 a1_8, .int .u8 a1_9, .int .u8 a1_10, .int .u8 a1_11, .int .u8 a1_12, .int .u8 a1_13, .int .u8 a1_14, .int .u8 a1_15, .int .u8 a1_16, .int .u8 a1_17, .int .u8 a1_18, .int .u8 a1_19, .int .u8 a1_20] 26 (0, 0)) (by exact B457.out)) (below_size (by repeat (first | (with_reducible first | exact HB.out | apply below_alloc | apply pw_below_drewN | apply below_drew1 | refine below_set ?_ GE457.out) | exact HB.out)))); have n1_ := Aside0.mk (blk_below (g := g457) (o := .cells #[.int .i64 a1_0, .int .u8 a1_1, .int .u8 a1_2, .int .u8 a1_3, .int .u8 a1_4, .int .u8 a1_5, .int .u8 a1_6, .int .u8 a1_7, .int .u8 a1_8, .int .u8 a1_9, .int .u8 a1_10, .int .u8 a1_11, .int .u8 a1_12, .int .u8 a1_13, .int .u8 a1_14, .int .u8 a1_15, .int .u8 a1_16, .int .u8 a1_17, .int .u8 a1_18, .int .u8 a1_19, .int .u8 a1_20] 26 (0, 0)) (by exact B457.out) hb); have n2_ := Aside0.mk (below_step (by repeat (first | (with_reducible first | exact HB.out | apply below_alloc | apply pw_below_drewN | apply below_drew1 | refine below_set ?_ GE457.out) | exact HB.out)) hb); clear B457; clear HB; have HO461 := n0_; have B457 := n1_; have HB := n2_; clear n0_ n1_ n2_; clear hb ho11; obtain ⟨Ao12, co12, eo12⟩ := Kd.R_slice HO461.out; subst eo12))
    go_loopg [22] k (fun kq v22 w' => ∃ (x9_1 : List (S26)) (x22_1 : Int) (x458000_1 : Int) (x458001_1 : Int) (x458002_1 : Int) (x458003_1 : Int) (x458004_1 : Int) (x458005_1 : Int) (x458006_1 : Int) (x458007_1 : Int) (x458008_1 : Int) (x458009_1 : Int) (x458010_1 : Int) (x458011_1 : Int) (x458012_1 : Int) (x458013_1 : Int) (x458014_1 : Int) (x458015_1 : Int) (x458016_1 : Int) (x458017_1 : Int) (x458018_1 : Int) (x458019_1 : Int) (x458020_1 : Int), v22 = .int .i64 x22_1 ∧ Aside0 (machine_States.l0 kq l0 x9_1 (y459.length : Int) x22_1 x458000_1 x458001_1 x458002_1 x458003_1 x458004_1 x458005_1 x458006_1 x458007_1 x458008_1 x458009_1 x458010_1 x458011_1 x458012_1 x458013_1 x458014_1 x458015_1 x458016_1 x458017_1 x458018_1 x458019_1 x458020_1 = some (r1, r2)) ∧ Aside0 (kq ≤ k) ∧ Aside0 (Kd.R k26 26 w' w.heap.size (fun k_ => k_ ≠ g457) (.slice Ao12 y459.length co12) x9_1) ∧ Aside0 (w'.heap[g457]? = some (.cells #[.int .i64 x458000_1, .int .u8 x458001_1, .int .u8 x458002_1, .int .u8 x458003_1, .int .u8 x458004_1, .int .u8 x458005_1, .int .u8 x458006_1, .int .u8 x458007_1, .int .u8 x458008_1, .int .u8 x458009_1, .int .u8 x458010_1, .int .u8 x458011_1, .int .u8 x458012_1, .int .u8 x458013_1, .int .u8 x458014_1, .int .u8 x458015_1, .int .u8 x458016_1, .int .u8 x458017_1, .int .u8 x458018_1, .int .u8 x458019_1, .int .u8 x458020_1] 26 (0, 0))) ∧ Aside0 (Below w.heap.size w w'))
    case atStart => exact ⟨(y459), (0), (a1_0), (a1_1), (a1_2), (a1_3), (a1_4), (a1_5), (a1_6), (a1_7), (a1_8), (a1_9), (a1_10), (a1_11), (a1_12), (a1_13), (a1_14), (a1_15), (a1_16), (a1_17), (a1_18), (a1_19), (a1_20), (by first | rfl | (simp; done) | (simp [*]; done) | (simp; rfl) | (simp; decide +kernel)), H', ⟨Nat.le_refl _⟩, ⟨by (with_reducible repeat (first | apply Kd.R_alloc | apply Kd.R_drewN | apply Kd.R_drew)); exact Kd.R_mono HO461.out (fun _ hk => hk.2)⟩, ⟨by exact B457.out⟩, ⟨by repeat (first | (with_reducible first | exact HB.out | apply below_alloc | apply pw_below_drewN | apply below_drew1 | refine below_set ?_ GE457.out) | exact HB.out)⟩⟩
    case round =>
     clear H'
     try clear c2
     try clear p2
     try clear c3
     try clear c5
     try clear c5b0
     try clear c5b1
     try clear c6
     try clear c6b0
     try clear c6b1
     try clear c7
     try clear c7b0
     try clear c7b1
     obtain ⟨x9_1, x22_1, x458000_1, x458001_1, x458002_1, x458003_1, x458004_1, x458005_1, x458006_1, x458007_1, x458008_1, x458009_1, x458010_1, x458011_1, x458012_1, x458013_1, x458014_1, x458015_1, x458016_1, x458017_1, x458018_1, x458019_1, x458020_1, rfl, HA, HK1, HO_9, B457, HB⟩ := hrel
     have hl9_1 := (Kd.R_reads' HO_9.out).1
     rw [hl9_1] at HO_9
     (try simp only [hl9_1])
     (try simp only [hl9_1] at B457)
     cases gk with
     | zero => exact absurd HA.out (by simp [machine_States.l0])
     | succ k1 =>
      have H := HA.out
      clear HA
      simp only [machine_States.l0] at H
      by_cases c13 : x22_1 < (y459.length : Int)
      ·rw [if_pos c13] at H
       have c13b0 : decide (x22_1 < (y459.length : Int)) = true := decide_eq_true c13
       (try simp only [hl9_1] at c13b0)
       clear c13
       by_cases c14 : 0 ≤ x22_1
       ·rw [if_pos c14] at H
        have c14b0 : decide (0 ≤ x22_1) = true := decide_eq_true c14
        (try simp only [hl9_1] at c14b0)
        clear c14
        by_cases c15 : x22_1 < (x9_1.length : Int)
        ·rw [if_pos c15] at H
         have c15b0 : decide (x22_1 < (x9_1.length : Int)) = true := decide_eq_true c15
         (try simp only [hl9_1] at c15b0)
         clear c15
         obtain ⟨y462, hy462⟩ : ∃ y_ : List (S26), y_ = (x9_1.set (x22_1 : Int).toNat (⟨x458000_1, (⟨x458001_1, x458002_1, x458003_1, x458004_1⟩ : S23), (⟨x458005_1, x458006_1, x458007_1, x458008_1, x458009_1, x458010_1, x458011_1, x458012_1, x458013_1, x458014_1, x458015_1, x458016_1, x458017_1, x458018_1, x458019_1, x458020_1⟩ : S24)⟩ : S26)) := ⟨_, rfl⟩
         replace H : ((isa_Fetch.f l0 x458000_1).bind fun bt463 => ((machine_step.f bt463.1 bt463.2.1 bt463.2.2.1 bt463.2.2.2 x458000_1 x458001_1 x458002_1 x458003_1 x458004_1 x458005_1 x458006_1 x458007_1 x458008_1 x458009_1 x458010_1 x458011_1 x458012_1 x458013_1 x458014_1 x458015_1 x458016_1 x458017_1 x458018_1 x458019_1 x458020_1).bind fun bt467 => (machine_States.l0 k1 l0 y462 (y459.length : Int) (wrap64 (x22_1 + 1)) bt467.1 bt467.2.1 bt467.2.2.1 bt467.2.2.2.1 bt467.2.2.2.2.1 bt467.2.2.2.2.2.1 bt467.2.2.2.2.2.2.1 bt467.2.2.2.2.2.2.2.1 bt467.2.2.2.2.2.2.2.2.1 bt467.2.2.2.2.2.2.2.2.2.1 bt467.2.2.2.2.2.2.2.2.2.2.1 bt467.2.2.2.2.2.2.2.2.2.2.2.1 bt467.2.2.2.2.2.2.2.2.2.2.2.2.1 bt467.2.2.2.2.2.2.2.2.2.2.2.2.2.1 bt467.2.2.2.2.2.2.2.2.2.2.2.2.2.2.1 bt467.2.2.2.2.2.2.2.2.2.2.2.2.2.2.2.1 bt467.2.2.2.2.2.2.2.2.2.2.2.2.2.2.2.2.1 bt467.2.2.2.2.2.2.2.2.2.2.2.2.2.2.2.2.2.1 bt467.2.2.2.2.2.2.2.2.2.2.2.2.2.2.2.2.2.2.1 bt467.2.2.2.2.2.2.2.2.2.2.2.2.2.2.2.2.2.2.2.1 bt467.2.2.2.2.2.2.2.2.2.2.2.2.2.2.2.2.2.2.2.2))) = some (r1, r2) := by first | (rw [hy462]; with_reducible exact H) | (have H2_ := (Option.bind_some _ _).symm.trans H; rw [hy462]; with_reducible exact H2_) | (have H2_ := (Option.bind_some _ _).symm.trans H; with_reducible exact H2_) | with_reducible exact H | (rw [hy462]; exact H) | exact H
         have Ny462 := Aside0.mk hy462
         clear hy462
         replace H := Option.bind_eq_some_iff.mp H
         obtain ⟨⟨t463, t464, t465, t466⟩, A170, H⟩ := H
         replace H : ((machine_step.f t463 t464 t465 t466 x458000_1 x458001_1 x458002_1 x458003_1 x458004_1 x458005_1 x458006_1 x458007_1 x458008_1 x458009_1 x458010_1 x458011_1 x458012_1 x458013_1 x458014_1 x458015_1 x458016_1 x458017_1 x458018_1 x458019_1 x458020_1).bind fun bt467 => (machine_States.l0 k1 l0 y462 (y459.length : Int) (wrap64 (x22_1 + 1)) bt467.1 bt467.2.1 bt467.2.2.1 bt467.2.2.2.1 bt467.2.2.2.2.1 bt467.2.2.2.2.2.1 bt467.2.2.2.2.2.2.1 bt467.2.2.2.2.2.2.2.1 bt467.2.2.2.2.2.2.2.2.1 bt467.2.2.2.2.2.2.2.2.2.1 bt467.2.2.2.2.2.2.2.2.2.2.1 bt467.2.2.2.2.2.2.2.2.2.2.2.1 bt467.2.2.2.2.2.2.2.2.2.2.2.2.1 bt467.2.2.2.2.2.2.2.2.2.2.2.2.2.1 bt467.2.2.2.2.2.2.2.2.2.2.2.2.2.2.1 bt467.2.2.2.2.2.2.2.2.2.2.2.2.2.2.2.1 bt467.2.2.2.2.2.2.2.2.2.2.2.2.2.2.2.2.1 bt467.2.2.2.2.2.2.2.2.2.2.2.2.2.2.2.2.2.1 bt467.2.2.2.2.2.2.2.2.2.2.2.2.2.2.2.2.2.2.1 bt467.2.2.2.2.2.2.2.2.2.2.2.2.2.2.2.2.2.2.2.1 bt467.2.2.2.2.2.2.2.2.2.2.2.2.2.2.2.2.2.2.2.2)) = some (r1, r2) := H
         have A17 := Aside0.mk A170
         clear A170
         replace H := Option.bind_eq_some_iff.mp H
         obtain ⟨⟨t467, t468, t469, t470, t471, t472, t473, t474, t475, t476, t477, t478, t479, t480, t481, t482, t483, t484, t485, t486, t487⟩, A180, H⟩ := H
         replace H : (machine_States.l0 k1 l0 y462 (y459.length : Int) (wrap64 (x22_1 + 1)) t467 t468 t469 t470 t471 t472 t473 t474 t475 t476 t477 t478 t479 t480 t481 t482 t483 t484 t485 t486 t487) = some (r1, r2) := H
         have A18 := Aside0.mk A180
         clear A180
         have H' := Aside0.mk H
         clear H
         try go_wp2_with (first | ((with_reducible refine gate_dst (N := 27) rfl ?_); refine wpList_load_row rfl 26 (.tmp 4) rfl g457 rfl 26 #[.int .i64 x458000_1, .int .u8 x458001_1, .int .u8 x458002_1, .int .u8 x458003_1, .int .u8 x458004_1, .int .u8 x458005_1, .int .u8 x458006_1, .int .u8 x458007_1, .int .u8 x458008_1, .int .u8 x458009_1, .int .u8 x458010_1, .int .u8 x458011_1, .int .u8 x458012_1, .int .u8 x458013_1, .int .u8 x458014_1, .int .u8 x458015_1, .int .u8 x458016_1, .int .u8 x458017_1, .int .u8 x458018_1, .int .u8 x458019_1, .int .u8 x458020_1] (0, 0) _ (by exact B457.out) Tryd.underlying26 rfl (by kernel_rfl) ?_; have p16 : 0 ≤ (x22_1 : Int) := of_decide_eq_true (by first | (with_reducible assumption) | assumption); have q16 : (x22_1 : Int) < ((x9_1.length : Int) : Int) := of_decide_eq_true (by first | (with_reducible assumption) | assumption); obtain ⟨go16, co16, eo16, g16, gl16, cl16, HG16⟩ := Kd.R_form HO_9.out (by omega); (first | cases eo16 | (injection eo16 with ea_ en_ ec_; (first | subst ea_ | (injection ea_ with ea_; subst ea_)); subst ec_; clear en_)); have GB16 := Aside0.mk g16; have GG16 := Aside0.mk HG16; clear g16 gl16 HG16; obtain ⟨ce16, hcl16, hM16, hcc16, hfr16⟩ := Kd.R_elem HO_9.out z26 (x22_1 : Int) p16 q16; obtain rfl := k26_openM hM16; have hx16_0 : wr.cell? ⟨go16, (x22_1 : Int).toNat * 21, none⟩ = some (.int .i64 ((rd_T26 x9_1 x22_1).f0)) := hcc16 0 _ rfl; have hx16_1 : wr.cell? ⟨go16, (x22_1 : Int).toNat * 21 + 1, none⟩ = some (.int .u8 ((rd_T26 x9_1 x22_1).f1.f0)) := hcc16 1 _ rfl; have hx16_2 : wr.cell? ⟨go16, (x22_1 : Int).toNat * 21 + 2, none⟩ = some (.int .u8 ((rd_T26 x9_1 x22_1).f1.f1)) := hcc16 2 _ rfl; have hx16_3 : wr.cell? ⟨go16, (x22_1 : Int).toNat * 21 + 3, none⟩ = some (.int .u8 ((rd_T26 x9_1 x22_1).f1.f2)) := hcc16 3 _ rfl; have hx16_4 : wr.cell? ⟨go16, (x22_1 : Int).toNat * 21 + 4, none⟩ = some (.int .u8 ((rd_T26 x9_1 x22_1).f1.f3)) := hcc16 4 _ rfl; have hx16_5 : wr.cell? ⟨go16, (x22_1 : Int).toNat * 21 + 5, none⟩ = some (.int .u8 ((rd_T26 x9_1 x22_1).f2.f0)) := hcc16 5 _ rfl; have hx16_6 : wr.cell? ⟨go16, (x22_1 : Int).toNat * 21 + 6, none⟩ = some (.int .u8 ((rd_T26 x9_1 x22_1).f2.f1)) := hcc16 6 _ rfl; have hx16_7 : wr.cell? ⟨go16, (x22_1 : Int).toNat * 21 + 7, none⟩ = some (.int .u8 ((rd_T26 x9_1 x22_1).f2.f2)) := hcc16 7 _ rfl; have hx16_8 : wr.cell? ⟨go16, (x22_1 : Int).toNat * 21 + 8, none⟩ = some (.int .u8 ((rd_T26 x9_1 x22_1).f2.f3)) := hcc16 8 _ rfl; have hx16_9 : wr.cell? ⟨go16, (x22_1 : Int).toNat * 21 + 9, none⟩ = some (.int .u8 ((rd_T26 x9_1 x22_1).f2.f4)) := hcc16 9 _ rfl; have hx16_10 : wr.cell? ⟨go16, (x22_1 : Int).toNat * 21 + 10, none⟩ = some (.int .u8 ((rd_T26 x9_1 x22_1).f2.f5)) := hcc16 10 _ rfl; have hx16_11 : wr.cell? ⟨go16, (x22_1 : Int).toNat * 21 + 11, none⟩ = some (.int .u8 ((rd_T26 x9_1 x22_1).f2.f6)) := hcc16 11 _ rfl; have hx16_12 : wr.cell? ⟨go16, (x22_1 : Int).toNat * 21 + 12, none⟩ = some (.int .u8 ((rd_T26 x9_1 x22_1).f2.f7)) := hcc16 12 _ rfl; have hx16_13 : wr.cell? ⟨go16, (x22_1 : Int).toNat * 21 + 13, none⟩ = some (.int .u8 ((rd_T26 x9_1 x22_1).f2.f8)) := hcc16 13 _ rfl; have hx16_14 : wr.cell? ⟨go16, (x22_1 : Int).toNat * 21 + 14, none⟩ = some (.int .u8 ((rd_T26 x9_1 x22_1).f2.f9)) := hcc16 14 _ rfl; have hx16_15 : wr.cell? ⟨go16, (x22_1 : Int).toNat * 21 + 15, none⟩ = some (.int .u8 ((rd_T26 x9_1 x22_1).f2.f10)) := hcc16 15 _ rfl; have hx16_16 : wr.cell? ⟨go16, (x22_1 : Int).toNat * 21 + 16, none⟩ = some (.int .u8 ((rd_T26 x9_1 x22_1).f2.f11)) := hcc16 16 _ rfl; have hx16_17 : wr.cell? ⟨go16, (x22_1 : Int).toNat * 21 + 17, none⟩ = some (.int .u8 ((rd_T26 x9_1 x22_1).f2.f12)) := hcc16 17 _ rfl; have hx16_18 : wr.cell? ⟨go16, (x22_1 : Int).toNat * 21 + 18, none⟩ = some (.int .u8 ((rd_T26 x9_1 x22_1).f2.f13)) := hcc16 18 _ rfl; have hx16_19 : wr.cell? ⟨go16, (x22_1 : Int).toNat * 21 + 19, none⟩ = some (.int .u8 ((rd_T26 x9_1 x22_1).f2.f14)) := hcc16 19 _ rfl; have hx16_20 : wr.cell? ⟨go16, (x22_1 : Int).toNat * 21 + 20, none⟩ = some (.int .u8 ((rd_T26 x9_1 x22_1).f2.f15)) := hcc16 20 _ rfl; have hf16_0 : wr.frozen? ⟨go16, (x22_1 : Int).toNat * 21, none⟩ = false := hfr16 0; have hf16_1 : wr.frozen? ⟨go16, (x22_1 : Int).toNat * 21 + 1, none⟩ = false := hfr16 1; have hf16_2 : wr.frozen? ⟨go16, (x22_1 : Int).toNat * 21 + 2, none⟩ = false := hfr16 2; have hf16_3 : wr.frozen? ⟨go16, (x22_1 : Int).toNat * 21 + 3, none⟩ = false := hfr16 3; have hf16_4 : wr.frozen? ⟨go16, (x22_1 : Int).toNat * 21 + 4, none⟩ = false := hfr16 4; have hf16_5 : wr.frozen? ⟨go16, (x22_1 : Int).toNat * 21 + 5, none⟩ = false := hfr16 5; have hf16_6 : wr.frozen? ⟨go16, (x22_1 : Int).toNat * 21 + 6, none⟩ = false := hfr16 6; have hf16_7 : wr.frozen? ⟨go16, (x22_1 : Int).toNat * 21 + 7, none⟩ = false := hfr16 7; have hf16_8 : wr.frozen? ⟨go16, (x22_1 : Int).toNat * 21 + 8, none⟩ = false := hfr16 8; have hf16_9 : wr.frozen? ⟨go16, (x22_1 : Int).toNat * 21 + 9, none⟩ = false := hfr16 9; have hf16_10 : wr.frozen? ⟨go16, (x22_1 : Int).toNat * 21 + 10, none⟩ = false := hfr16 10; have hf16_11 : wr.frozen? ⟨go16, (x22_1 : Int).toNat * 21 + 11, none⟩ = false := hfr16 11; have hf16_12 : wr.frozen? ⟨go16, (x22_1 : Int).toNat * 21 + 12, none⟩ = false := hfr16 12; have hf16_13 : wr.frozen? ⟨go16, (x22_1 : Int).toNat * 21 + 13, none⟩ = false := hfr16 13; have hf16_14 : wr.frozen? ⟨go16, (x22_1 : Int).toNat * 21 + 14, none⟩ = false := hfr16 14; have hf16_15 : wr.frozen? ⟨go16, (x22_1 : Int).toNat * 21 + 15, none⟩ = false := hfr16 15; have hf16_16 : wr.frozen? ⟨go16, (x22_1 : Int).toNat * 21 + 16, none⟩ = false := hfr16 16; have hf16_17 : wr.frozen? ⟨go16, (x22_1 : Int).toNat * 21 + 17, none⟩ = false := hfr16 17; have hf16_18 : wr.frozen? ⟨go16, (x22_1 : Int).toNat * 21 + 18, none⟩ = false := hfr16 18; have hf16_19 : wr.frozen? ⟨go16, (x22_1 : Int).toNat * 21 + 19, none⟩ = false := hfr16 19; have hf16_20 : wr.frozen? ⟨go16, (x22_1 : Int).toNat * 21 + 20, none⟩ = false := hfr16 20; clear hcl16 hcc16 hfr16 hM16; replace p16 := eq_true p16; replace q16 := eq_true q16; have HX19 := Aside0.mk (show Kd.R k26 26 wr w.heap.size (fun k_ => k_ ≠ g457) (.slice (some ⟨go16, 0, none⟩) x9_1.length co12) x9_1 from (by (with_reducible repeat (first | apply Kd.R_alloc | apply Kd.R_drewN | apply Kd.R_drew)); exact HO_9.out)); obtain ⟨ce19, hcl19, hM19, hcc19, hfr19⟩ := Kd.R_elem HX19.out z26 (x22_1 : Int) (of_decide_eq_true (by first | (with_reducible assumption) | assumption)) (by have h_ : (x22_1 : Int) < ((x9_1.length : Int) : Int) := of_decide_eq_true (by first | (with_reducible assumption) | assumption); first | exact h_ | (have e_ := (Kd.R_reads' HO_9.out).1; omega) | simpa using h_); obtain rfl := k26_openM hM19; have HP19 := Kd.R_seg HX19.out (x22_1 : Int) (of_decide_eq_true (by first | (with_reducible assumption) | assumption)) (by have h_ : (x22_1 : Int) < ((x9_1.length : Int) : Int) := of_decide_eq_true (by first | (with_reducible assumption) | assumption); first | exact h_ | (have e_ := (Kd.R_reads' HO_9.out).1; omega) | simpa using h_) (seg := [.int .i64 x458000_1, .int .u8 x458001_1, .int .u8 x458002_1, .int .u8 x458003_1, .int .u8 x458004_1, .int .u8 x458005_1, .int .u8 x458006_1, .int .u8 x458007_1, .int .u8 x458008_1, .int .u8 x458009_1, .int .u8 x458010_1, .int .u8 x458011_1, .int .u8 x458012_1, .int .u8 x458013_1, .int .u8 x458014_1, .int .u8 x458015_1, .int .u8 x458016_1, .int .u8 x458017_1, .int .u8 x458018_1, .int .u8 x458019_1, .int .u8 x458020_1]) (j := 0) hcl19 hcc19 (show 21 ≤ 21 from by decide) (x' := (⟨x458000_1, (⟨x458001_1, x458002_1, x458003_1, x458004_1⟩ : S23), (⟨x458005_1, x458006_1, x458007_1, x458008_1, x458009_1, x458010_1, x458011_1, x458012_1, x458013_1, x458014_1, x458015_1, x458016_1, x458017_1, x458018_1, x458019_1, x458020_1⟩ : S24)⟩ : S26)) (k26_mkM _ _ _ (⟨x458000_1, (⟨x458001_1, x458002_1, x458003_1, x458004_1⟩ : S23), (⟨x458005_1, x458006_1, x458007_1, x458008_1, x458009_1, x458010_1, x458011_1, x458012_1, x458013_1, x458014_1, x458015_1, x458016_1, x458017_1, x458018_1, x458019_1, x458020_1⟩ : S24)⟩ : S26) ) (fun _ hk => hk); clear hcl19 hcc19 hfr19 hM19) | ((with_reducible refine gate_store (t := 26) (p := 28) rfl ?_); refine store_event (t := 26) (p := 28) (v := ?vo_w20) (w1 := (wr.setCells go16 ((x22_1 : Int).toNat * 21) [.int .i64 x458000_1, .int .u8 x458001_1, .int .u8 x458002_1, .int .u8 x458003_1, .int .u8 x458004_1, .int .u8 x458005_1, .int .u8 x458006_1, .int .u8 x458007_1, .int .u8 x458008_1, .int .u8 x458009_1, .int .u8 x458010_1, .int .u8 x458011_1, .int .u8 x458012_1, .int .u8 x458013_1, .int .u8 x458014_1, .int .u8 x458015_1, .int .u8 x458016_1, .int .u8 x458017_1, .int .u8 x458018_1, .int .u8 x458019_1, .int .u8 x458020_1])) ?hg ?ho ?hn ?hr ?_; (case ho => rfl); (case hg => rfl); (case hn => rfl); (case hr => exact run_store_at rfl rfl rfl (by kernel_rfl) (R_block HX19.out (x22_1 : Int) (of_decide_eq_true (by first | (with_reducible assumption) | assumption)) (by have h_ : (x22_1 : Int) < ((x9_1.length : Int) : Int) := of_decide_eq_true (by first | (with_reducible assumption) | assumption); first | exact h_ | (have e_ := (Kd.R_reads' HO_9.out).1; omega) | simpa using h_)) rfl); intro w20 hw; have hg : wr.grownBy w20 (some go16) := (by rw [hw]; exact HP19.2); have hp_ : Kd.R k26 26 w20 w.heap.size (fun k_ => k_ ≠ g457) (.slice (some ⟨go16, 0, none⟩) x9_1.length co12) y462 := (by rw [hw, Ny462.out]; exact HP19.1); clear HP19; have n0_ := Aside0.mk (hp_); have n1_ := Aside0.mk (blk_grown (g := g457) (o := .cells #[.int .i64 x458000_1, .int .u8 x458001_1, .int .u8 x458002_1, .int .u8 x458003_1, .int .u8 x458004_1, .int .u8 x458005_1, .int .u8 x458006_1, .int .u8 x458007_1, .int .u8 x458008_1, .int .u8 x458009_1, .int .u8 x458010_1, .int .u8 x458011_1, .int .u8 x458012_1, .int .u8 x458013_1, .int .u8 x458014_1, .int .u8 x458015_1, .int .u8 x458016_1, .int .u8 x458017_1, .int .u8 x458018_1, .int .u8 x458019_1, .int .u8 x458020_1] 26 (0, 0)) (by exact B457.out) hg (Kd.R_away HO_9.out (fun _ hk => hk))); have n2_ := Aside0.mk ((by rw [hw]; exact below_setCells _ _ HB.out GB16.out : Below w.heap.size w w20)); clear HO_9; clear B457; clear HB; have HO_9 := n0_; have B457 := n1_; have HB := n2_; clear n0_ n1_ n2_; clear hg hw hp_))
         have n0_ := Aside0.mk (Kd.R_drew HO_9.out)
         have n1_ := Aside0.mk (blk_drew B457.out)
         have n2_ := Aside0.mk (below_drew1 HB.out)
         clear HO_9
         clear B457
         clear HB
         have HO_9 := n0_
         have B457 := n1_
         have HB := n2_
         clear n0_ n1_ n2_
         refine start_ (n := 7) (S := fun w' => w'.cell? ⟨g457, 0, none⟩ = some (.int .i64 x458000_1) ∧ w'.cell? ⟨g457, 1, none⟩ = some (.int .u8 x458001_1) ∧ w'.cell? ⟨g457, 2, none⟩ = some (.int .u8 x458002_1) ∧ w'.cell? ⟨g457, 3, none⟩ = some (.int .u8 x458003_1) ∧ w'.cell? ⟨g457, 4, none⟩ = some (.int .u8 x458004_1) ∧ w'.cell? ⟨g457, 5, none⟩ = some (.int .u8 x458005_1) ∧ w'.cell? ⟨g457, 6, none⟩ = some (.int .u8 x458006_1) ∧ w'.cell? ⟨g457, 7, none⟩ = some (.int .u8 x458007_1) ∧ w'.cell? ⟨g457, 8, none⟩ = some (.int .u8 x458008_1) ∧ w'.cell? ⟨g457, 9, none⟩ = some (.int .u8 x458009_1) ∧ w'.cell? ⟨g457, 10, none⟩ = some (.int .u8 x458010_1) ∧ w'.cell? ⟨g457, 11, none⟩ = some (.int .u8 x458011_1) ∧ w'.cell? ⟨g457, 12, none⟩ = some (.int .u8 x458012_1) ∧ w'.cell? ⟨g457, 13, none⟩ = some (.int .u8 x458013_1) ∧ w'.cell? ⟨g457, 14, none⟩ = some (.int .u8 x458014_1) ∧ w'.cell? ⟨g457, 15, none⟩ = some (.int .u8 x458015_1) ∧ w'.cell? ⟨g457, 16, none⟩ = some (.int .u8 x458016_1) ∧ w'.cell? ⟨g457, 17, none⟩ = some (.int .u8 x458017_1) ∧ w'.cell? ⟨g457, 18, none⟩ = some (.int .u8 x458018_1) ∧ w'.cell? ⟨g457, 19, none⟩ = some (.int .u8 x458019_1) ∧ w'.cell? ⟨g457, 20, none⟩ = some (.int .u8 x458020_1)) (ds := [6]) z21_0_ (by kernel_rfl) rfl rfl ⟨bq_ B457 0, bq_ B457 1, bq_ B457 2, bq_ B457 3, bq_ B457 4, bq_ B457 5, bq_ B457 6, bq_ B457 7, bq_ B457 8, bq_ B457 9, bq_ B457 10, bq_ B457 11, bq_ B457 12, bq_ B457 13, bq_ B457 14, bq_ B457 15, bq_ B457 16, bq_ B457 17, bq_ B457 18, bq_ B457 19, bq_ B457 20⟩ (fun hL => ?_)
         generalize w20.drew = w21 at HO_9 B457 HB hL ⊢
         refine pure_ (i := 0) (N := some 29) (v := ?_) (a' := ?_) z21_1_ rfl rfl (by kernel_rfl) (fun _ _ _ h => h) (Or.inl ⟨by rfl, ?_⟩) ?_ ?_
         rotate_left; · intro w'; go_simp; with_reducible rfl
         rotate_left; · simp only [Act.put, sa_, sb_, sc_, i64_w, i32_w]; rfl
         refine pure_ (i := 1) (N := some 30) (v := ?_) (a' := ?_) z21_2_ rfl rfl (by kernel_rfl) (fun _ _ _ h => h) (Or.inl ⟨by rfl, ?_⟩) ?_ ?_
         rotate_left; · intro w'; go_simp; with_reducible rfl
         rotate_left; · simp only [Act.put, sa_, sb_, sc_, i64_w, i32_w]; rfl
         refine take_ (i := 2) (N := some 31) (v := ?_) (a' := ?_) z21_3_ rfl rfl (by kernel_rfl) (fun _ _ _ h => h) (Or.inl ⟨by rfl, ?_⟩) hL ?_ ?_
         rotate_left
         ·rintro w' ⟨s0, s1, s2, s3, s4, s5, s6, s7, s8, s9, s10, s11, s12, s13, s14, s15, s16, s17, s18, s19, s20⟩
          go_simp
          with_reducible rfl
         rotate_left
         ·simp only [Act.put, sa_, sb_, sc_, i64_w, i32_w]
          rfl
         refine take_ (i := 4) (N := some 33) (v := ?_) (a' := ?_) z21_4_ rfl rfl (by kernel_rfl) (fun _ _ _ h => h) (Or.inl ⟨by rfl, ?_⟩) hL ?_ ?_
         rotate_left
         ·rintro w' ⟨s0, s1, s2, s3, s4, s5, s6, s7, s8, s9, s10, s11, s12, s13, s14, s15, s16, s17, s18, s19, s20⟩
          refine Eq.trans (load_cells_run (ty := 26) (p := .tmp 4) (g := g457) (cs := #[.int .i64 x458000_1, .int .u8 x458001_1, .int .u8 x458002_1, .int .u8 x458003_1, .int .u8 x458004_1, .int .u8 x458005_1, .int .u8 x458006_1, .int .u8 x458007_1, .int .u8 x458008_1, .int .u8 x458009_1, .int .u8 x458010_1, .int .u8 x458011_1, .int .u8 x458012_1, .int .u8 x458013_1, .int .u8 x458014_1, .int .u8 x458015_1, .int .u8 x458016_1, .int .u8 x458017_1, .int .u8 x458018_1, .int .u8 x458019_1, .int .u8 x458020_1]) (by rfl) (by rfl) Tryd.underlying26 rfl (by kernel_rfl) (cl_cons s0 (cl_cons s1 (cl_cons s2 (cl_cons s3 (cl_cons s4 (cl_cons s5 (cl_cons s6 (cl_cons s7 (cl_cons s8 (cl_cons s9 (cl_cons s10 (cl_cons s11 (cl_cons s12 (cl_cons s13 (cl_cons s14 (cl_cons s15 (cl_cons s16 (cl_cons s17 (cl_cons s18 (cl_cons s19 (cl_cons s20 (cl_nil _ _ _))))))))))))))))))))))) ?_
          with_reducible rfl
         rotate_left
         ·simp only [Act.put, sa_, sb_, sc_, i64_w, i32_w]
          rfl
         refine one_ (i := 3) (N := some 32) z21_5_ rfl rfl (by kernel_rfl) (by decide) (fun K hK => ?_)
         refine goes_ Tryd.func27 (by kernel_rfl) rfl #[.slice A0 l0.length c0, .int .i64 x458000_1] (by rfl) rfl rfl (by (try simp only [List.map_toArray, List.map_cons, List.map_nil]); first | done | rfl | (go_simp; done)) ?_
         with_reducible refine (isa_Fetch.calls _ _ l0 x458000_1 t463 t464 t465 t466 _ ?side1 ?side2 A17.out).mono ?_
         (case side1 => repeat (first | exact (Kd.C_below HR0.out HB.out) | (with_reducible refine Kd.C_alloc ?_ _) | (with_reducible refine Kd.C_drewN ?_ _) | (with_reducible refine Kd.C_drew ?_)))
         (case side2 => exact HC0.out)
         rintro e w22 ⟨rfl, hb⟩
         refine ⟨_, rfl, ?_⟩
         have n0_ := Aside0.mk (Kd.R_below (by (with_reducible repeat (first | apply Kd.R_alloc | apply Kd.R_drewN | apply Kd.R_drew)); exact HO_9.out) hb)
         have n1_ := Aside0.mk (blk_below (g := g457) (o := .cells #[.int .i64 x458000_1, .int .u8 x458001_1, .int .u8 x458002_1, .int .u8 x458003_1, .int .u8 x458004_1, .int .u8 x458005_1, .int .u8 x458006_1, .int .u8 x458007_1, .int .u8 x458008_1, .int .u8 x458009_1, .int .u8 x458010_1, .int .u8 x458011_1, .int .u8 x458012_1, .int .u8 x458013_1, .int .u8 x458014_1, .int .u8 x458015_1, .int .u8 x458016_1, .int .u8 x458017_1, .int .u8 x458018_1, .int .u8 x458019_1, .int .u8 x458020_1] 26 (0, 0)) (by exact B457.out) hb)
         have n2_ := Aside0.mk (below_step (by repeat (first | (with_reducible first | exact HB.out | apply below_alloc | apply pw_below_drewN | apply below_drew1 | refine below_set ?_ GE457.out) | exact HB.out)) hb)
         clear HO_9
         clear B457
         clear HB
         have HO_9 := n0_
         have B457 := n1_
         have HB := n2_
         clear n0_ n1_ n2_
         (try clear hb)
         (try clear hb2)
         (try clear hk)
         (try clear hi)
         refine hK.out _ _ ⟨bq_ B457 0, bq_ B457 1, bq_ B457 2, bq_ B457 3, bq_ B457 4, bq_ B457 5, bq_ B457 6, bq_ B457 7, bq_ B457 8, bq_ B457 9, bq_ B457 10, bq_ B457 11, bq_ B457 12, bq_ B457 13, bq_ B457 14, bq_ B457 15, bq_ B457 16, bq_ B457 17, bq_ B457 18, bq_ B457 19, bq_ B457 20⟩ (fun hL => ?_)
         clear hK K
         refine norm_ (a' := ?_) ?_ ?_
         rotate_left
         ·show Act.put _ (some 32) _ = _
          simp only [Act.put, sa_, sb_, sc_, i64_w, i32_w]
          rfl
         refine one_ (i := 5) (N := some 34) z21_6_ rfl rfl (by kernel_rfl) (by decide) (fun K hK => ?_)
         refine goes_ Tryd.func29 (by kernel_rfl) rfl #[.agg #[.int .u8 t463, .int .u8 t464, .int .u8 t465, .int .u8 t466], .agg #[.int .i64 x458000_1, .int .u8 x458001_1, .int .u8 x458002_1, .int .u8 x458003_1, .int .u8 x458004_1, .int .u8 x458005_1, .int .u8 x458006_1, .int .u8 x458007_1, .int .u8 x458008_1, .int .u8 x458009_1, .int .u8 x458010_1, .int .u8 x458011_1, .int .u8 x458012_1, .int .u8 x458013_1, .int .u8 x458014_1, .int .u8 x458015_1, .int .u8 x458016_1, .int .u8 x458017_1, .int .u8 x458018_1, .int .u8 x458019_1, .int .u8 x458020_1]] (by rfl) rfl rfl (by (try simp only [List.map_toArray, List.map_cons, List.map_nil]); first | done | rfl | (go_simp; done)) ?_
         with_reducible refine (machine_step.calls t463 t464 t465 t466 x458000_1 x458001_1 x458002_1 x458003_1 x458004_1 x458005_1 x458006_1 x458007_1 x458008_1 x458009_1 x458010_1 x458011_1 x458012_1 x458013_1 x458014_1 x458015_1 x458016_1 x458017_1 x458018_1 x458019_1 x458020_1 t467 t468 t469 t470 t471 t472 t473 t474 t475 t476 t477 t478 t479 t480 t481 t482 t483 t484 t485 t486 t487 _ A18.out).mono ?_
         rintro e w23 ⟨rfl, hb⟩
         refine ⟨_, rfl, ?_⟩
         have n0_ := Aside0.mk (Kd.R_below (by (with_reducible repeat (first | apply Kd.R_alloc | apply Kd.R_drewN | apply Kd.R_drew)); exact HO_9.out) hb)
         have n1_ := Aside0.mk (blk_below (g := g457) (o := .cells #[.int .i64 x458000_1, .int .u8 x458001_1, .int .u8 x458002_1, .int .u8 x458003_1, .int .u8 x458004_1, .int .u8 x458005_1, .int .u8 x458006_1, .int .u8 x458007_1, .int .u8 x458008_1, .int .u8 x458009_1, .int .u8 x458010_1, .int .u8 x458011_1, .int .u8 x458012_1, .int .u8 x458013_1, .int .u8 x458014_1, .int .u8 x458015_1, .int .u8 x458016_1, .int .u8 x458017_1, .int .u8 x458018_1, .int .u8 x458019_1, .int .u8 x458020_1] 26 (0, 0)) (by exact B457.out) hb)
         have n2_ := Aside0.mk (below_step (by repeat (first | (with_reducible first | exact HB.out | apply below_alloc | apply pw_below_drewN | apply below_drew1 | refine below_set ?_ GE457.out) | exact HB.out)) hb)
         clear HO_9
         clear B457
         clear HB
         have HO_9 := n0_
         have B457 := n1_
         have HB := n2_
         clear n0_ n1_ n2_
         (try clear hb)
         (try clear hb2)
         (try clear hk)
         (try clear hi)
         refine hK.out _ _ ⟨bq_ B457 0, bq_ B457 1, bq_ B457 2, bq_ B457 3, bq_ B457 4, bq_ B457 5, bq_ B457 6, bq_ B457 7, bq_ B457 8, bq_ B457 9, bq_ B457 10, bq_ B457 11, bq_ B457 12, bq_ B457 13, bq_ B457 14, bq_ B457 15, bq_ B457 16, bq_ B457 17, bq_ B457 18, bq_ B457 19, bq_ B457 20⟩ (fun hL => ?_)
         clear hK K
         refine norm_ (a' := ?_) ?_ ?_
         rotate_left
         ·show Act.put _ (some 34) _ = _
          simp only [Act.put, sa_, sb_, sc_, i64_w, i32_w]
          rfl
         refine last_ (i := 6) (N := none) z21_7_ rfl rfl (by kernel_rfl) (by decide) (fun K hK => ?_)
         refine store_wide_step (by rfl) 26 4 _ rfl rfl g457 #[.int .i64 t467, .int .u8 t468, .int .u8 t469, .int .u8 t470, .int .u8 t471, .int .u8 t472, .int .u8 t473, .int .u8 t474, .int .u8 t475, .int .u8 t476, .int .u8 t477, .int .u8 t478, .int .u8 t479, .int .u8 t480, .int .u8 t481, .int .u8 t482, .int .u8 t483, .int .u8 t484, .int .u8 t485, .int .u8 t486, .int .u8 t487] rfl rfl 26 #[.int .i64 x458000_1, .int .u8 x458001_1, .int .u8 x458002_1, .int .u8 x458003_1, .int .u8 x458004_1, .int .u8 x458005_1, .int .u8 x458006_1, .int .u8 x458007_1, .int .u8 x458008_1, .int .u8 x458009_1, .int .u8 x458010_1, .int .u8 x458011_1, .int .u8 x458012_1, .int .u8 x458013_1, .int .u8 x458014_1, .int .u8 x458015_1, .int .u8 x458016_1, .int .u8 x458017_1, .int .u8 x458018_1, .int .u8 x458019_1, .int .u8 x458020_1] B457.out (by kernel_rfl) rfl (by simp [Value.oneCell']) ?_
         intro w24 hnew hoth hbel
         have n0_ := Aside0.mk (Kd.R_mono (Kd.R_step (Kd.R_mono HO_9.out (fun k_ hk => (⟨hk, hk⟩ : _ ∧ k_ ≠ g457))) (fun k_ hk _ => hoth k_ hk.2)) (fun _ hk => hk.1))
         have n1_ := Aside0.mk (hnew)
         have n2_ := Aside0.mk (Below.trans (by repeat (first | (with_reducible first | exact HB.out | apply below_alloc | apply pw_below_drewN | apply below_drew1 | refine below_set ?_ GE457.out) | exact HB.out)) (hbel.mono GE457.out))
         clear HO_9
         clear B457
         clear HB
         have HO_9 := n0_
         have B457 := n1_
         have HB := n2_
         clear n0_ n1_ n2_
         clear hnew hoth hbel
         refine hK.out _ _ ?_
         clear hK K
         refine done_ (by kernel_rfl) ?_
         try go_wp2
         (try simp only [← hl9_1])
         go_roundg k1
         case measure => have := HK1.out; omega
         case rel => exact ⟨(y462), (wrap64 (x22_1 + 1)), (t467), (t468), (t469), (t470), (t471), (t472), (t473), (t474), (t475), (t476), (t477), (t478), (t479), (t480), (t481), (t482), (t483), (t484), (t485), (t486), (t487), (by first | rfl | (simp; done) | (simp [*]; done) | (simp; rfl) | (simp; decide +kernel)), H', ⟨by have := HK1.out; omega⟩, ⟨by (try simp only [hl9_1]); (with_reducible repeat (first | apply Kd.R_alloc | apply Kd.R_drewN | apply Kd.R_drew)); exact HO_9.out⟩, ⟨by (try simp only [hl9_1]); exact B457.out⟩, ⟨by repeat (first | (with_reducible first | exact HB.out | apply below_alloc | apply pw_below_drewN | apply below_drew1 | refine below_set ?_ GE457.out) | exact HB.out)⟩⟩
        ·rw [if_neg c15] at H
         exact absurd H (by simp)
       ·rw [if_neg c14] at H
        exact absurd H (by simp)
      ·rw [if_neg c13] at H
       have c13b0 : decide (x22_1 < (y459.length : Int)) = false := decide_eq_false c13
       (try simp only [hl9_1] at c13b0)
       clear c13
       simp only [Option.some.injEq, Prod.mk.injEq] at H
       obtain ⟨rfl, rfl⟩ := H
       go_wp2
       go_ret2
       exact ⟨_, by first | rfl | (simp [errW_none, errW_some] <;> rfl) | (simp [*, errW_none, errW_some] <;> rfl), by (with_reducible repeat (first | apply Kd.R_alloc | apply Kd.R_drewN | apply Kd.R_drew)); exact Kd.R_mono HO_9.out (fun _ hk => trivial), by repeat (first | (with_reducible first | exact HB.out | apply below_alloc | apply pw_below_drewN | apply below_drew1 | refine below_set ?_ GE457.out) | exact HB.out)⟩
   ·rw [if_neg c7] at H
    exact absurd H (by simp)
  ·rw [if_neg c6] at H
   exact absurd H (by simp)
 ·rw [if_neg c5] at H
  have c5b0 : (t458 == 0) = false := beq_eq_false_iff_ne.mpr c5
  have c5b1 : (t458 != 0) = true := bne_iff_ne.mpr c5
  simp only [Option.some.injEq, Prod.mk.injEq] at H
  obtain ⟨rfl, rfl⟩ := H
  go_enter Tryd.func21, Tryd.ntmps21
  go_wp2_with (first | ((with_reducible refine gate_dst (N := 4) rfl ?_); refine box_event ?hg (N := 4) ?hd (cs := #[.int .i64 a1_0, .int .u8 a1_1, .int .u8 a1_2, .int .u8 a1_3, .int .u8 a1_4, .int .u8 a1_5, .int .u8 a1_6, .int .u8 a1_7, .int .u8 a1_8, .int .u8 a1_9, .int .u8 a1_10, .int .u8 a1_11, .int .u8 a1_12, .int .u8 a1_13, .int .u8 a1_14, .int .u8 a1_15, .int .u8 a1_16, .int .u8 a1_17, .int .u8 a1_18, .int .u8 a1_19, .int .u8 a1_20]) (t := 26) ?hr ?_; (case hd => rfl); (case hg => rfl); (case hr => first | (go_simp; done) | (go_simp; rfl)); intro g457 hg w25 hbox hb; have n0_ := Aside0.mk (below_step (by repeat (first | (with_reducible first | exact HB.out | apply below_alloc | apply pw_below_drewN | apply below_drew1) | exact HB.out)) hb); have n1_ := Aside0.mk (hbox); have n2_ := Aside0.mk ((by rw [hg]; exact (below_size (by repeat (first | (with_reducible first | exact HB.out | apply below_alloc | apply pw_below_drewN | apply below_drew1) | exact HB.out))) : w.heap.size ≤ g457)); have n3_ := Aside0.mk ((by rw [hg]; exact (below_size (by repeat (first | (with_reducible first | exact HB.out | apply below_alloc | apply pw_below_drewN | apply below_drew1) | exact HB.out))) : w.heap.size ≤ g457)); clear HB; have HB := n0_; have B457 := n1_; have GW457 := n2_; have GE457 := n3_; clear n0_ n1_ n2_ n3_; clear hb hbox hg) | ((with_reducible refine gate_dst (N := 12) rfl ?_); refine wpList_load_row rfl 26 (.tmp 4) rfl g457 rfl 26 #[.int .i64 a1_0, .int .u8 a1_1, .int .u8 a1_2, .int .u8 a1_3, .int .u8 a1_4, .int .u8 a1_5, .int .u8 a1_6, .int .u8 a1_7, .int .u8 a1_8, .int .u8 a1_9, .int .u8 a1_10, .int .u8 a1_11, .int .u8 a1_12, .int .u8 a1_13, .int .u8 a1_14, .int .u8 a1_15, .int .u8 a1_16, .int .u8 a1_17, .int .u8 a1_18, .int .u8 a1_19, .int .u8 a1_20] (0, 0) _ (by exact B457.out) Tryd.underlying26 rfl (by kernel_rfl) ?_) | ((with_reducible refine gate_callee (f := 32) rfl ?_); refine goesL_ (some 14) rfl rfl Tryd.func32 (by kernel_rfl) rfl #[.slice A0 l0.length c0, .agg #[.int .i64 a1_0, .int .u8 a1_1, .int .u8 a1_2, .int .u8 a1_3, .int .u8 a1_4, .int .u8 a1_5, .int .u8 a1_6, .int .u8 a1_7, .int .u8 a1_8, .int .u8 a1_9, .int .u8 a1_10, .int .u8 a1_11, .int .u8 a1_12, .int .u8 a1_13, .int .u8 a1_14, .int .u8 a1_15, .int .u8 a1_16, .int .u8 a1_17, .int .u8 a1_18, .int .u8 a1_19, .int .u8 a1_20], .int .i64 a2] rfl (by (try simp only [List.map_toArray, List.map_cons, List.map_nil]); first | done | rfl | (go_simp; done)) ?_; (with_reducible refine (machine_bound.calls k _ _ l0 a1_0 a1_1 a1_2 a1_3 a1_4 a1_5 a1_6 a1_7 a1_8 a1_9 a1_10 a1_11 a1_12 a1_13 a1_14 a1_15 a1_16 a1_17 a1_18 a1_19 a1_20 a2 t458 _ ?side1 ?side2 ?side3 A4.out).mono ?_); (case side1 => repeat (first | exact (Kd.C_below HR0.out HB.out) | (with_reducible refine Kd.C_alloc ?_ _) | (with_reducible refine Kd.C_drewN ?_ _) | (with_reducible refine Kd.C_drew ?_))); (case side2 => exact HC0.out); (case side3 => repeat (first | exact (GL.below HRG.out HB.out) | (with_reducible refine GL.alloc ?_ _) | (with_reducible refine GL.drewN ?_ _) | (with_reducible refine GL.drew ?_))); rintro e w26 ⟨rfl, hb⟩; refine ⟨_, rfl, ?_⟩; have n0_ := Aside0.mk (blk_below (g := g457) (o := .cells #[.int .i64 a1_0, .int .u8 a1_1, .int .u8 a1_2, .int .u8 a1_3, .int .u8 a1_4, .int .u8 a1_5, .int .u8 a1_6, .int .u8 a1_7, .int .u8 a1_8, .int .u8 a1_9, .int .u8 a1_10, .int .u8 a1_11, .int .u8 a1_12, .int .u8 a1_13, .int .u8 a1_14, .int .u8 a1_15, .int .u8 a1_16, .int .u8 a1_17, .int .u8 a1_18, .int .u8 a1_19, .int .u8 a1_20] 26 (0, 0)) (by exact B457.out) hb); have n1_ := Aside0.mk (below_step (by repeat (first | (with_reducible first | exact HB.out | apply below_alloc | apply pw_below_drewN | apply below_drew1 | refine below_set ?_ GE457.out) | exact HB.out)) hb); clear B457; clear HB; have B457 := n0_; have HB := n1_; clear n0_ n1_; (try clear hb); (try clear hb2); (try clear hk); (try clear hi)))
  go_ret2
  exact ⟨_, by first | rfl | (simp [errW_none, errW_some] <;> rfl) | (simp [*, errW_none, errW_some] <;> rfl), by first | exact Kd.R_nil _ _ _ _ _ | exact Kd.N_nil _ _ _ _ _ | exact Kd.V_nil _ _ _ _ _ | exact Kd.Q_nil _ _ _ _ _ | exact Kd.S_nil _ _ _ _ _, by repeat (first | (with_reducible first | exact HB.out | apply below_alloc | apply pw_below_drewN | apply below_drew1 | refine below_set ?_ GE457.out) | exact HB.out)⟩

end Go.Proofs.YtgmdpghbkjlnhaaDoor.Q
end
section
namespace Go.Proofs.YtgmdpghbkjlnhaaDoor.Q
open Go.RowKit Go.Proofs.YtgmdpghbkjlnhaaDoorW.PrintWords Go.Proofs.YtgmdpghbkjlnhaaDoorW.PrintLast Go.Proofs.YtgmdpghbkjlnhaaDoorW.PrintMore
set_option linter.unusedVariables false
set_option linter.unusedSimpArgs false
theorem updv_bd {o a v : Int} {z : Nat} (ho : 0 ≤ o ∧ o ≤ 255) (hv : 0 ≤ v ∧ v ≤ 255) : 0 ≤ updv o z a v ∧ updv o z a v ≤ 255 := by
  unfold updv
  split
  · exact hv
  · exact ho
theorem okS_setR {s : M} (h : okS s) (a v : Int) (hv : 0 ≤ v ∧ v ≤ 255) : okS (setR s a v) := by
  intro x hx
  simp only [setR, List.mem_cons, List.not_mem_nil, or_false] at hx
  rcases hx with rfl | rfl | rfl | rfl | rfl | rfl | rfl | rfl | rfl | rfl | rfl | rfl | rfl | rfl | rfl | rfl | rfl | rfl | rfl | rfl
  all_goals first | exact updv_bd (h _ (by simp)) hv | exact h _ (by simp)
theorem okS_setM {s : M} (h : okS s) (a v : Int) (hv : 0 ≤ v ∧ v ≤ 255) : okS (setM s a v) := by
  intro x hx
  simp only [setM, List.mem_cons, List.not_mem_nil, or_false] at hx
  rcases hx with rfl | rfl | rfl | rfl | rfl | rfl | rfl | rfl | rfl | rfl | rfl | rfl | rfl | rfl | rfl | rfl | rfl | rfl | rfl | rfl
  all_goals first | exact updv_bd (h _ (by simp)) hv | exact h _ (by simp)
theorem okS_at {s : M} (h : okS s) (x : Int) : okS (atM s x) := h
theorem okS_nxt {s : M} (h : okS s) : okS (nxt s) := h
theorem stp_okS {n : Int} {i : S47} (hi : okI n i) {s : M} (hs : okS s) : okS (stp i s) := by
  obtain ⟨⟨⟨w0, _⟩, ⟨w1, _⟩, ⟨w2, _⟩, ⟨w3, w4⟩⟩, h9, ha, hb, hg, hj⟩ := hi
  have r1 := reg_bd hs w1 (by omega : i.f1 < 4)
  have r2 := reg_bd hs w2 (by omega : i.f2 < 4)
  have e256 : ∀ x : Int, 0 ≤ x % 256 ∧ x % 256 ≤ 255 := fun x => by omega
  unfold stp
  by_cases h0 : i.f0 = 0
  · rw [if_pos h0]; exact hs
  rw [if_neg h0]
  by_cases h1 : i.f0 = 1
  · rw [if_pos h1]; exact okS_nxt (okS_setR hs _ _ ⟨w3, w4⟩)
  rw [if_neg h1]
  by_cases h2 : i.f0 = 2
  · rw [if_pos h2]; exact okS_nxt (okS_setR hs _ _ r2)
  rw [if_neg h2]
  by_cases h3 : i.f0 = 3
  · rw [if_pos h3]; exact okS_nxt (okS_setR hs _ _ (e256 _))
  rw [if_neg h3]
  by_cases h4 : i.f0 = 4
  · rw [if_pos h4]; exact okS_nxt (okS_setR hs _ _ (e256 _))
  rw [if_neg h4]
  by_cases h5 : i.f0 = 5
  · rw [if_pos h5]; exact okS_nxt (okS_setR hs _ _ (e256 _))
  rw [if_neg h5]
  by_cases h6 : i.f0 = 6
  · rw [if_pos h6]; exact okS_nxt (okS_setR hs _ _ (mem_bd hs (by omega) (by omega)))
  rw [if_neg h6]
  by_cases h7 : i.f0 = 7
  · rw [if_pos h7]; exact okS_nxt (okS_setM hs _ _ r1)
  rw [if_neg h7]
  by_cases h8 : reg s i.f1 = 0
  · rw [if_pos h8]; exact okS_nxt hs
  · rw [if_neg h8]; exact okS_at hs _
theorem stp_place {n : Int} {i : S47} (hi : okI n i) (s : M) (hs : 0 ≤ s.p0) (hlt : s.p0 < n) (hn : n ≤ 32) : 0 ≤ (stp i s).p0 ∧ (stp i s).p0 ≤ n := by
  obtain ⟨⟨⟨w0, _⟩, ⟨w1, _⟩, ⟨w2, _⟩, ⟨w3, w4⟩⟩, h9, ha, hb, hg, hj⟩ := hi
  have hx : ∀ t : M, t.p0 = s.p0 → 0 ≤ (nxt t).p0 ∧ (nxt t).p0 ≤ n := by
    intro t ht
    show 0 ≤ wrap64 (t.p0 + 1) ∧ wrap64 (t.p0 + 1) ≤ n
    rw [ht]
    unfold wrap64
    omega
  unfold stp
  by_cases h0 : i.f0 = 0
  · rw [if_pos h0]; omega
  rw [if_neg h0]
  by_cases h1 : i.f0 = 1
  · rw [if_pos h1]; exact hx _ rfl
  rw [if_neg h1]
  by_cases h2 : i.f0 = 2
  · rw [if_pos h2]; exact hx _ rfl
  rw [if_neg h2]
  by_cases h3 : i.f0 = 3
  · rw [if_pos h3]; exact hx _ rfl
  rw [if_neg h3]
  by_cases h4 : i.f0 = 4
  · rw [if_pos h4]; exact hx _ rfl
  rw [if_neg h4]
  by_cases h5 : i.f0 = 5
  · rw [if_pos h5]; exact hx _ rfl
  rw [if_neg h5]
  by_cases h6 : i.f0 = 6
  · rw [if_pos h6]; exact hx _ rfl
  rw [if_neg h6]
  by_cases h7 : i.f0 = 7
  · rw [if_pos h7]; exact hx _ rfl
  rw [if_neg h7]
  by_cases h8 : reg s i.f1 = 0
  · rw [if_pos h8]; exact hx _ rfl
  · rw [if_neg h8]
    have := hj (by omega)
    show 0 ≤ i.f3 ∧ i.f3 ≤ n
    omega
def nx (l : List S47) (s : M) : M := stp (fet l s.p0) s
theorem nx_okB (l : List S47) {s : M} (h : okB l s = true) : okB l (nx l s) = true := by
  rw [okB_iff] at h ⊢
  obtain ⟨hp, h0, h1⟩ := h
  refine ⟨hp, ?_⟩
  by_cases hl : s.p0 < (l.length : Int)
  · exact stp_place (fet_ok hp s.p0) s h0 hl (by have := hp.1; omega)
  · have e : fet l s.p0 = ⟨0, 0, 0, 0⟩ := by unfold fet; rw [if_neg (by omega)]
    have e2 : nx l s = s := by unfold nx; rw [e]; rfl
    rw [e2]
    exact ⟨h0, h1⟩
theorem nx_okS (l : List S47) {s : M} (h : okB l s = true) (hs : okS s) : okS (nx l s) := stp_okS (fet_ok ((okB_iff l s).1 h).1 s.p0) hs
noncomputable def bd (l : List S47) (s : M) (n : Int) : Int := if okB l s = true ∧ 0 ≤ n then (if n > 65536 then 3 else 0) else 1
theorem bound_f (l : List S47) (hw : ∀ i ∈ l, wfI i) (hn : l.length ≤ 40) (k : Nat) (hk : 41 ≤ k) (s : M) (n : Int) : machine_bound.f k l s.p0 s.p1 s.p2 s.p3 s.p4 s.p5 s.p6 s.p7 s.p8 s.p9 s.p10 s.p11 s.p12 s.p13 s.p14 s.p15 s.p16 s.p17 s.p18 s.p19 s.p20 n = some (bd l s n) := by
  obtain ⟨k, rfl⟩ : ∃ j, k = j + 1 := ⟨k - 1, by omega⟩
  unfold machine_bound.f bd
  refine bnd (valid_f l hw hn (k + 1) hk s) ?_
  by_cases h : okB l s = true
  · rw [if_pos h, machine_bound.j0]
    by_cases h0 : n < 0
    · rw [if_pos (by simpa using h0), if_neg (by omega)]
    · have hh : okB l s = true ∧ 0 ≤ n := ⟨h, by omega⟩
      rw [if_neg (by simpa using h0), if_pos hh]
      by_cases h6 : n > 65536
      · rw [if_pos h6, if_pos h6]
      · rw [if_neg h6, if_neg h6]
  · rw [if_neg h, machine_bound.j0, if_pos rfl, if_neg (fun q => h q.1)]
def M.e2 (s : M) (c e : Int) : Int × Int × Int × Int × Int × Int × Int × Int × Int × Int × Int × Int × Int × Int × Int × Int × Int × Int × Int × Int × Int × Int × Int := (s.p0, s.p1, s.p2, s.p3, s.p4, s.p5, s.p6, s.p7, s.p8, s.p9, s.p10, s.p11, s.p12, s.p13, s.p14, s.p15, s.p16, s.p17, s.p18, s.p19, s.p20, c, e)
def rn (l : List S47) : Nat → Nat → M → M × Nat
  | 0, i, s => (s, i)
  | d + 1, i, s => if (fet l s.p0).f0 = 0 then (s, i) else rn l d (i + 1) (nx l s)
theorem run_l0 (l : List S47) (hw : ∀ i ∈ l, wfI i) (hn : l.length ≤ 40) (n : Nat) (hN : n ≤ 65536) : ∀ (d i k : Nat) (s : M), n - i = d → i ≤ n → d < k → okB l s = true → okS s → machine_Run.l0 k l n n i s.p0 s.p1 s.p2 s.p3 s.p4 s.p5 s.p6 s.p7 s.p8 s.p9 s.p10 s.p11 s.p12 s.p13 s.p14 s.p15 s.p16 s.p17 s.p18 s.p19 s.p20 = some ((rn l d i s).1.e2 (rn l d i s).2 0)
  | 0, i, k, s, hd, hi, hk, hB, hS => by
    obtain ⟨k, rfl⟩ : ∃ j, k = j + 1 := ⟨k - 1, by omega⟩
    obtain rfl : i = n := by omega
    rw [machine_Run.l0, if_neg (by omega)]
    rfl
  | d + 1, i, k, s, hd, hi, hk, hB, hS => by
    obtain ⟨k, rfl⟩ : ∃ j, k = j + 1 := ⟨k - 1, by omega⟩
    have hp := ((okB_iff l s).1 hB).1
    rw [machine_Run.l0, if_pos (by omega)]
    refine bnd (fetch_f l s.p0) ?_
    unfold rn
    by_cases h0 : (fet l s.p0).f0 = 0
    · obtain ⟨a, b, c⟩ := fet_zero hp s.p0 h0
      rw [if_pos h0]
      refine Eq.trans (if_pos (by simp only [h0, a, b, c]; rfl)) ?_
      rfl
    · rw [if_neg h0]
      refine Eq.trans (if_neg (by simp [h0])) ?_
      refine bnd (step_f (fet_ok hp s.p0) hS) ?_
      have e : wrap64 ((i : Int) + 1) = ((i + 1 : Nat) : Int) := by unfold wrap64; omega
      rw [e]
      exact run_l0 l hw hn n hN d (i + 1) k (nx l s) (by omega) (by omega) (by omega) (nx_okB l hB) (nx_okS l hB hS)
noncomputable def runV (l : List S47) (s : M) (n : Int) : Int × Int × Int × Int × Int × Int × Int × Int × Int × Int × Int × Int × Int × Int × Int × Int × Int × Int × Int × Int × Int × Int × Int := if bd l s n = 0 then (rn l n.toNat 0 s).1.e2 (rn l n.toNat 0 s).2 0 else zM.e2 0 (bd l s n)
theorem bd_zero {l : List S47} {s : M} {n : Int} (h : bd l s n = 0) : okB l s = true ∧ 0 ≤ n ∧ n ≤ 65536 := by
  unfold bd at h
  split at h
  · rename_i h1
    split at h
    · omega
    · exact ⟨h1.1, h1.2, by omega⟩
  · omega
theorem Run_f (l : List S47) (hw : ∀ i ∈ l, wfI i) (hn : l.length ≤ 40) (k : Nat) (n : Int) (hk : 41 ≤ k) (hk2 : n ≤ 65536 → n + 50 < k) {s : M} (hs : okS s) : machine_Run.f k l s.p0 s.p1 s.p2 s.p3 s.p4 s.p5 s.p6 s.p7 s.p8 s.p9 s.p10 s.p11 s.p12 s.p13 s.p14 s.p15 s.p16 s.p17 s.p18 s.p19 s.p20 n = some (runV l s n) := by
  unfold machine_Run.f runV
  refine bnd (bound_f l hw hn k hk s n) ?_
  by_cases h : bd l s n = 0
  · obtain ⟨hB, h0, h1⟩ := bd_zero h
    obtain ⟨m, rfl⟩ := Int.eq_ofNat_of_zero_le h0
    have := hk2 h1
    rw [if_pos h, if_pos h]
    exact run_l0 l hw hn m (by omega) m 0 k s (by omega) (by omega) (by omega) hB hs
  · rw [if_neg h, if_neg h]
    rfl
def toS (s : M) : S26 := ⟨s.p0, ⟨s.p1, s.p2, s.p3, s.p4⟩, ⟨s.p5, s.p6, s.p7, s.p8, s.p9, s.p10, s.p11, s.p12, s.p13, s.p14, s.p15, s.p16, s.p17, s.p18, s.p19, s.p20⟩⟩
def sts (l : List S47) : Nat → M → List S26
  | 0, _ => []
  | d + 1, s => toS s :: sts l d (nx l s)
theorem states_l0 (l : List S47) (hw : ∀ i ∈ l, wfI i) (hn : l.length ≤ 40) (n : Nat) (hN : n ≤ 65536) : ∀ (d i k : Nat) (s : M) (L : List S26), n - i = d → i ≤ n → L.length = i → d < k → okB l s = true → okS s → machine_States.l0 k l (L ++ List.replicate d z26) n i s.p0 s.p1 s.p2 s.p3 s.p4 s.p5 s.p6 s.p7 s.p8 s.p9 s.p10 s.p11 s.p12 s.p13 s.p14 s.p15 s.p16 s.p17 s.p18 s.p19 s.p20 = some (L ++ sts l d s, 0)
  | 0, i, k, s, L, hd, hi, hL, hk, hB, hS => by
    obtain ⟨k, rfl⟩ : ∃ j, k = j + 1 := ⟨k - 1, by omega⟩
    rw [machine_States.l0, if_neg (by omega)]
    rfl
  | d + 1, i, k, s, L, hd, hi, hL, hk, hB, hS => by
    obtain ⟨k, rfl⟩ : ∃ j, k = j + 1 := ⟨k - 1, by omega⟩
    have hp := ((okB_iff l s).1 hB).1
    rw [machine_States.l0, if_pos (by omega), if_pos (by omega), if_pos (by rw [List.length_append, List.length_replicate]; omega)]
    refine bnd (fetch_f l s.p0) (bnd (step_f (fet_ok hp s.p0) hS) ?_)
    have e : wrap64 ((i : Int) + 1) = ((i + 1 : Nat) : Int) := by unfold wrap64; omega
    have e1 : ((i : Int)).toNat = L.length := by omega
    have e2 : ∀ x : S26, (L ++ List.replicate (d + 1) z26).set L.length x = (L ++ [x]) ++ List.replicate d z26 := by
      intro x
      rw [List.set_append_right _ _ (Nat.le_refl _), Nat.sub_self, List.replicate_succ, List.set_cons_zero, List.append_assoc]
      rfl
    rw [e, e1, e2]
    refine (states_l0 l hw hn n hN d (i + 1) k (nx l s) (L ++ [toS s]) (by omega) (by omega) (by simp; omega) (by omega) (nx_okB l hB) (nx_okS l hB hS)).trans ?_
    rw [List.append_assoc]
    rfl
noncomputable def stsV (l : List S47) (s : M) (n : Int) : List S26 × Int := if bd l s n = 0 then (sts l n.toNat s, 0) else ([], bd l s n)
theorem States_f (l : List S47) (hw : ∀ i ∈ l, wfI i) (hn : l.length ≤ 40) (k : Nat) (n : Int) (hk : 41 ≤ k) (hk2 : n ≤ 65536 → n + 50 < k) {s : M} (hs : okS s) : machine_States.f k l s.p0 s.p1 s.p2 s.p3 s.p4 s.p5 s.p6 s.p7 s.p8 s.p9 s.p10 s.p11 s.p12 s.p13 s.p14 s.p15 s.p16 s.p17 s.p18 s.p19 s.p20 n = some (stsV l s n) := by
  unfold machine_States.f stsV
  refine bnd (bound_f l hw hn k hk s n) ?_
  by_cases h : bd l s n = 0
  · obtain ⟨hB, h0, h1⟩ := bd_zero h
    obtain ⟨m, rfl⟩ := Int.eq_ofNat_of_zero_le h0
    have := hk2 h1
    rw [if_pos h, if_pos h, if_pos h0, if_pos (by omega)]
    refine bnd rfl ?_
    rw [List.length_replicate]
    have h5 := states_l0 l hw hn m (by omega) m 0 k s [] (by omega) (by omega) rfl (by omega) hB hs
    exact h5
  · rw [if_neg h, if_neg h]
theorem sts_length (l : List S47) : ∀ (d : Nat) (s : M), (sts l d s).length = d
  | 0, s => rfl
  | d + 1, s => by rw [sts, List.length_cons, sts_length l d]
end Go.Proofs.YtgmdpghbkjlnhaaDoor.Q
end
section
namespace Go.Proofs.YtgmdpghbkjlnhaaDoor.Q
open Go.RowKit Go.Proofs.YtgmdpghbkjlnhaaDoorW.PrintWords Go.Proofs.YtgmdpghbkjlnhaaDoorW.PrintLast Go.Proofs.YtgmdpghbkjlnhaaDoorW.PrintMore
attribute [local go_sem] max2_int min2_int max_two min_two max_three min_three max_four min_four run_store_fnV run_store_fnc run_store_nfn   -- for this text's walks alone
set_option linter.unusedVariables false
set_option linter.unusedSimpArgs false

/-! ### attestorlaw28_valid: function 24 -/
def attestorlaw28_valid.f (l0 : List (S47)) (a1_0 : Int) (a1_1 : Int) (a1_2 : Int) (a1_3 : Int) (a1_4 : Int) (a1_5 : Int) (a1_6 : Int) (a1_7 : Int) (a1_8 : Int) (a1_9 : Int) (a1_10 : Int) (a1_11 : Int) (a1_12 : Int) (a1_13 : Int) (a1_14 : Int) (a1_15 : Int) (a1_16 : Int) (a1_17 : Int) (a1_18 : Int) (a1_19 : Int) (a1_20 : Int) : Option (Int × Int × Int × Int × Int × Int × Int × Int × Int × Int × Int × Int × Int × Int × Int × Int × Int × Int × Int × Int × Int) := if (IntKind.u64.wrap (wrap64 ((l0.length : Int) + 1))) = 0 then (none) else (some (wrap64 (Int.tmod (IntKind.u64.wrap (a1_0)) (IntKind.u64.wrap (wrap64 ((l0.length : Int) + 1)))), a1_1, a1_2, a1_3, a1_4, a1_5, a1_6, a1_7, a1_8, a1_9, a1_10, a1_11, a1_12, a1_13, a1_14, a1_15, a1_16, a1_17, a1_18, a1_19, a1_20))
set_option maxHeartbeats 8000000 in
set_option maxRecDepth 100000 in
theorem attestorlaw28_valid.calls (A0 : Option Addr) (c0 : Nat) (l0 : List (S47)) (a1_0 : Int) (a1_1 : Int) (a1_2 : Int) (a1_3 : Int) (a1_4 : Int) (a1_5 : Int) (a1_6 : Int) (a1_7 : Int) (a1_8 : Int) (a1_9 : Int) (a1_10 : Int) (a1_11 : Int) (a1_12 : Int) (a1_13 : Int) (a1_14 : Int) (a1_15 : Int) (a1_16 : Int) (a1_17 : Int) (a1_18 : Int) (a1_19 : Int) (a1_20 : Int) (r1 : Int) (r2 : Int) (r3 : Int) (r4 : Int) (r5 : Int) (r6 : Int) (r7 : Int) (r8 : Int) (r9 : Int) (r10 : Int) (r11 : Int) (r12 : Int) (r13 : Int) (r14 : Int) (r15 : Int) (r16 : Int) (r17 : Int) (r18 : Int) (r19 : Int) (r20 : Int) (r21 : Int) (w : World) (hr0 : Kd.C k47 w A0 l0.length l0) (hc0 : l0.length ≤ c0) (h : attestorlaw28_valid.f l0 a1_0 a1_1 a1_2 a1_3 a1_4 a1_5 a1_6 a1_7 a1_8 a1_9 a1_10 a1_11 a1_12 a1_13 a1_14 a1_15 a1_16 a1_17 a1_18 a1_19 a1_20 = some (r1, r2, r3, r4, r5, r6, r7, r8, r9, r10, r11, r12, r13, r14, r15, r16, r17, r18, r19, r20, r21)) :
    Calls Tryd.prog 24 #[.slice A0 l0.length c0, .agg #[.int .i64 a1_0, .int .u8 a1_1, .int .u8 a1_2, .int .u8 a1_3, .int .u8 a1_4, .int .u8 a1_5, .int .u8 a1_6, .int .u8 a1_7, .int .u8 a1_8, .int .u8 a1_9, .int .u8 a1_10, .int .u8 a1_11, .int .u8 a1_12, .int .u8 a1_13, .int .u8 a1_14, .int .u8 a1_15, .int .u8 a1_16, .int .u8 a1_17, .int .u8 a1_18, .int .u8 a1_19, .int .u8 a1_20]] w fun e w' => e = .returned (.agg #[.int .i64 r1, .int .u8 r2, .int .u8 r3, .int .u8 r4, .int .u8 r5, .int .u8 r6, .int .u8 r7, .int .u8 r8, .int .u8 r9, .int .u8 r10, .int .u8 r11, .int .u8 r12, .int .u8 r13, .int .u8 r14, .int .u8 r15, .int .u8 r16, .int .u8 r17, .int .u8 r18, .int .u8 r19, .int .u8 r20, .int .u8 r21]) ∧ Below w.heap.size w w' := by
  have hu26 := Tryd.underlying26
  have HR0 := Aside0.mk hr0
  have HC0 := Aside0.mk hc0
  clear hr0 hc0
  have HB := Aside0.mk (Below.refl w.heap.size w)
  have H : (if (IntKind.u64.wrap (wrap64 ((l0.length : Int) + 1))) = 0 then (none) else (some (wrap64 (Int.tmod (IntKind.u64.wrap (a1_0)) (IntKind.u64.wrap (wrap64 ((l0.length : Int) + 1)))), a1_1, a1_2, a1_3, a1_4, a1_5, a1_6, a1_7, a1_8, a1_9, a1_10, a1_11, a1_12, a1_13, a1_14, a1_15, a1_16, a1_17, a1_18, a1_19, a1_20))) = some (r1, r2, r3, r4, r5, r6, r7, r8, r9, r10, r11, r12, r13, r14, r15, r16, r17, r18, r19, r20, r21) := h
  clear h
  by_cases c3 : (IntKind.u64.wrap (wrap64 ((l0.length : Int) + 1))) = 0
  · rw [if_pos c3] at H
    exact absurd H (by simp)
  · rw [if_neg c3] at H
    have c3b0 : ((IntKind.u64.wrap (wrap64 ((l0.length : Int) + 1))) == 0) = false := beq_eq_false_iff_ne.mpr c3
    have c3b1 : ((IntKind.u64.wrap (wrap64 ((l0.length : Int) + 1))) != 0) = true := bne_iff_ne.mpr c3
    simp only [Option.some.injEq, Prod.mk.injEq] at H
    obtain ⟨rfl, rfl, rfl, rfl, rfl, rfl, rfl, rfl, rfl, rfl, rfl, rfl, rfl, rfl, rfl, rfl, rfl, rfl, rfl, rfl, rfl⟩ := H
    go_enter Tryd.func24, Tryd.ntmps24
    go_wp2_with (first | ((with_reducible refine gate_dst (N := 3) rfl ?_); refine box_event ?hg (N := 3) ?hd (cs := #[.int .i64 a1_0, .int .u8 a1_1, .int .u8 a1_2, .int .u8 a1_3, .int .u8 a1_4, .int .u8 a1_5, .int .u8 a1_6, .int .u8 a1_7, .int .u8 a1_8, .int .u8 a1_9, .int .u8 a1_10, .int .u8 a1_11, .int .u8 a1_12, .int .u8 a1_13, .int .u8 a1_14, .int .u8 a1_15, .int .u8 a1_16, .int .u8 a1_17, .int .u8 a1_18, .int .u8 a1_19, .int .u8 a1_20]) (t := 26) ?hr ?_; (case hd => rfl); (case hg => rfl); (case hr => first | (go_simp; done) | (go_simp; rfl)); intro gb579 hg w4 hbox hb; have n0_ := Aside0.mk (below_step (by repeat (first | (with_reducible first | exact HB.out | apply below_alloc | apply pw_below_drewN | apply below_drew1) | exact HB.out)) hb); have n1_ := Aside0.mk (hbox); have n2_ := Aside0.mk ((by rw [hg]; exact (below_size (by repeat (first | (with_reducible first | exact HB.out | apply below_alloc | apply pw_below_drewN | apply below_drew1) | exact HB.out))) : w.heap.size ≤ gb579)); have n3_ := Aside0.mk ((by rw [hg]; exact (below_size (by repeat (first | (with_reducible first | exact HB.out | apply below_alloc | apply pw_below_drewN | apply below_drew1) | exact HB.out))) : w.heap.size ≤ gb579)); clear HB; have HB := n0_; have BK579 := n1_; have GW579 := n2_; have GE579 := n3_; clear n0_ n1_ n2_ n3_; clear hb hbox hg) | ((with_reducible refine gate_dst (N := 4) rfl ?_); refine box_event ?hg (N := 4) ?hd (cs := #[.int .i64 0, .int .u8 0, .int .u8 0, .int .u8 0, .int .u8 0, .int .u8 0, .int .u8 0, .int .u8 0, .int .u8 0, .int .u8 0, .int .u8 0, .int .u8 0, .int .u8 0, .int .u8 0, .int .u8 0, .int .u8 0, .int .u8 0, .int .u8 0, .int .u8 0, .int .u8 0, .int .u8 0]) (t := 26) ?hr ?_; (case hd => rfl); (case hg => rfl); (case hr => first | (go_simp; done) | (go_simp; rfl)); intro gb580 hg w5 hbox hb; have n0_ := Aside0.mk (blk_below (g := gb579) (o := .cells #[.int .i64 a1_0, .int .u8 a1_1, .int .u8 a1_2, .int .u8 a1_3, .int .u8 a1_4, .int .u8 a1_5, .int .u8 a1_6, .int .u8 a1_7, .int .u8 a1_8, .int .u8 a1_9, .int .u8 a1_10, .int .u8 a1_11, .int .u8 a1_12, .int .u8 a1_13, .int .u8 a1_14, .int .u8 a1_15, .int .u8 a1_16, .int .u8 a1_17, .int .u8 a1_18, .int .u8 a1_19, .int .u8 a1_20] 26 (0, 0)) (by (with_reducible repeat (first | refine blk_drewN ?_ _ | refine blk_drew ?_ | refine blk_alloc ?_ _)); exact BK579.out) hb); have n1_ := Aside0.mk (below_step (by repeat (first | (with_reducible first | exact HB.out | apply below_alloc | apply pw_below_drewN | apply below_drew1 | refine below_set ?_ GE579.out) | exact HB.out)) hb); have n2_ := Aside0.mk (hbox); have n3_ := Aside0.mk ((by rw [hg]; exact (below_size (by repeat (first | (with_reducible first | exact HB.out | apply below_alloc | apply pw_below_drewN | apply below_drew1 | refine below_set ?_ GE579.out) | exact HB.out))) : w.heap.size ≤ gb580)); have n4_ := Aside0.mk ((by rw [hg]; exact (below_size (by repeat (first | (with_reducible first | exact HB.out | apply below_alloc | apply pw_below_drewN | apply below_drew1 | refine below_set ?_ GE579.out) | exact HB.out))) : w.heap.size ≤ gb580)); have n5_ := Aside0.mk ((by rw [hg]; exact Nat.ne_of_lt (blk_lt (g := gb579) (o := .cells #[.int .i64 a1_0, .int .u8 a1_1, .int .u8 a1_2, .int .u8 a1_3, .int .u8 a1_4, .int .u8 a1_5, .int .u8 a1_6, .int .u8 a1_7, .int .u8 a1_8, .int .u8 a1_9, .int .u8 a1_10, .int .u8 a1_11, .int .u8 a1_12, .int .u8 a1_13, .int .u8 a1_14, .int .u8 a1_15, .int .u8 a1_16, .int .u8 a1_17, .int .u8 a1_18, .int .u8 a1_19, .int .u8 a1_20] 26 (0, 0)) (by (with_reducible repeat (first | refine blk_drewN ?_ _ | refine blk_drew ?_ | refine blk_alloc ?_ _)); exact BK579.out)) : gb579 ≠ gb580)); have n6_ := Aside0.mk ((by rw [hg]; exact Nat.ne_of_gt (blk_lt (g := gb579) (o := .cells #[.int .i64 a1_0, .int .u8 a1_1, .int .u8 a1_2, .int .u8 a1_3, .int .u8 a1_4, .int .u8 a1_5, .int .u8 a1_6, .int .u8 a1_7, .int .u8 a1_8, .int .u8 a1_9, .int .u8 a1_10, .int .u8 a1_11, .int .u8 a1_12, .int .u8 a1_13, .int .u8 a1_14, .int .u8 a1_15, .int .u8 a1_16, .int .u8 a1_17, .int .u8 a1_18, .int .u8 a1_19, .int .u8 a1_20] 26 (0, 0)) (by (with_reducible repeat (first | refine blk_drewN ?_ _ | refine blk_drew ?_ | refine blk_alloc ?_ _)); exact BK579.out)) : gb580 ≠ gb579)); clear BK579; clear HB; have BK579 := n0_; have HB := n1_; have BK580 := n2_; have GW580 := n3_; have GE580 := n4_; have NB579_580 := n5_; have NB580_579 := n6_; clear n0_ n1_ n2_ n3_ n4_ n5_ n6_; clear hb hbox hg; have hnb6 := NB579_580.out; have hnc6 := NB580_579.out; have hcz7_0 : w5.cell? ⟨gb579, 0, none⟩ = some (.int .i64 a1_0) := (blk_cell BK579.out 0).trans rfl; have hcz7_1 : w5.cell? ⟨gb579, 1, none⟩ = some (.int .u8 a1_1) := (blk_cell BK579.out 1).trans rfl; have hcz7_2 : w5.cell? ⟨gb579, 2, none⟩ = some (.int .u8 a1_2) := (blk_cell BK579.out 2).trans rfl; have hcz7_3 : w5.cell? ⟨gb579, 3, none⟩ = some (.int .u8 a1_3) := (blk_cell BK579.out 3).trans rfl; have hcz7_4 : w5.cell? ⟨gb579, 4, none⟩ = some (.int .u8 a1_4) := (blk_cell BK579.out 4).trans rfl; have hcz7_5 : w5.cell? ⟨gb579, 5, none⟩ = some (.int .u8 a1_5) := (blk_cell BK579.out 5).trans rfl; have hcz7_6 : w5.cell? ⟨gb579, 6, none⟩ = some (.int .u8 a1_6) := (blk_cell BK579.out 6).trans rfl; have hcz7_7 : w5.cell? ⟨gb579, 7, none⟩ = some (.int .u8 a1_7) := (blk_cell BK579.out 7).trans rfl; have hcz7_8 : w5.cell? ⟨gb579, 8, none⟩ = some (.int .u8 a1_8) := (blk_cell BK579.out 8).trans rfl; have hcz7_9 : w5.cell? ⟨gb579, 9, none⟩ = some (.int .u8 a1_9) := (blk_cell BK579.out 9).trans rfl; have hcz7_10 : w5.cell? ⟨gb579, 10, none⟩ = some (.int .u8 a1_10) := (blk_cell BK579.out 10).trans rfl; have hcz7_11 : w5.cell? ⟨gb579, 11, none⟩ = some (.int .u8 a1_11) := (blk_cell BK579.out 11).trans rfl; have hcz7_12 : w5.cell? ⟨gb579, 12, none⟩ = some (.int .u8 a1_12) := (blk_cell BK579.out 12).trans rfl; have hcz7_13 : w5.cell? ⟨gb579, 13, none⟩ = some (.int .u8 a1_13) := (blk_cell BK579.out 13).trans rfl; have hcz7_14 : w5.cell? ⟨gb579, 14, none⟩ = some (.int .u8 a1_14) := (blk_cell BK579.out 14).trans rfl; have hcz7_15 : w5.cell? ⟨gb579, 15, none⟩ = some (.int .u8 a1_15) := (blk_cell BK579.out 15).trans rfl; have hcz7_16 : w5.cell? ⟨gb579, 16, none⟩ = some (.int .u8 a1_16) := (blk_cell BK579.out 16).trans rfl; have hcz7_17 : w5.cell? ⟨gb579, 17, none⟩ = some (.int .u8 a1_17) := (blk_cell BK579.out 17).trans rfl; have hcz7_18 : w5.cell? ⟨gb579, 18, none⟩ = some (.int .u8 a1_18) := (blk_cell BK579.out 18).trans rfl; have hcz7_19 : w5.cell? ⟨gb579, 19, none⟩ = some (.int .u8 a1_19) := (blk_cell BK579.out 19).trans rfl; have hcz7_20 : w5.cell? ⟨gb579, 20, none⟩ = some (.int .u8 a1_20) := (blk_cell BK579.out 20).trans rfl; have hfz7_0 := blk_frozen BK579.out 0; have hfz7_1 := blk_frozen BK579.out 1; have hfz7_2 := blk_frozen BK579.out 2; have hfz7_3 := blk_frozen BK579.out 3; have hfz7_4 := blk_frozen BK579.out 4; have hfz7_5 := blk_frozen BK579.out 5; have hfz7_6 := blk_frozen BK579.out 6; have hfz7_7 := blk_frozen BK579.out 7; have hfz7_8 := blk_frozen BK579.out 8; have hfz7_9 := blk_frozen BK579.out 9; have hfz7_10 := blk_frozen BK579.out 10; have hfz7_11 := blk_frozen BK579.out 11; have hfz7_12 := blk_frozen BK579.out 12; have hfz7_13 := blk_frozen BK579.out 13; have hfz7_14 := blk_frozen BK579.out 14; have hfz7_15 := blk_frozen BK579.out 15; have hfz7_16 := blk_frozen BK579.out 16; have hfz7_17 := blk_frozen BK579.out 17; have hfz7_18 := blk_frozen BK579.out 18; have hfz7_19 := blk_frozen BK579.out 19; have hfz7_20 := blk_frozen BK579.out 20) | ((with_reducible refine gate_dst (N := 15) rfl ?_); refine wpList_load_row rfl 26 (.tmp 3) rfl gb579 rfl 26 #[.int .i64 (wrap64 (Int.tmod (IntKind.u64.wrap (a1_0)) (IntKind.u64.wrap (wrap64 ((l0.length : Int) + 1))))), .int .u8 a1_1, .int .u8 a1_2, .int .u8 a1_3, .int .u8 a1_4, .int .u8 a1_5, .int .u8 a1_6, .int .u8 a1_7, .int .u8 a1_8, .int .u8 a1_9, .int .u8 a1_10, .int .u8 a1_11, .int .u8 a1_12, .int .u8 a1_13, .int .u8 a1_14, .int .u8 a1_15, .int .u8 a1_16, .int .u8 a1_17, .int .u8 a1_18, .int .u8 a1_19, .int .u8 a1_20] (0, 0) _ (by (with_reducible repeat (first | refine blk_drewN ?_ _ | refine blk_drew ?_ | refine blk_alloc ?_ _)); refine blk_put (cs := #[.int .i64 a1_0, .int .u8 a1_1, .int .u8 a1_2, .int .u8 a1_3, .int .u8 a1_4, .int .u8 a1_5, .int .u8 a1_6, .int .u8 a1_7, .int .u8 a1_8, .int .u8 a1_9, .int .u8 a1_10, .int .u8 a1_11, .int .u8 a1_12, .int .u8 a1_13, .int .u8 a1_14, .int .u8 a1_15, .int .u8 a1_16, .int .u8 a1_17, .int .u8 a1_18, .int .u8 a1_19, .int .u8 a1_20]) ?_ 0 _ rfl; (with_reducible repeat (first | refine blk_drewN ?_ _ | refine blk_drew ?_ | refine blk_alloc ?_ _)); exact BK579.out) Tryd.underlying26 rfl (by kernel_rfl) ?_) | ((with_reducible refine gate_store (t := 26) (p := 4) rfl ?_); have n0_ : Aside0 ((w5.setCell ⟨gb579, 0, none⟩ (.int .i64 (wrap64 (Int.tmod (IntKind.u64.wrap (a1_0)) (IntKind.u64.wrap (wrap64 ((l0.length : Int) + 1))))))).heap[gb579]? = some (.cells #[.int .i64 (wrap64 (Int.tmod (IntKind.u64.wrap (a1_0)) (IntKind.u64.wrap (wrap64 ((l0.length : Int) + 1))))), .int .u8 a1_1, .int .u8 a1_2, .int .u8 a1_3, .int .u8 a1_4, .int .u8 a1_5, .int .u8 a1_6, .int .u8 a1_7, .int .u8 a1_8, .int .u8 a1_9, .int .u8 a1_10, .int .u8 a1_11, .int .u8 a1_12, .int .u8 a1_13, .int .u8 a1_14, .int .u8 a1_15, .int .u8 a1_16, .int .u8 a1_17, .int .u8 a1_18, .int .u8 a1_19, .int .u8 a1_20] 26 (0, 0))) := ⟨by (with_reducible repeat (first | refine blk_drewN ?_ _ | refine blk_drew ?_ | refine blk_alloc ?_ _)); refine blk_put (cs := #[.int .i64 a1_0, .int .u8 a1_1, .int .u8 a1_2, .int .u8 a1_3, .int .u8 a1_4, .int .u8 a1_5, .int .u8 a1_6, .int .u8 a1_7, .int .u8 a1_8, .int .u8 a1_9, .int .u8 a1_10, .int .u8 a1_11, .int .u8 a1_12, .int .u8 a1_13, .int .u8 a1_14, .int .u8 a1_15, .int .u8 a1_16, .int .u8 a1_17, .int .u8 a1_18, .int .u8 a1_19, .int .u8 a1_20]) ?_ 0 _ rfl; (with_reducible repeat (first | refine blk_drewN ?_ _ | refine blk_drew ?_ | refine blk_alloc ?_ _)); exact BK579.out⟩; have n1_ : Aside0 ((w5.setCell ⟨gb579, 0, none⟩ (.int .i64 (wrap64 (Int.tmod (IntKind.u64.wrap (a1_0)) (IntKind.u64.wrap (wrap64 ((l0.length : Int) + 1))))))).heap[gb580]? = some (.cells #[.int .i64 0, .int .u8 0, .int .u8 0, .int .u8 0, .int .u8 0, .int .u8 0, .int .u8 0, .int .u8 0, .int .u8 0, .int .u8 0, .int .u8 0, .int .u8 0, .int .u8 0, .int .u8 0, .int .u8 0, .int .u8 0, .int .u8 0, .int .u8 0, .int .u8 0, .int .u8 0, .int .u8 0] 26 (0, 0))) := ⟨by (with_reducible repeat (first | refine blk_drewN ?_ _ | refine blk_drew ?_ | refine blk_alloc ?_ _)); refine blk_far ?_ NB580_579.out _; (with_reducible repeat (first | refine blk_drewN ?_ _ | refine blk_drew ?_ | refine blk_alloc ?_ _)); exact BK580.out⟩; have n2_ : Aside0 (Below w.heap.size w (w5.setCell ⟨gb579, 0, none⟩ (.int .i64 (wrap64 (Int.tmod (IntKind.u64.wrap (a1_0)) (IntKind.u64.wrap (wrap64 ((l0.length : Int) + 1)))))))) := ⟨by repeat (first | (with_reducible first | exact HB.out | apply below_alloc | apply pw_below_drewN | apply below_drew1 | refine below_set ?_ GE579.out | refine below_set ?_ GE580.out) | exact HB.out)⟩; (try clear BK579); (try clear BK580); (try clear HB); generalize (w5.setCell ⟨gb579, 0, none⟩ (.int .i64 (wrap64 (Int.tmod (IntKind.u64.wrap (a1_0)) (IntKind.u64.wrap (wrap64 ((l0.length : Int) + 1))))))) = w8 at n0_ n1_ n2_ ⊢; have BK579 := n0_; have BK580 := n1_; have HB := n2_; clear n0_ n1_ n2_; refine store_wide rfl 26 4 _ rfl rfl gb580 #[.int .i64 (wrap64 (Int.tmod (IntKind.u64.wrap (a1_0)) (IntKind.u64.wrap (wrap64 ((l0.length : Int) + 1))))), .int .u8 a1_1, .int .u8 a1_2, .int .u8 a1_3, .int .u8 a1_4, .int .u8 a1_5, .int .u8 a1_6, .int .u8 a1_7, .int .u8 a1_8, .int .u8 a1_9, .int .u8 a1_10, .int .u8 a1_11, .int .u8 a1_12, .int .u8 a1_13, .int .u8 a1_14, .int .u8 a1_15, .int .u8 a1_16, .int .u8 a1_17, .int .u8 a1_18, .int .u8 a1_19, .int .u8 a1_20] rfl rfl 26 #[.int .i64 0, .int .u8 0, .int .u8 0, .int .u8 0, .int .u8 0, .int .u8 0, .int .u8 0, .int .u8 0, .int .u8 0, .int .u8 0, .int .u8 0, .int .u8 0, .int .u8 0, .int .u8 0, .int .u8 0, .int .u8 0, .int .u8 0, .int .u8 0, .int .u8 0, .int .u8 0, .int .u8 0] BK580.out (by kernel_rfl) rfl (by simp [Value.oneCell']) ?_; intro w9 hnew hoth hbel; have n0_ := Aside0.mk ((hoth _ NB579_580.out).trans BK579.out); have n1_ := Aside0.mk (hnew); have n2_ := Aside0.mk (Below.trans (by repeat (first | (with_reducible first | exact HB.out | apply below_alloc | apply pw_below_drewN | apply below_drew1 | refine below_set ?_ GE579.out | refine below_set ?_ GE580.out) | exact HB.out)) (hbel.mono GE580.out)); clear BK579; clear BK580; clear HB; have BK579 := n0_; have BK580 := n1_; have HB := n2_; clear n0_ n1_ n2_; clear hnew hoth hbel))
    refine bodyPost_ret (results_cell_row rfl _ _ gb580 26 #[.int .i64 (wrap64 (Int.tmod (IntKind.u64.wrap (a1_0)) (IntKind.u64.wrap (wrap64 ((l0.length : Int) + 1))))), .int .u8 a1_1, .int .u8 a1_2, .int .u8 a1_3, .int .u8 a1_4, .int .u8 a1_5, .int .u8 a1_6, .int .u8 a1_7, .int .u8 a1_8, .int .u8 a1_9, .int .u8 a1_10, .int .u8 a1_11, .int .u8 a1_12, .int .u8 a1_13, .int .u8 a1_14, .int .u8 a1_15, .int .u8 a1_16, .int .u8 a1_17, .int .u8 a1_18, .int .u8 a1_19, .int .u8 a1_20] (0, 0) _ rfl (by (with_reducible repeat (first | refine blk_drewN ?_ _ | refine blk_drew ?_ | refine blk_alloc ?_ _)); exact BK580.out) Tryd.underlying26 rfl (by kernel_rfl)) rfl ?_
    exact ⟨by first | rfl | (simp [errW_none, errW_some] <;> rfl) | (simp [*, errW_none, errW_some] <;> rfl), by repeat (first | (with_reducible first | exact HB.out | apply below_alloc | apply pw_below_drewN | apply below_drew1 | refine below_set ?_ GE579.out | refine below_set ?_ GE580.out) | exact HB.out)⟩

end Go.Proofs.YtgmdpghbkjlnhaaDoor.Q
end
section
namespace Go.Proofs.YtgmdpghbkjlnhaaDoor.Q
open Go.RowKit Go.Proofs.YtgmdpghbkjlnhaaDoorW.PrintWords Go.Proofs.YtgmdpghbkjlnhaaDoorW.PrintLast Go.Proofs.YtgmdpghbkjlnhaaDoorW.PrintMore
set_option linter.unusedVariables false
set_option linter.unusedSimpArgs false
def itr (l : List S47) : Nat → M → M
  | 0, s => s
  | n + 1, s => itr l n (nx l s)
def hlt (l : List S47) (s : M) : Prop := (fet l s.p0).f0 = 0
instance (l : List S47) (s : M) : Decidable (hlt l s) := by unfold hlt; infer_instance
theorem itr_add (l : List S47) : ∀ (a b : Nat) (s : M), itr l (a + b) s = itr l b (itr l a s)
  | 0, b, s => by rw [Nat.zero_add]; rfl
  | a + 1, b, s => by rw [show a + 1 + b = (a + b) + 1 by omega]; exact itr_add l a b (nx l s)
theorem itr_okB (l : List S47) : ∀ (n : Nat) {s : M}, okB l s = true → okB l (itr l n s) = true
  | 0, s, h => h
  | n + 1, s, h => itr_okB l n (nx_okB l h)
theorem itr_okS (l : List S47) : ∀ (n : Nat) {s : M}, okB l s = true → okS s → okS (itr l n s)
  | 0, s, h, hs => hs
  | n + 1, s, h, hs => itr_okS l n (nx_okB l h) (nx_okS l h hs)
theorem hlt_nx {l : List S47} {s : M} (h : hlt l s) : nx l s = s := by
  unfold nx stp
  exact if_pos h
theorem hlt_itr {l : List S47} : ∀ (n : Nat) {s : M}, hlt l s → itr l n s = s
  | 0, s, h => rfl
  | n + 1, s, h => by
    show itr l n (nx l s) = s
    rw [hlt_nx h]
    exact hlt_itr n h
theorem hlt_le {l : List S47} {s : M} {m n : Nat} (h : hlt l (itr l m s)) (hmn : m ≤ n) : itr l n s = itr l m s := by
  obtain ⟨d, rfl⟩ := Nat.exists_eq_add_of_le hmn
  rw [itr_add]
  exact hlt_itr d h
theorem rn_fst (l : List S47) : ∀ (d i : Nat) (s : M), (rn l d i s).1 = itr l d s
  | 0, i, s => rfl
  | d + 1, i, s => by
    unfold rn
    by_cases h : (fet l s.p0).f0 = 0
    · rw [if_pos h]; exact (hlt_itr (d + 1) h).symm
    · rw [if_neg h]; exact rn_fst l d (i + 1) (nx l s)
theorem sts_rd (l : List S47) : ∀ (d i : Nat) (s : M), i < d → rd_T26 (sts l d s) (i : Int) = toS (itr l i s)
  | 0, i, s, h => absurd h (by omega)
  | d + 1, 0, s, h => rfl
  | d + 1, i + 1, s, h => by
    have e := sts_rd l d i (nx l s) (by omega)
    unfold rd_T26 at e ⊢
    rw [show (((i + 1 : Nat) : Int)).toNat = i + 1 by omega]
    rw [show ((i : Int)).toNat = i by omega] at e
    exact e
theorem wrapN {x : Int} : 0 ≤ IntKind.u64.wrap x := by
  have : IntKind.u64.wrap x = x % 18446744073709551616 := by simp [IntKind.wrap, IntKind.bits, IntKind.signed]
  omega
theorem valid_state (l : List S47) (hn : l.length ≤ 40) (s : M) : ∃ p : Int, 0 ≤ p ∧ p ≤ (l.length : Int) ∧ attestorlaw28_valid.f l s.p0 s.p1 s.p2 s.p3 s.p4 s.p5 s.p6 s.p7 s.p8 s.p9 s.p10 s.p11 s.p12 s.p13 s.p14 s.p15 s.p16 s.p17 s.p18 s.p19 s.p20 = some (atM s p).o := by
  have e : IntKind.u64.wrap (wrap64 ((l.length : Int) + 1)) = (l.length : Int) + 1 := by
    have e1 : wrap64 ((l.length : Int) + 1) = (l.length : Int) + 1 := by unfold wrap64; omega
    rw [e1]
    have : IntKind.u64.wrap ((l.length : Int) + 1) = ((l.length : Int) + 1) % 18446744073709551616 := by simp [IntKind.wrap, IntKind.bits, IntKind.signed]
    omega
  have h0 : 0 ≤ Int.tmod (IntKind.u64.wrap s.p0) ((l.length : Int) + 1) := Int.tmod_nonneg _ wrapN
  have h1 : Int.tmod (IntKind.u64.wrap s.p0) ((l.length : Int) + 1) < (l.length : Int) + 1 := Int.tmod_lt_of_pos _ (by omega)
  refine ⟨Int.tmod (IntKind.u64.wrap s.p0) ((l.length : Int) + 1), h0, by omega, ?_⟩
  unfold attestorlaw28_valid.f
  rw [e, if_neg (by omega)]
  have e2 : wrap64 (Int.tmod (IntKind.u64.wrap s.p0) ((l.length : Int) + 1)) = Int.tmod (IntKind.u64.wrap s.p0) ((l.length : Int) + 1) := by unfold wrap64; omega
  rw [e2]
  rfl
theorem iteb {β : Type} {c : Prop} [Decidable c] {a b r : β} (h1 : c → a = r) (h2 : ¬ c → b = r) : (if c then a else b) = r := by
  by_cases h : c
  · rw [if_pos h]; exact h1 h
  · rw [if_neg h]; exact h2 h
end Go.Proofs.YtgmdpghbkjlnhaaDoor.Q
end
section
namespace Go.Proofs.YtgmdpghbkjlnhaaDoor.Q
open Go.RowKit Go.Proofs.YtgmdpghbkjlnhaaDoorW.PrintWords Go.Proofs.YtgmdpghbkjlnhaaDoorW.PrintLast Go.Proofs.YtgmdpghbkjlnhaaDoorW.PrintMore
set_option linter.unusedVariables false
set_option linter.unusedSimpArgs false
theorem Halted_f (l : List S47) (hw : ∀ i ∈ l, wfI i) (hn : l.length ≤ 40) (k : Nat) (hk : 41 ≤ k) (s : M) : machine_Halted.f k l s.p0 s.p1 s.p2 s.p3 s.p4 s.p5 s.p6 s.p7 s.p8 s.p9 s.p10 s.p11 s.p12 s.p13 s.p14 s.p15 s.p16 s.p17 s.p18 s.p19 s.p20 = some (okB l s && decide ((fet l s.p0).f0 = 0)) := by
  unfold machine_Halted.f
  refine bnd (valid_f l hw hn k hk s) ?_
  by_cases h : okB l s = true
  · rw [if_pos h, h]
    refine bnd (fetch_f l s.p0) ?_
    by_cases h0 : (fet l s.p0).f0 = 0
    · obtain ⟨a, b, c⟩ := fet_zero ((okB_iff l s).1 h).1 s.p0 h0
      simp [h0, a, b, c]
    · simp [h0]
  · rw [if_neg h]
    simp [h]
end Go.Proofs.YtgmdpghbkjlnhaaDoor.Q
end
section
set_option linter.unusedVariables false
namespace Go.Proofs.YtgmdpghbkjlnhaaDoor.Q
open Go.RowKit Go.Proofs.YtgmdpghbkjlnhaaDoorW.PrintWords Go.Proofs.YtgmdpghbkjlnhaaDoorW.PrintLast Go.Proofs.YtgmdpghbkjlnhaaDoorW.PrintMore
/-- The cells of a run at any address. -/
def CA (w : World) (ad : Addr) (n : Nat) (l : List Value) : Prop := ∀ j v, l[j]? = some v → w.cell? (ad.add (n + j)) = some v
theorem ca_nil (w : World) (ad : Addr) (n : Nat) : CA w ad n [] := fun j v h => by simp at h
theorem ca_cons {w : World} {ad : Addr} {n : Nat} {v : Value} {l : List Value} (h : w.cell? (ad.add n) = some v) (t : CA w ad (n + 1) l) : CA w ad n (v :: l) := by
  intro j u hu
  cases j with
  | zero => cases hu; exact h
  | succ j =>
    have := t j u (by simpa using hu)
    rwa [show n + 1 + j = n + (j + 1) by omega] at this
theorem ca_off {w : World} {ad : Addr} {n : Nat} {v : Value} (h : w.cell? ⟨ad.block, ad.off + n, none⟩ = some v) (hn : n ≠ 0) : w.cell? (ad.add n) = some v := by
  unfold Addr.add
  rw [if_neg (by simpa using hn)]
  exact h
theorem run_load_at {P : Program} {oi : Oper} {a : Act} {w : World} {ty : TypeId} {p : Operand} {ad : Addr} {cs : List Value} {d : TypeDesc} (ho : oi.op = .load ty p) (hx : a.eval p = .pointer (some ad)) (hu : P.underlying ty = some d) (hd : (match d with | .struct _ | .array _ _ => true | _ => false) = true) (hi : (P.info? ty).map (·.size) = some cs.length)
    (h : CA w ad 0 cs) : (execOp a.eval oi).run P w = .ok (.value (.agg cs.toArray)) w := by
  have hl : (loadCells ad cs.length).run P w = .ok cs.toArray w :=
    run_loadCells_list (P := P) w ad cs (fun j v hv => by
      have := h j v hv
      rwa [Nat.zero_add] at this)
  have hlv : (loadVar ty ad).run P w = .ok (.agg cs.toArray) w := by
    cases hq : P.info? ty with
    | none => simp [hq] at hi
    | some i =>
      have hs : i.size = cs.length := by simpa [hq] using hi
      have hagg : (isAgg ty).run P w = .ok true w := by
        unfold isAgg
        rw [Sem.run_bind, run_underlying hu w]
        cases d <;> simp_all
      simp [loadVar, Sem.run_bind, hagg, sizeOf, typeInfo, hq, hs, hl]
  unfold execOp
  simp only [ho, hx, Instr.loadAt, Instr.sureAddr, Sem.run_bind, Sem.run_pure, Result.andThen_ok, hlv]
theorem quiet_load {P : Program} {C : World → Prop} {ops : Array Oper} {o : Oper} {a : Act} {K : Act → Prop} (hw : Region.wanted o (yielded ops a.tmps) = true) {ty : TypeId} {p : Tmp} {ad : Addr} {cs : List Value} {d : TypeDesc} (ho : o.op = .load ty (.tmp p)) (hx : a.eval (.tmp p) = .pointer (some ad)) (hu : P.underlying ty = some d) (hd : (match d with | .struct _ | .array _ _ => true | _ => false) = true) (hi : (P.info? ty).map (·.size) = some cs.length)
    (h : ∀ w, C w → CA w ad 0 cs) (hK : K (a.put o.dst (.agg cs.toArray))) : if Region.wanted o (yielded ops a.tmps) = true then o.quiet P a C K else K (a.put o.dst undef) := by
  rw [if_pos hw]
  refine ⟨.agg cs.toArray, fun w hc => ?_, hK⟩
  unfold Oper.quietAt
  rw [run_load_at ho hx hu hd hi (h w hc)]
  exact ⟨rfl, rfl⟩
end Go.Proofs.YtgmdpghbkjlnhaaDoor.Q
end
