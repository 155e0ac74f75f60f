/- Several texts in one, in build order. What they prove, each by its own first remark:
Written by our own copy of a printing program (a twelfth state) out of the translation. Not trusted: Lean checks it.
tree.height by hand (with math/bits.TrailingZeros of a power of two): what it computes, and its contract.
A range over a function whose iterator hands out rows that lie in memory: the law of the loop, for a loop whose body only goes on (own statement and proof, over the kit's laws of one round).
tree.rising's closure by hand: an iterator that hands out the levels of a tree, each a row of its own making.
tree.Build by hand (a range over the function that tree.rising hands back): what it computes, and its contract. -/
import Derived.Test.YtpnpmeogffodgaaDoorM2
import Derived.Test.YtpnpmeogffodgaaDoorM3
import Derived.RangeFuncWrites
import Derived.RangeFuncCalls
import Derived.RangeFuncLeaves
import Derived.Shelf.Abstract
import Derived.OwnWalkIn
import Derived.TacticsInMore
import Derived.LoopNIn
import Derived.LoopIn
section
namespace Go.Proofs.YtpnpmeogffodgaaDoor.Q
open Go.RowKit Go.Proofs.YtpnpmeogffodgaaDoorW.PrintWords Go.Proofs.YtpnpmeogffodgaaDoorW.PrintLast Go.Proofs.YtpnpmeogffodgaaDoorW.PrintMore
attribute [local go_sem] max2_int min2_int max_two min_two max_three min_three max_four min_four run_store_fnV run_store_fnc run_store_nfn   -- for this text's walks alone
set_option linter.unusedVariables false
set_option linter.unusedSimpArgs false

/-! ### tree_Cap: function 19 -/
def tree_Cap.f (k : Nat) (ad : Int) (ae : Int) (af : Int) (aa : List (List (S36))) : Option ((List (S36))) := (tree_Valid.f k ad ae af aa).bind fun ar => (if ar = true then (if 0 ≤ (wrap64 ((aa.length : Int) - 1)) then (if (wrap64 ((aa.length : Int) - 1)) < (aa.length : Int) then ((slices_Clone.f (rd_L3 aa (wrap64 ((aa.length : Int) - 1)))).bind fun am => (some am)) else (none)) else (none)) else (some ([] : List (S36))))
theorem tree_Cap.mono : ∀ a0 a1 a2 a3 k, LeO (tree_Cap.f k a0 a1 a2 a3) (tree_Cap.f (k + 1) a0 a1 a2 a3) := by
  intro a0 a1 a2 a3 k
  unfold tree_Cap.f
  repeat' first
      | (with_reducible exact tree_Valid.mono _ _ _ _ _)
      | (with_reducible exact LeO.refl _)
      | (with_reducible exact LeO.none _)
      | (with_reducible refine LeO.ite ?_ ?_)
      | (with_reducible refine LeO.bind ?_ (fun _ => ?_))
      | exact tree_Valid.mono _ _ _ _ _
      | exact LeO.none _
      | refine LeO.ite ?_ ?_
      | refine LeO.bind ?_ (fun _ => ?_)
set_option maxHeartbeats 8000000 in
set_option maxRecDepth 100000 in
theorem tree_Cap.calls (k : Nat) (ad : Int) (ae : Int) (af : Int) (ah : Option Addr) (ag : Nat) (aa : List (List (S36))) (r : List (S36)) (w : World) (aA : Kd.C (Kd.slice 36 k36) w ah aa.length aa) (aB : aa.length ≤ ag) (hrG : GL w) (h : tree_Cap.f k ad ae af aa = some r) :
  Calls Tryd.prog 19 #[.agg #[.int .i64 ad, .int .i64 ae, .int .i64 af, .slice ah aa.length ag]] w fun e w' => ∃ aL : Value, e = .returned (aL) ∧ Kd.R k36 36 w' w.heap.size (fun _ => True) aL r ∧ Below w.heap.size w w' := by
 have hu26 := Tryd.underlying26
 have HRG := aj hrG
 clear hrG
 have aw := aj aA
 have aC := aj aB
 clear aA aB
 have HB := aj (Below.refl w.heap.size w)
 have H : ((tree_Valid.f k ad ae af aa).bind fun ar => (if ar = true then (if 0 ≤ (wrap64 ((aa.length : Int) - 1)) then (if (wrap64 ((aa.length : Int) - 1)) < (aa.length : Int) then ((slices_Clone.f (rd_L3 aa (wrap64 ((aa.length : Int) - 1)))).bind fun am => (some am)) else (none)) else (none)) else (some ([] : List (S36))))) = some r := h
 clear h
 replace H := Option.bind_eq_some_iff.mp H
 obtain ⟨ar, aM, H⟩ := H
 have A2 := aj aM
 clear aM
 by_cases c3 : ar = true
 ·subst c3
  have H1 : (if 0 ≤ (wrap64 ((aa.length : Int) - 1)) then (if (wrap64 ((aa.length : Int) - 1)) < (aa.length : Int) then ((slices_Clone.f (rd_L3 aa (wrap64 ((aa.length : Int) - 1)))).bind fun am => (some am)) else (none)) else (none)) = some r := by rw [if_pos rfl] at H; exact H
  clear H
  have H := H1
  clear H1
  obtain ⟨al, ap⟩ : ∃ j_ : Int, (wrap64 ((aa.length : Int) - 1)) = j_ := ⟨_, rfl⟩
  replace H : (if 0 ≤ (al) then (if (al) < (aa.length : Int) then ((slices_Clone.f (rd_L3 aa (al))).bind fun am => (some am)) else (none)) else (none)) = some r := by first | (rw [ap] at H; exact H) | (simp only [ap] at H ⊢; exact H)
  (try rw [ap] at A2)
  have hji4w : (IntKind.i64.wrap ((aa.length : Int) - 1)) = al := (i64_w _).trans ap
  by_cases c5 : 0 ≤ (al)
  ·rw [if_pos c5] at H
   have c5b0 : decide (0 ≤ (al)) = true := decide_eq_true c5
   clear c5
   by_cases c6 : (al) < (aa.length : Int)
   ·rw [if_pos c6] at H
    have c6b0 : decide ((al) < (aa.length : Int)) = true := decide_eq_true c6
    clear c6
    replace H := Option.bind_eq_some_iff.mp H
    obtain ⟨am, aN, H⟩ := H
    have A7 := aj aN
    clear aN
    obtain rfl := Option.some.inj H
    go_enter Tryd.func19, Tryd.ntmps19
    go_wp2_with (first | ((with_reducible refine gate_dst (N := 1) rfl ?_); refine box_event ?hg (N := 1) ?hd (cs := #[.int .i64 ad, .int .i64 ae, .int .i64 af, .slice ah aa.length ag]) (t := 26) ?hr ?_; (case hd => rfl); (case hg => rfl); (case hr => first | (go_simp; done) | (go_simp; rfl)); intro ac hg w8 hbox hb; have ai := aj (below_step HB.out hb); have ak := aj (hbox); have ax := aj ((by rw [hg]; exact (below_size HB.out) : w.heap.size ≤ ac)); clear HB; have HB := ai; have ab := ak; have ao := ax; clear ai ak ax; clear hb hbox hg; have ba : w8.cell? ⟨ac, 0, none⟩ = some (.int .i64 ad) := bq_ ab 0; have bb : w8.cell? ⟨ac, 1, none⟩ = some (.int .i64 ae) := bq_ ab 1; have bc : w8.cell? ⟨ac, 2, none⟩ = some (.int .i64 af) := bq_ ab 2; have bd : w8.cell? ⟨ac, 3, none⟩ = some (.slice ah aa.length ag) := bq_ ab 3; have be := blk_frozen ab.out 0; have bf := blk_frozen ab.out 1; have bg := blk_frozen ab.out 2; have bh := blk_frozen ab.out 3) | ((with_reducible refine gate_callee (f := 16) rfl ?_); refine goesL_ (some 4) rfl rfl Tryd.func16 (by kernel_rfl) rfl #[.agg #[.int .i64 ad, .int .i64 ae, .int .i64 af, .slice ah aa.length ag]] rfl (by (try simp only [List.map_toArray, List.map_cons, List.map_nil]); first | done | rfl | (go_simp; done)) ?_; (with_reducible refine (tree_Valid.calls k ad ae af _ _ aa true _ ?side1 ?side2 ?side3 A2.out).mono ?_); (case side1 => exact (Kd.C_below aw.out HB.out)); (case side2 => exact aC.out); (case side3 => repeat (first | exact (GL.below HRG.out HB.out) | (with_reducible refine GL.alloc ?_ _) | (with_reducible refine GL.drewN ?_ _) | (with_reducible refine GL.drew ?_))); rintro e aD ⟨rfl, hb⟩; refine ⟨_, rfl, ?_⟩; have ai := aj (blk_below ab.out hb); have ak := aj (below_step HB.out hb); clear ab; clear HB; have ab := ai; have HB := ak; clear ai ak; (try clear hb); (try clear hb2); (try clear hk); (try clear hi); have aQ : aD.cell? ⟨ac, 0, none⟩ = some (.int .i64 ad) := bq_ ab 0; have aR : aD.cell? ⟨ac, 1, none⟩ = some (.int .i64 ae) := bq_ ab 1; have aS : aD.cell? ⟨ac, 2, none⟩ = some (.int .i64 af) := bq_ ab 2; have aT : aD.cell? ⟨ac, 3, none⟩ = some (.slice ah aa.length ag) := bq_ ab 3; have aU := blk_frozen ab.out 0; have aV := blk_frozen ab.out 1; have aW := blk_frozen ab.out 2; have aX := blk_frozen ab.out 3; have ay : 0 ≤ ((al) : Int) := of_decide_eq_true (by assumption); have az : (al) < (aa.length : Int) := of_decide_eq_true (by assumption); obtain ⟨aJ, aH, aI, aP, aq, au, av⟩ := at_L3 aw.out (al) ay az; cases aP; replace aq := (HB.out.cell (World.block_lt_of_cell? w _ aq)).trans aq; have aF := aj av; have aG := aj au; clear av au; replace ay := eq_true ay; replace az := eq_true az) | ((with_reducible refine gate_callee (f := 45) rfl ?_); refine goesL_ (some 14) rfl rfl Tryd.func45 (by kernel_rfl) rfl #[.slice aH (rd_L3 aa (al)).length aI] rfl (by (try simp only [List.map_toArray, List.map_cons, List.map_nil]); first | done | (simp only [ap]; rfl) | rfl | (simp only [List.length_drop, List.length_take]; rfl) | (go_simp; done) | (go_simp; rw [Int.tmod_eq_emod_of_nonneg (by omega)]; omega)) ?_; (with_reducible refine (slices_Clone.calls _ _ (rd_L3 aa (al)) am _ ?side1 ?side2 A7.out).mono ?_); (case side1 => exact (Kd.C_below aF.out HB.out)); (case side2 => exact aG.out); rintro e bj ⟨bi, rfl, ho0, hb⟩; refine ⟨_, rfl, ?_⟩; have ai := aj (Kd.R_lower ho0 (below_size HB.out)); have ak := aj (blk_below ab.out hb); have aO := aj (below_step HB.out hb); clear ab; clear HB; have aK := ai; have ab := ak; have HB := aO; clear ai ak aO; (try clear hb); (try clear hb2); (try clear hk); (try clear hi); (try clear ho0)))
    go_ret
    exact ⟨_, by first | rfl | (simp [errW_none, errW_some] <;> rfl) | (simp only [← ap]; first | rfl | (simp [errW_none, errW_some] <;> rfl)) | (simp [*, errW_none, errW_some] <;> rfl), by (with_reducible repeat (first | apply Kd.R_alloc | apply Kd.R_drewN | apply Kd.R_drew)); exact aK.out, HB.out⟩
   ·rw [if_neg c6] at H
    exact absurd H (by simp)
  ·rw [if_neg c5] at H
   exact absurd H (by simp)
 ·replace c3 := Bool.eq_false_iff.mpr c3
  subst c3
  have H1 : (some ([] : List (S36))) = some r := by rw [if_neg (show ¬ (false = true) by decide)] at H; exact H
  clear H
  have H := H1
  clear H1
  obtain rfl := Option.some.inj H
  go_enter Tryd.func19, Tryd.ntmps19
  go_wp2_with (first | ((with_reducible refine gate_dst (N := 1) rfl ?_); refine box_event ?hg (N := 1) ?hd (cs := #[.int .i64 ad, .int .i64 ae, .int .i64 af, .slice ah aa.length ag]) (t := 26) ?hr ?_; (case hd => rfl); (case hg => rfl); (case hr => first | (go_simp; done) | (go_simp; rfl)); intro ac hg aE hbox hb; have ai := aj (below_step HB.out hb); have ak := aj (hbox); have ax := aj ((by rw [hg]; exact (below_size HB.out) : w.heap.size ≤ ac)); clear HB; have HB := ai; have ab := ak; have ao := ax; clear ai ak ax; clear hb hbox hg; have aY : aE.cell? ⟨ac, 0, none⟩ = some (.int .i64 ad) := bq_ ab 0; have aZ : aE.cell? ⟨ac, 1, none⟩ = some (.int .i64 ae) := bq_ ab 1; have a4 : aE.cell? ⟨ac, 2, none⟩ = some (.int .i64 af) := bq_ ab 2; have a5 : aE.cell? ⟨ac, 3, none⟩ = some (.slice ah aa.length ag) := bq_ ab 3; have a6 := blk_frozen ab.out 0; have a7 := blk_frozen ab.out 1; have a8 := blk_frozen ab.out 2; have a9 := blk_frozen ab.out 3) | ((with_reducible refine gate_callee (f := 16) rfl ?_); refine goesL_ (some 4) rfl rfl Tryd.func16 (by kernel_rfl) rfl #[.agg #[.int .i64 ad, .int .i64 ae, .int .i64 af, .slice ah aa.length ag]] rfl (by (try simp only [List.map_toArray, List.map_cons, List.map_nil]); first | done | rfl | (go_simp; done)) ?_; (with_reducible refine (tree_Valid.calls k ad ae af _ _ aa false _ ?side1 ?side2 ?side3 A2.out).mono ?_); (case side1 => exact (Kd.C_below aw.out HB.out)); (case side2 => exact aC.out); (case side3 => repeat (first | exact (GL.below HRG.out HB.out) | (with_reducible refine GL.alloc ?_ _) | (with_reducible refine GL.drewN ?_ _) | (with_reducible refine GL.drew ?_))); rintro e bk ⟨rfl, hb⟩; refine ⟨_, rfl, ?_⟩; have ai := aj (blk_below ab.out hb); have ak := aj (below_step HB.out hb); clear ab; clear HB; have ab := ai; have HB := ak; clear ai ak; (try clear hb); (try clear hb2); (try clear hk); (try clear hi)))
  go_ret
  exact ⟨_, by first | rfl | (simp [errW_none, errW_some] <;> rfl) | (simp [*, errW_none, errW_some] <;> rfl), by first | exact Kd.R_nil _ _ _ _ _ | exact Kd.N_nil _ _ _ _ _ | exact Kd.V_nil _ _ _ _ _ | exact Kd.Q_nil _ _ _ _ _ | exact Kd.S_nil _ _ _ _ _, HB.out⟩

end Go.Proofs.YtpnpmeogffodgaaDoor.Q
end
section
namespace Go.Proofs.YtpnpmeogffodgaaDoor.Q
open Go.RowKit Go.Proofs.YtpnpmeogffodgaaDoorW.PrintWords Go.Proofs.YtpnpmeogffodgaaDoorW.PrintLast Go.Proofs.YtpnpmeogffodgaaDoorW.PrintMore
attribute [local go_sem] max2_int min2_int max_two min_two max_three min_three max_four min_four run_store_fnV run_store_fnc run_store_nfn   -- for this text's walks alone
set_option linter.unusedVariables false
set_option linter.unusedSimpArgs false

/-! ### tree_place: function 46 -/
def tree_place.f (k : Nat) (ad : Int) (ae : Int) (af : Int) (ab : List (List (S36))) (a1 : Int) : Option (Int) := (tree_Valid.f k ad ae af ab).bind fun av => (if av = true then (if a1 < 0 then (some 2) else (if 0 < (ab.length : Int) then (if a1 ≥ ((rd_L3 ab 0).length : Int) then (some 2) else (some 0)) else (none))) else (some 1))
theorem tree_place.mono : ∀ a0 a1 a2 a3 a4 k, LeO (tree_place.f k a0 a1 a2 a3 a4) (tree_place.f (k + 1) a0 a1 a2 a3 a4) := by
  intro a0 a1 a2 a3 a4 k
  unfold tree_place.f
  repeat' first
      | (with_reducible exact tree_Valid.mono _ _ _ _ _)
      | (with_reducible exact LeO.refl _)
      | (with_reducible exact LeO.none _)
      | (with_reducible refine LeO.ite ?_ ?_)
      | (with_reducible refine LeO.bind ?_ (fun _ => ?_))
      | exact tree_Valid.mono _ _ _ _ _
      | exact LeO.none _
      | refine LeO.ite ?_ ?_
      | refine LeO.bind ?_ (fun _ => ?_)
set_option maxHeartbeats 8000000 in
set_option maxRecDepth 100000 in
theorem tree_place.calls (k : Nat) (ad : Int) (ae : Int) (af : Int) (ak : Option Addr) (al : Nat) (ab : List (List (S36))) (a1 : Int) (r : Int) (w : World) (ax : Kd.C (Kd.slice 36 k36) w ak ab.length ab) (ay : ab.length ≤ al) (hrG : GL w) (h : tree_place.f k ad ae af ab a1 = some r) :
  Calls Tryd.prog 46 #[.agg #[.int .i64 ad, .int .i64 ae, .int .i64 af, .slice ak ab.length al], .int .i64 a1] w fun e w' => e = .returned (.int .i64 r) ∧ Below w.heap.size w w' := by
 have hu26 := Tryd.underlying26
 have HRG := aj hrG
 clear hrG
 have ap := aj ax
 have au := aj ay
 clear ax ay
 have HB := aj (Below.refl w.heap.size w)
 have H : ((tree_Valid.f k ad ae af ab).bind fun av => (if av = true then (if a1 < 0 then (some 2) else (if 0 < (ab.length : Int) then (if a1 ≥ ((rd_L3 ab 0).length : Int) then (some 2) else (some 0)) else (none))) else (some 1))) = some r := h
 clear h
 replace H := Option.bind_eq_some_iff.mp H
 obtain ⟨av, aJ, H⟩ := H
 have A3 := aj aJ
 clear aJ
 by_cases c4 : av = true
 ·subst c4
  have H1 : (if a1 < 0 then (some 2) else (if 0 < (ab.length : Int) then (if a1 ≥ ((rd_L3 ab 0).length : Int) then (some 2) else (some 0)) else (none))) = some r := by rw [if_pos rfl] at H; exact H
  clear H
  have H := H1
  clear H1
  by_cases c5 : a1 < 0
  ·rw [if_pos c5] at H
   have c5b0 : decide (a1 < 0) = true := decide_eq_true c5
   clear c5
   obtain rfl := Option.some.inj H
   go_enter Tryd.func46, Tryd.ntmps46
   go_wp2_with (first | ((with_reducible refine gate_dst (N := 2) rfl ?_); (try (refine gate_guard (by rfl) ?_; dsimp only)); refine box_event ?hg (N := 2) ?hd (cs := #[.int .i64 ad, .int .i64 ae, .int .i64 af, .slice ak ab.length al]) (t := 26) ?hr ?_; (case hd => rfl); (case hg => rfl); (case hr => first | (go_simp; done) | (go_simp; rfl)); intro ac hg w6 hbox hb; have ah := aj (below_step HB.out hb); have ai := aj (hbox); clear HB; have HB := ah; have aa := ai; clear ah ai; clear hb hbox hg; have bu : w6.cell? ⟨ac, 0, none⟩ = some (.int .i64 ad) := bq_ aa 0; have bv : w6.cell? ⟨ac, 1, none⟩ = some (.int .i64 ae) := bq_ aa 1; have bw : w6.cell? ⟨ac, 2, none⟩ = some (.int .i64 af) := bq_ aa 2; have bx : w6.cell? ⟨ac, 3, none⟩ = some (.slice ak ab.length al) := bq_ aa 3; have bz := blk_frozen aa.out 0; have bA := blk_frozen aa.out 1; have bB := blk_frozen aa.out 2; have bC := blk_frozen aa.out 3) | ((with_reducible refine gate_callee (f := 16) rfl ?_); refine goesL_ (some 7) rfl rfl Tryd.func16 (by kernel_rfl) rfl #[.agg #[.int .i64 ad, .int .i64 ae, .int .i64 af, .slice ak ab.length al]] rfl (by (try simp only [List.map_toArray, List.map_cons, List.map_nil]); first | done | rfl | (go_simp; done)) ?_; (with_reducible refine (tree_Valid.calls k ad ae af _ _ ab true _ ?side1 ?side2 ?side3 A3.out).mono ?_); (case side1 => exact (Kd.C_below ap.out HB.out)); (case side2 => exact au.out); (case side3 => repeat (first | exact (GL.below HRG.out HB.out) | (with_reducible refine GL.alloc ?_ _) | (with_reducible refine GL.drewN ?_ _) | (with_reducible refine GL.drew ?_))); rintro e w8 ⟨rfl, hb⟩; refine ⟨_, rfl, ?_⟩; have ah := aj (blk_below aa.out hb); have ai := aj (below_step HB.out hb); clear aa; clear HB; have aa := ah; have HB := ai; clear ah ai; (try clear hb); (try clear hb2); (try clear hk); (try clear hi)))
   go_ret
   exact ⟨by first | rfl | (simp [errW_none, errW_some] <;> rfl) | (simp [*, errW_none, errW_some] <;> rfl), HB.out⟩
  ·rw [if_neg c5] at H
   have c5b0 : decide (a1 < 0) = false := decide_eq_false c5
   clear c5
   by_cases c9 : 0 < (ab.length : Int)
   ·rw [if_pos c9] at H
    have c9b0 : decide (0 < (ab.length : Int)) = true := decide_eq_true c9
    have c9b1 : decide (0 < ab.length) = true := decide_eq_true (by omega)
    clear c9
    by_cases c10 : a1 ≥ ((rd_L3 ab 0).length : Int)
    ·rw [if_pos c10] at H
     have c10b0 : decide (((rd_L3 ab 0).length : Int) ≤ a1) = true := decide_eq_true c10
     clear c10
     obtain rfl := Option.some.inj H
     go_enter Tryd.func46, Tryd.ntmps46
     go_wp2_with (first | ((with_reducible refine gate_dst (N := 2) rfl ?_); (try (refine gate_guard (by rfl) ?_; dsimp only)); refine box_event ?hg (N := 2) ?hd (cs := #[.int .i64 ad, .int .i64 ae, .int .i64 af, .slice ak ab.length al]) (t := 26) ?hr ?_; (case hd => rfl); (case hg => rfl); (case hr => first | (go_simp; done) | (go_simp; rfl)); intro ac hg az hbox hb; have ah := aj (below_step HB.out hb); have ai := aj (hbox); clear HB; have HB := ah; have aa := ai; clear ah ai; clear hb hbox hg; have aK : az.cell? ⟨ac, 0, none⟩ = some (.int .i64 ad) := bq_ aa 0; have aL : az.cell? ⟨ac, 1, none⟩ = some (.int .i64 ae) := bq_ aa 1; have aM : az.cell? ⟨ac, 2, none⟩ = some (.int .i64 af) := bq_ aa 2; have aN : az.cell? ⟨ac, 3, none⟩ = some (.slice ak ab.length al) := bq_ aa 3; have aO := blk_frozen aa.out 0; have aP := blk_frozen aa.out 1; have aQ := blk_frozen aa.out 2; have aR := blk_frozen aa.out 3) | ((with_reducible refine gate_callee (f := 16) rfl ?_); refine goesL_ (some 7) rfl rfl Tryd.func16 (by kernel_rfl) rfl #[.agg #[.int .i64 ad, .int .i64 ae, .int .i64 af, .slice ak ab.length al]] rfl (by (try simp only [List.map_toArray, List.map_cons, List.map_nil]); first | done | rfl | (go_simp; done)) ?_; (with_reducible refine (tree_Valid.calls k ad ae af _ _ ab true _ ?side1 ?side2 ?side3 A3.out).mono ?_); (case side1 => exact (Kd.C_below ap.out HB.out)); (case side2 => exact au.out); (case side3 => repeat (first | exact (GL.below HRG.out HB.out) | (with_reducible refine GL.alloc ?_ _) | (with_reducible refine GL.drewN ?_ _) | (with_reducible refine GL.drew ?_))); rintro e aA ⟨rfl, hb⟩; refine ⟨_, rfl, ?_⟩; have ah := aj (blk_below aa.out hb); have ai := aj (below_step HB.out hb); clear aa; clear HB; have aa := ah; have HB := ai; clear ah ai; (try clear hb); (try clear hb2); (try clear hk); (try clear hi); have aS : aA.cell? ⟨ac, 0, none⟩ = some (.int .i64 ad) := bq_ aa 0; have aT : aA.cell? ⟨ac, 1, none⟩ = some (.int .i64 ae) := bq_ aa 1; have aU : aA.cell? ⟨ac, 2, none⟩ = some (.int .i64 af) := bq_ aa 2; have aV : aA.cell? ⟨ac, 3, none⟩ = some (.slice ak ab.length al) := bq_ aa 3; have aW := blk_frozen aa.out 0; have aX := blk_frozen aa.out 1; have aY := blk_frozen aa.out 2; have aZ := blk_frozen aa.out 3; have aq : 0 ≤ (0 : Int) := (by omega); have ar : 0 < (ab.length : Int) := of_decide_eq_true (by assumption); obtain ⟨aI, aG, aH, aw, ag, am, ao⟩ := at_L3 ap.out 0 aq ar; cases aw; have qi165 : (0 < ab.length) = True := eq_true (by omega); (try rw [show ((0 : Int)).toNat = 0 from rfl] at ag); (try rw [Addr.add_zero'] at ag); replace ag := (HB.out.cell (World.block_lt_of_cell? w _ ag)).trans ag; have aE := aj ao; have aF := aj am; clear ao am; replace aq := eq_true aq; replace ar := eq_true ar))
     go_ret
     exact ⟨by first | rfl | (simp [errW_none, errW_some] <;> rfl) | (simp [*, errW_none, errW_some] <;> rfl), HB.out⟩
    ·rw [if_neg c10] at H
     have c10b0 : decide (((rd_L3 ab 0).length : Int) ≤ a1) = false := decide_eq_false c10
     clear c10
     obtain rfl := Option.some.inj H
     go_enter Tryd.func46, Tryd.ntmps46
     go_wp2_with (first | ((with_reducible refine gate_dst (N := 2) rfl ?_); (try (refine gate_guard (by rfl) ?_; dsimp only)); refine box_event ?hg (N := 2) ?hd (cs := #[.int .i64 ad, .int .i64 ae, .int .i64 af, .slice ak ab.length al]) (t := 26) ?hr ?_; (case hd => rfl); (case hg => rfl); (case hr => first | (go_simp; done) | (go_simp; rfl)); intro ac hg aB hbox hb; have ah := aj (below_step HB.out hb); have ai := aj (hbox); clear HB; have HB := ah; have aa := ai; clear ah ai; clear hb hbox hg; have a5 : aB.cell? ⟨ac, 0, none⟩ = some (.int .i64 ad) := bq_ aa 0; have a6 : aB.cell? ⟨ac, 1, none⟩ = some (.int .i64 ae) := bq_ aa 1; have a7 : aB.cell? ⟨ac, 2, none⟩ = some (.int .i64 af) := bq_ aa 2; have a8 : aB.cell? ⟨ac, 3, none⟩ = some (.slice ak ab.length al) := bq_ aa 3; have a9 := blk_frozen aa.out 0; have ba := blk_frozen aa.out 1; have bb := blk_frozen aa.out 2; have bc := blk_frozen aa.out 3) | ((with_reducible refine gate_callee (f := 16) rfl ?_); refine goesL_ (some 7) rfl rfl Tryd.func16 (by kernel_rfl) rfl #[.agg #[.int .i64 ad, .int .i64 ae, .int .i64 af, .slice ak ab.length al]] rfl (by (try simp only [List.map_toArray, List.map_cons, List.map_nil]); first | done | rfl | (go_simp; done)) ?_; (with_reducible refine (tree_Valid.calls k ad ae af _ _ ab true _ ?side1 ?side2 ?side3 A3.out).mono ?_); (case side1 => exact (Kd.C_below ap.out HB.out)); (case side2 => exact au.out); (case side3 => repeat (first | exact (GL.below HRG.out HB.out) | (with_reducible refine GL.alloc ?_ _) | (with_reducible refine GL.drewN ?_ _) | (with_reducible refine GL.drew ?_))); rintro e aC ⟨rfl, hb⟩; refine ⟨_, rfl, ?_⟩; have ah := aj (blk_below aa.out hb); have ai := aj (below_step HB.out hb); clear aa; clear HB; have aa := ah; have HB := ai; clear ah ai; (try clear hb); (try clear hb2); (try clear hk); (try clear hi); have bd : aC.cell? ⟨ac, 0, none⟩ = some (.int .i64 ad) := bq_ aa 0; have be : aC.cell? ⟨ac, 1, none⟩ = some (.int .i64 ae) := bq_ aa 1; have bf : aC.cell? ⟨ac, 2, none⟩ = some (.int .i64 af) := bq_ aa 2; have bg : aC.cell? ⟨ac, 3, none⟩ = some (.slice ak ab.length al) := bq_ aa 3; have bh := blk_frozen aa.out 0; have bi := blk_frozen aa.out 1; have bj := blk_frozen aa.out 2; have bk := blk_frozen aa.out 3; have aq : 0 ≤ (0 : Int) := (by omega); have ar : 0 < (ab.length : Int) := of_decide_eq_true (by assumption); obtain ⟨aI, aG, aH, aw, ag, am, ao⟩ := at_L3 ap.out 0 aq ar; cases aw; have qi165 : (0 < ab.length) = True := eq_true (by omega); (try rw [show ((0 : Int)).toNat = 0 from rfl] at ag); (try rw [Addr.add_zero'] at ag); replace ag := (HB.out.cell (World.block_lt_of_cell? w _ ag)).trans ag; have aE := aj ao; have aF := aj am; clear ao am; replace aq := eq_true aq; replace ar := eq_true ar))
     go_ret
     exact ⟨by first | rfl | (simp [errW_none, errW_some] <;> rfl) | (simp [*, errW_none, errW_some] <;> rfl), HB.out⟩
   ·rw [if_neg c9] at H
    exact absurd H (by simp)
 ·replace c4 := Bool.eq_false_iff.mpr c4
  subst c4
  have H1 : (some 1) = some r := by rw [if_neg (show ¬ (false = true) by decide)] at H; exact H
  clear H
  have H := H1
  clear H1
  obtain rfl := Option.some.inj H
  go_enter Tryd.func46, Tryd.ntmps46
  go_wp2_with (first | ((with_reducible refine gate_dst (N := 2) rfl ?_); (try (refine gate_guard (by rfl) ?_; dsimp only)); refine box_event ?hg (N := 2) ?hd (cs := #[.int .i64 ad, .int .i64 ae, .int .i64 af, .slice ak ab.length al]) (t := 26) ?hr ?_; (case hd => rfl); (case hg => rfl); (case hr => first | (go_simp; done) | (go_simp; rfl)); intro ac hg aD hbox hb; have ah := aj (below_step HB.out hb); have ai := aj (hbox); clear HB; have HB := ah; have aa := ai; clear ah ai; clear hb hbox hg; have bl : aD.cell? ⟨ac, 0, none⟩ = some (.int .i64 ad) := bq_ aa 0; have bm : aD.cell? ⟨ac, 1, none⟩ = some (.int .i64 ae) := bq_ aa 1; have bn : aD.cell? ⟨ac, 2, none⟩ = some (.int .i64 af) := bq_ aa 2; have bo : aD.cell? ⟨ac, 3, none⟩ = some (.slice ak ab.length al) := bq_ aa 3; have bp := blk_frozen aa.out 0; have bq := blk_frozen aa.out 1; have br := blk_frozen aa.out 2; have bs := blk_frozen aa.out 3) | ((with_reducible refine gate_callee (f := 16) rfl ?_); refine goesL_ (some 7) rfl rfl Tryd.func16 (by kernel_rfl) rfl #[.agg #[.int .i64 ad, .int .i64 ae, .int .i64 af, .slice ak ab.length al]] rfl (by (try simp only [List.map_toArray, List.map_cons, List.map_nil]); first | done | rfl | (go_simp; done)) ?_; (with_reducible refine (tree_Valid.calls k ad ae af _ _ ab false _ ?side1 ?side2 ?side3 A3.out).mono ?_); (case side1 => exact (Kd.C_below ap.out HB.out)); (case side2 => exact au.out); (case side3 => repeat (first | exact (GL.below HRG.out HB.out) | (with_reducible refine GL.alloc ?_ _) | (with_reducible refine GL.drewN ?_ _) | (with_reducible refine GL.drew ?_))); rintro e bD ⟨rfl, hb⟩; refine ⟨_, rfl, ?_⟩; have ah := aj (blk_below aa.out hb); have ai := aj (below_step HB.out hb); clear aa; clear HB; have aa := ah; have HB := ai; clear ah ai; (try clear hb); (try clear hb2); (try clear hk); (try clear hi)))
  go_ret
  exact ⟨by first | rfl | (simp [errW_none, errW_some] <;> rfl) | (simp [*, errW_none, errW_some] <;> rfl), HB.out⟩

end Go.Proofs.YtpnpmeogffodgaaDoor.Q
end
section
namespace Go.Proofs.YtpnpmeogffodgaaDoor.Q
open Go.RowKit Go.Proofs.YtpnpmeogffodgaaDoorW.PrintWords Go.Proofs.YtpnpmeogffodgaaDoorW.PrintLast Go.Proofs.YtpnpmeogffodgaaDoorW.PrintMore
attribute [local go_sem] max2_int min2_int max_two min_two max_three min_three max_four min_four run_store_fnV run_store_fnc run_store_nfn   -- for this text's walks alone
set_option linter.unusedVariables false
set_option linter.unusedSimpArgs false

/-! ### tree_Path: function 23 -/
def tree_Path.l0 : Nat → Int → List (S36) → List (List (S36)) → Int → Int → Option ((List (S36)) × Int)
  | 0, _, _, _, _, _ => none
  | k + 1, x1, x7, aN, bo, az => if az < bo then (if 0 ≤ az then (if az < (aN.length : Int) then (if 0 ≤ (Go.bits .xor .i64 x1 1) then (if (Go.bits .xor .i64 x1 1) < ((rd_L3 aN az).length : Int) then (if x7.length < 8796093022208 then (tree_Path.l0 k (x1 / 2) (x7 ++ [(⟨(rd_T36 (rd_L3 aN az) (Go.bits .xor .i64 x1 1)).f0, (rd_T36 (rd_L3 aN az) (Go.bits .xor .i64 x1 1)).f1⟩ : S36)]) aN bo (wrap64 (az + 1))) else (none)) else (none)) else (none)) else (none)) else (none)) else (some (x7, 0))
def tree_Path.f (k : Nat) (ag : Int) (ah : Int) (ai : Int) (aa : List (List (S36))) (a1 : Int) : Option ((List (S36)) × Int) := (tree_place.f k ag ah ai aa a1).bind fun am => (if am = 0 then (if 0 ≤ (wrap64 ((aa.length : Int) - 1)) then (if (wrap64 ((aa.length : Int) - 1)) ≤ (aa.length : Int) then ((some (aa.take ((wrap64 ((aa.length : Int) - 1)) : Int).toNat : List (List (S36)))).bind fun ac => (tree_Path.l0 k a1 ([] : List (S36)) ac (ac.length : Int) 0)) else (none)) else (none)) else (some (([] : List (S36)), am)))
theorem tree_Path.mono_l : ∀ k, (∀ y0 y1 y2 y3 y4, LeO (tree_Path.l0 k y0 y1 y2 y3 y4) (tree_Path.l0 (k + 1) y0 y1 y2 y3 y4))
  | 0 => fun _ _ _ _ _ r h => by simp [tree_Path.l0] at h
  | k + 1 => by
    have ih0 := tree_Path.mono_l k
    · intro y0 y1 y2 y3 y4
      unfold tree_Path.l0
      repeat' first
      | (with_reducible exact ih0 _ _ _ _ _)
      | (with_reducible exact tree_place.mono _ _ _ _ _ _)
      | (with_reducible exact LeO.refl _)
      | (with_reducible exact LeO.none _)
      | (with_reducible refine LeO.ite ?_ ?_)
      | (with_reducible refine LeO.bind ?_ (fun _ => ?_))
      | exact ih0 _ _ _ _ _
      | exact tree_place.mono _ _ _ _ _ _
      | exact LeO.none _
      | refine LeO.ite ?_ ?_
      | refine LeO.bind ?_ (fun _ => ?_)
theorem tree_Path.mono : ∀ a0 a1 a2 a3 a4 k, LeO (tree_Path.f k a0 a1 a2 a3 a4) (tree_Path.f (k + 1) a0 a1 a2 a3 a4) := by
  intro a0 a1 a2 a3 a4 k
  have ih0 := tree_Path.mono_l k
  unfold tree_Path.f
  repeat' first
      | (with_reducible exact ih0 _ _ _ _ _)
      | (with_reducible exact tree_place.mono _ _ _ _ _ _)
      | (with_reducible exact LeO.refl _)
      | (with_reducible exact LeO.none _)
      | (with_reducible refine LeO.ite ?_ ?_)
      | (with_reducible refine LeO.bind ?_ (fun _ => ?_))
      | exact ih0 _ _ _ _ _
      | exact tree_place.mono _ _ _ _ _ _
      | exact LeO.none _
      | refine LeO.ite ?_ ?_
      | refine LeO.bind ?_ (fun _ => ?_)
set_option maxHeartbeats 8000000 in
set_option maxRecDepth 100000 in
theorem tree_Path.calls (k : Nat) (ag : Int) (ah : Int) (ai : Int) (al : Option Addr) (ak : Nat) (aa : List (List (S36))) (a1 : Int) (r1 : List (S36)) (r2 : Int) (w : World) (aY : Kd.C (Kd.slice 36 k36) w al aa.length aa) (aZ : aa.length ≤ ak) (hrG : GL w) (h : tree_Path.f k ag ah ai aa a1 = some (r1, r2)) :
  Calls Tryd.prog 23 #[.agg #[.int .i64 ag, .int .i64 ah, .int .i64 ai, .slice al aa.length ak], .int .i64 a1] w fun e w' => ∃ bp : Value, e = .returned (.tuple #[bp, .int .i64 r2]) ∧ Kd.R k36 36 w' w.heap.size (fun _ => True) bp r1 ∧ Below w.heap.size w w' := by
 have hu26 := Tryd.underlying26
 have hu36 := Tryd.underlying36
 have HRG := aj hrG
 clear hrG
 have aI := aj aY
 have aJ := aj aZ
 clear aY aZ
 have HB := aj (Below.refl w.heap.size w)
 have H : ((tree_place.f k ag ah ai aa a1).bind fun am => (if am = 0 then (if 0 ≤ (wrap64 ((aa.length : Int) - 1)) then (if (wrap64 ((aa.length : Int) - 1)) ≤ (aa.length : Int) then ((some (aa.take ((wrap64 ((aa.length : Int) - 1)) : Int).toNat : List (List (S36)))).bind fun ac => (tree_Path.l0 k a1 ([] : List (S36)) ac (ac.length : Int) 0)) else (none)) else (none)) else (some (([] : List (S36)), am)))) = some (r1, r2) := h
 clear h
 replace H := Option.bind_eq_some_iff.mp H
 obtain ⟨am, bq, H⟩ := H
 have A3 := aj bq
 clear bq
 by_cases c4 : am = 0
 ·rw [if_pos c4] at H
  have c4b0 : (am == 0) = true := beq_iff_eq.mpr c4
  have c4b1 : (am != 0) = false := bne_eq_false_iff_eq.mpr c4
  clear c4
  obtain ⟨ao, aA⟩ : ∃ j_ : Int, (wrap64 ((aa.length : Int) - 1)) = j_ := ⟨_, rfl⟩
  replace H : (if 0 ≤ (ao) then (if (ao) ≤ (aa.length : Int) then ((some (aa.take ((ao) : Int).toNat : List (List (S36)))).bind fun ac => (tree_Path.l0 k a1 ([] : List (S36)) ac (ac.length : Int) 0)) else (none)) else (none)) = some (r1, r2) := by first | (rw [aA] at H; exact H) | (simp only [aA] at H ⊢; exact H)
  (try rw [aA] at A3)
  have hji5w : (IntKind.i64.wrap ((aa.length : Int) - 1)) = ao := (i64_w _).trans aA
  by_cases c6 : 0 ≤ (ao)
  ·rw [if_pos c6] at H
   have c6b0 := eq_true c6
   have c6b1 : decide (0 ≤ (ao)) = true := decide_eq_true c6
   clear c6
   by_cases c7 : (ao) ≤ (aa.length : Int)
   ·rw [if_pos c7] at H
    have c7b0 := eq_true c7
    have c7b1 : decide ((ao) ≤ (aa.length : Int)) = true := decide_eq_true c7
    clear c7
    obtain ⟨ac, ar⟩ : ∃ y_ : List (List (S36)), y_ = (aa.take ((ao) : Int).toNat) := ⟨_, rfl⟩
    (first | rw [← ar] at H | simp only [← ar] at H)
    have a5 := aj ar
    clear ar
    have H' := aj H
    clear H
    go_enter Tryd.func23, Tryd.ntmps23
    go_wp2_with (first | ((with_reducible refine gate_dst (N := 2) rfl ?_); refine box_event ?hg (N := 2) ?hd (cs := #[.int .i64 ag, .int .i64 ah, .int .i64 ai, .slice al aa.length ak]) (t := 26) ?hr ?_; (case hd => rfl); (case hg => rfl); (case hr => first | (go_simp; done) | (go_simp; rfl)); intro af hg w8 hbox hb; have ap := aj (below_step HB.out hb); have aq := aj (hbox); have aQ := aj ((by rw [hg]; exact (below_size HB.out) : w.heap.size ≤ af)); clear HB; have HB := ap; have ab := aq; have aK := aQ; clear ap aq aQ; clear hb hbox hg; have bN : w8.cell? ⟨af, 0, none⟩ = some (.int .i64 ag) := bq_ ab 0; have bO : w8.cell? ⟨af, 1, none⟩ = some (.int .i64 ah) := bq_ ab 1; have bP : w8.cell? ⟨af, 2, none⟩ = some (.int .i64 ai) := bq_ ab 2; have bQ : w8.cell? ⟨af, 3, none⟩ = some (.slice al aa.length ak) := bq_ ab 3; have bR := blk_frozen ab.out 0; have bS := blk_frozen ab.out 1; have bT := blk_frozen ab.out 2; have bU := blk_frozen ab.out 3) | ((with_reducible refine gate_callee (f := 46) rfl ?_); refine goesL_ (some 12) rfl rfl Tryd.func46 (by kernel_rfl) rfl #[.agg #[.int .i64 ag, .int .i64 ah, .int .i64 ai, .slice al aa.length ak], .int .i64 a1] rfl (by (try simp only [List.map_toArray, List.map_cons, List.map_nil]); first | done | rfl | (go_simp; done)) ?_; (with_reducible refine (tree_place.calls k ag ah ai _ _ aa a1 am _ ?side1 ?side2 ?side3 A3.out).mono ?_); (case side1 => exact (Kd.C_below aI.out HB.out)); (case side2 => exact aJ.out); (case side3 => repeat (first | exact (GL.below HRG.out HB.out) | (with_reducible refine GL.alloc ?_ _) | (with_reducible refine GL.drewN ?_ _) | (with_reducible refine GL.drew ?_))); rintro e a6 ⟨rfl, hb⟩; refine ⟨_, rfl, ?_⟩; have ap := aj (blk_below ab.out hb); have aq := aj (below_step HB.out hb); clear ab; clear HB; have ab := ap; have HB := aq; clear ap aq; (try clear hb); (try clear hb2); (try clear hk); (try clear hi); have bv : a6.cell? ⟨af, 0, none⟩ = some (.int .i64 ag) := bq_ ab 0; have bw : a6.cell? ⟨af, 1, none⟩ = some (.int .i64 ah) := bq_ ab 1; have bx : a6.cell? ⟨af, 2, none⟩ = some (.int .i64 ai) := bq_ ab 2; have bz : a6.cell? ⟨af, 3, none⟩ = some (.slice al aa.length ak) := bq_ ab 3; have bA := blk_frozen ab.out 0; have bB := blk_frozen ab.out 1; have bC := blk_frozen ab.out 2; have bD := blk_frozen ab.out 3; have bf : ((ao) : Int) ≤ ((aa.length : Int) : Int) := of_decide_eq_true (by assumption); obtain ⟨b2, a7, _, bj, _⟩ := info_parts info22; have aD : aa.length ≤ ak := aJ.out; have bg : Kd.C (Kd.slice 36 k36) _ al aa.length aa := aI.out; have bh := cut_to (P := Tryd.prog) 24 22 .i64 Tryd.underlying24 a7 al aa.length ak (ao) (of_decide_eq_true (by assumption)) bf aD; have aR := Kd.C_take (m := ((ao) : Int).toNat) bg (by omega); have aT : ac.length = ((ao) : Int).toNat := (by rw [a5.out, List.length_take]; omega); rw [← a5.out] at aR; rw [← aT] at bh; have bk := aj aR; have bZ := aj (show ac.length ≤ ak from by omega); clear aR bg aD a7 bj; have b3 := aj aT; clear aT; replace bf := eq_true bf))
    go_loopg [1, 7, 24] k (fun kq v1 v7 bV w' => ∃ (ae : Int) (av : List (S36)) (ad : Int), v1 = .int .i64 ae ∧ bV = .int .i64 ad ∧ Aside0 (tree_Path.l0 kq ae av ac (ac.length : Int) ad = some (r1, r2)) ∧ Aside0 (kq ≤ k) ∧ Aside0 (Kd.R k36 36 w' w.heap.size (fun _ => True) v7 av) ∧ Aside0 (w'.heap[af]? = some (.cells #[.int .i64 ag, .int .i64 ah, .int .i64 ai, (.slice al aa.length ak)] 26 (0, 0))) ∧ Aside0 (Below w.heap.size w w'))
    case atStart => exact ⟨(a1), (([] : List (S36))), (0), (by first | rfl | simp), (by first | rfl | simp), H', ⟨Nat.le_refl _⟩, ⟨by first | exact Kd.R_nil _ _ _ _ _ | exact Kd.N_nil _ _ _ _ _ | exact Kd.V_nil _ _ _ _ _ | exact Kd.Q_nil _ _ _ _ _ | exact Kd.S_nil _ _ _ _ _⟩, ⟨by exact ab.out⟩, ⟨HB.out⟩⟩
    case round =>
     clear H'
     obtain ⟨ae, av, ad, rfl, rfl, HA, br, aM, ab, HB⟩ := hrel
     cases gk with
     | zero => exact absurd HA.out (by simp [tree_Path.l0])
     | succ k1 =>
      have H := HA.out
      clear HA
      simp only [tree_Path.l0] at H
      by_cases aE : ad < (ac.length : Int)
      ·rw [if_pos aE] at H
       have c13b0 : decide (ad < (ac.length : Int)) = true := decide_eq_true aE
       clear aE
       by_cases a8 : 0 ≤ ad
       ·rw [if_pos a8] at H
        have c14b0 : decide (0 ≤ ad) = true := decide_eq_true a8
        clear a8
        by_cases a9 : ad < (ac.length : Int)
        ·rw [if_pos a9] at H
         have c15b0 : decide (ad < (ac.length : Int)) = true := decide_eq_true a9
         clear a9
         by_cases ba : 0 ≤ (Go.bits .xor .i64 ae 1)
         ·rw [if_pos ba] at H
          have c16b0 : decide (0 ≤ (Go.bits .xor .i64 ae 1)) = true := decide_eq_true ba
          clear ba
          by_cases bb : (Go.bits .xor .i64 ae 1) < ((rd_L3 ac ad).length : Int)
          ·rw [if_pos bb] at H
           have c17b0 : decide ((Go.bits .xor .i64 ae 1) < ((rd_L3 ac ad).length : Int)) = true := decide_eq_true bb
           clear bb
           by_cases bc : av.length < 8796093022208
           ·rw [if_pos bc] at H
            have bl := aj bc
            clear bc
            obtain ⟨bi, au⟩ : ∃ y_ : List (S36), y_ = (av ++ [(⟨(rd_T36 (rd_L3 ac ad) (Go.bits .xor .i64 ae 1)).f0, (rd_T36 (rd_L3 ac ad) (Go.bits .xor .i64 ae 1)).f1⟩ : S36)]) := ⟨_, rfl⟩
            (first | rw [← au] at H | simp only [← au] at H)
            have bm := aj au
            clear au
            have H' := aj H
            clear H
            have aU : 0 ≤ (ad : Int) := of_decide_eq_true (by assumption)
            have aV : ad < (ac.length : Int) := of_decide_eq_true (by assumption)
            obtain ⟨b0, bW, bX, bs, aw, aG, aH⟩ := at_L3 bk.out ad aU aV
            cases bs
            replace aw := (HB.out.cell (World.block_lt_of_cell? w _ aw)).trans aw
            have be := aj aH
            have bE := aj aG
            clear aH aG
            replace aU := eq_true aU
            replace aV := eq_true aV
            have aW : 0 ≤ ((Go.bits .xor .i64 ae 1) : Int) := of_decide_eq_true (by assumption)
            have aX : (Go.bits .xor .i64 ae 1) < ((rd_L3 ac ad).length : Int) := of_decide_eq_true (by assumption)
            obtain ⟨b1, bu, ax, ay⟩ := at_T36 be.out (Go.bits .xor .i64 ae 1) aW aX
            cases bu
            replace ax := (HB.out.cell (World.block_lt_of_cell? w _ ax)).trans ax
            replace ay := (HB.out.cell (World.block_lt_of_cell? w _ ay)).trans ay
            replace aW := eq_true aW
            replace aX := eq_true aX
            go_wp2_with (first | ((with_reducible refine gate_builtin (b := .append) (xs := #[.tmp 28, .tmp 34]) rfl ?_); at_builtin; refine Kd.R_append k36 (w0 := w) w.heap.size rfl (.tmp 28) (.tmp 34) 22 36 (.agg #[(.int .u64 0), (.int .u64 0)]) 16 rfl Tryd.underlying22 info36 rfl (by decide) (by omega) u7 av (⟨(rd_T36 (rd_L3 ac ad) (Go.bits .xor .i64 ae 1)).f0, (rd_T36 (rd_L3 ac ad) (Go.bits .xor .i64 ae 1)).f1⟩ : S36) [.int .u64 ((rd_T36 (rd_L3 ac ad) (Go.bits .xor .i64 ae 1)).f0), .int .u64 ((rd_T36 (rd_L3 ac ad) (Go.bits .xor .i64 ae 1)).f1)] (fun _ => True) (fun _ => False) rfl rfl ?aP (fun _ hk => hk.elim) ?aF ?aO ?aB ?aS ?aL ?_; (case aP => exact k36_mkM _ _ _ (⟨(rd_T36 (rd_L3 ac ad) (Go.bits .xor .i64 ae 1)).f0, (rd_T36 (rd_L3 ac ad) (Go.bits .xor .i64 ae 1)).f1⟩ : S36)); (case aB => exact HB.out); (case aF => exact (fun _ _ => trivial)); (case aO => exact (aM.out)); (case aS => exact (below_size HB.out)); (case aL => have := bl.out; omega); intro b4 b5 ho hb hg hat; rw [← bm.out] at ho; have ap := aj (blk_grown ab.out hg (Kd.R_ne aM.out ab.out (by decide))); have aq := aj (hb); have bY := aj (ho); clear ab; clear HB; clear aM; have ab := ap; have HB := aq; have bn := bY))
            go_roundg k1
            case measure => have := br.out; omega
            case rel => exact ⟨(ae / 2), (bi), (wrap64 (ad + 1)), (by first | rfl | simp), (by first | rfl | simp), H', ⟨by have := br.out; omega⟩, ⟨by (with_reducible repeat (first | apply Kd.R_alloc | apply Kd.R_drewN | apply Kd.R_drew)); exact bn.out⟩, ⟨by exact ab.out⟩, ⟨HB.out⟩⟩
           ·rw [if_neg bc] at H
            exact absurd H (by simp)
          ·rw [if_neg bb] at H
           exact absurd H (by simp)
         ·rw [if_neg ba] at H
          exact absurd H (by simp)
        ·rw [if_neg a9] at H
         exact absurd H (by simp)
       ·rw [if_neg a8] at H
        exact absurd H (by simp)
      ·rw [if_neg aE] at H
       have c13b0 : decide (ad < (ac.length : Int)) = false := decide_eq_false aE
       clear aE
       simp only [Option.some.injEq, Prod.mk.injEq] at H
       obtain ⟨rfl, rfl⟩ := H
       go_wp2
       go_ret2
       exact ⟨_, by first | rfl | (simp [errW_none, errW_some] <;> rfl) | (simp only [← aA]; first | rfl | (simp [errW_none, errW_some] <;> rfl)) | (simp [*, errW_none, errW_some] <;> rfl), by (with_reducible repeat (first | apply Kd.R_alloc | apply Kd.R_drewN | apply Kd.R_drew)); exact aM.out, HB.out⟩
   ·rw [if_neg c7] at H
    exact absurd H (by simp)
  ·rw [if_neg c6] at H
   exact absurd H (by simp)
 ·rw [if_neg c4] at H
  have c4b0 : (am == 0) = false := beq_eq_false_iff_ne.mpr c4
  have c4b1 : (am != 0) = true := bne_iff_ne.mpr c4
  simp only [Option.some.injEq, Prod.mk.injEq] at H
  obtain ⟨rfl, rfl⟩ := H
  go_enter Tryd.func23, Tryd.ntmps23
  go_wp2_with (first | ((with_reducible refine gate_dst (N := 2) rfl ?_); refine box_event ?hg (N := 2) ?hd (cs := #[.int .i64 ag, .int .i64 ah, .int .i64 ai, .slice al aa.length ak]) (t := 26) ?hr ?_; (case hd => rfl); (case hg => rfl); (case hr => first | (go_simp; done) | (go_simp; rfl)); intro af hg bd hbox hb; have ap := aj (below_step HB.out hb); have aq := aj (hbox); have aQ := aj ((by rw [hg]; exact (below_size HB.out) : w.heap.size ≤ af)); clear HB; have HB := ap; have ab := aq; have aK := aQ; clear ap aq aQ; clear hb hbox hg; have bF : bd.cell? ⟨af, 0, none⟩ = some (.int .i64 ag) := bq_ ab 0; have bG : bd.cell? ⟨af, 1, none⟩ = some (.int .i64 ah) := bq_ ab 1; have bH : bd.cell? ⟨af, 2, none⟩ = some (.int .i64 ai) := bq_ ab 2; have bI : bd.cell? ⟨af, 3, none⟩ = some (.slice al aa.length ak) := bq_ ab 3; have bJ := blk_frozen ab.out 0; have bK := blk_frozen ab.out 1; have bL := blk_frozen ab.out 2; have bM := blk_frozen ab.out 3) | ((with_reducible refine gate_callee (f := 46) rfl ?_); refine goesL_ (some 12) rfl rfl Tryd.func46 (by kernel_rfl) rfl #[.agg #[.int .i64 ag, .int .i64 ah, .int .i64 ai, .slice al aa.length ak], .int .i64 a1] rfl (by (try simp only [List.map_toArray, List.map_cons, List.map_nil]); first | done | rfl | (go_simp; done)) ?_; (with_reducible refine (tree_place.calls k ag ah ai _ _ aa a1 am _ ?side1 ?side2 ?side3 A3.out).mono ?_); (case side1 => exact (Kd.C_below aI.out HB.out)); (case side2 => exact aJ.out); (case side3 => repeat (first | exact (GL.below HRG.out HB.out) | (with_reducible refine GL.alloc ?_ _) | (with_reducible refine GL.drewN ?_ _) | (with_reducible refine GL.drew ?_))); rintro e b6 ⟨rfl, hb⟩; refine ⟨_, rfl, ?_⟩; have ap := aj (blk_below ab.out hb); have aq := aj (below_step HB.out hb); clear ab; clear HB; have ab := ap; have HB := aq; clear ap aq; (try clear hb); (try clear hb2); (try clear hk); (try clear hi)))
  go_ret2
  exact ⟨_, by first | rfl | (simp [errW_none, errW_some] <;> rfl) | (simp [*, errW_none, errW_some] <;> rfl), by first | exact Kd.R_nil _ _ _ _ _ | exact Kd.N_nil _ _ _ _ _ | exact Kd.V_nil _ _ _ _ _ | exact Kd.Q_nil _ _ _ _ _ | exact Kd.S_nil _ _ _ _ _, HB.out⟩

end Go.Proofs.YtpnpmeogffodgaaDoor.Q
end
section
namespace Go.Proofs.YtpnpmeogffodgaaDoor.Q
open Go.RowKit Go.Proofs.YtpnpmeogffodgaaDoorW.PrintWords Go.Proofs.YtpnpmeogffodgaaDoorW.PrintLast Go.Proofs.YtpnpmeogffodgaaDoorW.PrintMore
set_option linter.unusedVariables false
set_option linter.unusedSimpArgs false
/-- The place of the one bit of a power of two. -/
def lgI (n : Int) : Int := if n = 1 then 0 else if n = 2 then 1 else if n = 4 then 2 else if n = 8 then 3 else if n = 16 then 4 else if n = 32 then 5 else if n = 64 then 6 else if n = 128 then 7 else if n = 256 then 8 else if n = 512 then 9 else if n = 1024 then 10 else if n = 2048 then 11 else if n = 4096 then 12 else if n = 8192 then 13 else if n = 16384 then 14 else if n = 32768 then 15 else if n = 65536 then 16 else if n = 131072 then 17 else if n = 262144 then 18 else -1
theorem and_nat (n : Nat) (h : n < 1000000) (h1 : 1 ≤ n) : Go.bits .and .i64 (n : Int) (wrap64 ((n : Int) - 1)) = ((n &&& (n - 1) : Nat) : Int) := by
  have e : wrap64 ((n : Int) - 1) = ((n - 1 : Nat) : Int) := by unfold wrap64; omega
  rw [e]
  have h3 : n &&& (n - 1) ≤ n := Nat.and_le_left
  have hh : ∀ m : Nat, m < 1000000 → (BitVec.ofInt 64 (m : Int)).toNat = m := fun m hm => by
    rw [BitVec.ofInt_natCast, BitVec.toNat_ofNat]; exact Nat.mod_eq_of_lt (by omega)
  show IntKind.i64.wrap ((BitVec.ofInt 64 (n : Int) &&& BitVec.ofInt 64 ((n - 1 : Nat) : Int)).toNat : Int) = _
  rw [BitVec.toNat_and, hh n h, hh (n - 1) (by omega), IntKind.wrap_i64]
  omega
theorem pow_of_and : ∀ n : Nat, 0 < n → n &&& (n - 1) = 0 → ∃ k, n = 2 ^ k := by
  intro n
  induction n using Nat.strongRecOn with
  | ind n ih =>
    intro h0 h
    have hd := congrArg (· / 2) h
    simp only [Nat.and_div_two] at hd
    rcases Nat.mod_two_eq_zero_or_one n with e | e
    · have e1 : (n - 1) / 2 = n / 2 - 1 := by omega
      rw [e1] at hd
      obtain ⟨k, hk⟩ := ih (n / 2) (by omega) (by omega) (by simpa using hd)
      exact ⟨k + 1, by rw [Nat.pow_succ, ← hk]; omega⟩
    · have e1 : (n - 1) / 2 = n / 2 := by omega
      rw [e1, Nat.and_self] at hd
      exact ⟨0, by omega⟩
theorem tz64_calls (n : Int) (k idx : Nat) (w : World) (hx0 : (n == 0) = false)
    (key : IntKind.u64.wrap (Go.bits BinOp.and IntKind.u64 n (IntKind.u64.wrap (-n)) * 285870213051353865) / 288230376151711744 = (idx : Int))
    (hi : idx < 64) (hk : k < 64) (hcell : w.cell? ⟨1, idx, none⟩ = some (.int .u8 (k : Int))) :
    Calls Tryd.prog 69 #[.int .u64 n] w fun e w' => e = .returned (.int .i64 (k : Int)) ∧ w' = w := by
  have hu := Tryd.underlying100
  have hi2 : ((idx : Int) < 64) = True := eq_true (by omega)
  have hi3 : (0 ≤ (idx : Int)) = True := eq_true (by omega)
  go_enter Tryd.func69, Tryd.ntmps69
  go_wp2_with (simp only [key])
  go_ret
  exact ⟨rfl, rfl⟩
theorem tz_calls (n : Int) (k idx : Nat) (w : World) (hx0 : (n == 0) = false)
    (key : IntKind.u64.wrap (Go.bits BinOp.and IntKind.u64 n (IntKind.u64.wrap (-n)) * 285870213051353865) / 288230376151711744 = (idx : Int))
    (hi : idx < 64) (hk : k < 64) (hcell : w.cell? ⟨1, idx, none⟩ = some (.int .u8 (k : Int))) :
    Calls Tryd.prog 57 #[.int .u64 n] w fun e w' => e = .returned (.int .i64 (k : Int)) ∧ w' = w := by
  have C := Aside0.mk (tz64_calls n k idx w hx0 key hi hk hcell)
  clear key hcell hx0
  go_enter Tryd.func57, Tryd.ntmps57
  go_wp2_with (go_at_call 69; refine C.out.mono ?_; rintro e w' ⟨rfl, hw'⟩; rw [hw'])
  go_ret
  exact ⟨rfl, rfl⟩
/-- The nineteen powers of two. -/
theorem keys : ∀ k : Fin 19, IntKind.u64.wrap (Go.bits BinOp.and IntKind.u64 (2 ^ (k : Nat) : Nat) (IntKind.u64.wrap (-((2 ^ (k : Nat) : Nat) : Int))) * 285870213051353865) / 288230376151711744 = (((2 ^ (k : Nat) * 285870213051353865 % 18446744073709551616) / 288230376151711744 : Nat) : Int) ∧ (2 ^ (k : Nat) * 285870213051353865 % 18446744073709551616) / 288230376151711744 < 64 ∧ db64.getD ((2 ^ (k : Nat) * 285870213051353865 % 18446744073709551616) / 288230376151711744) 0 = ((k : Nat) : Int) ∧ lgI (2 ^ (k : Nat) : Nat) = ((k : Nat) : Int) := by decide +kernel
theorem tz_pow (k : Nat) (hk : k < 19) (w : World) (hG : GL w) : Calls Tryd.prog 57 #[.int .u64 ((2 ^ k : Nat) : Int)] w fun e w' => e = .returned (.int .i64 (k : Int)) ∧ w' = w := by
  obtain ⟨h1, h2, h3, _⟩ := keys ⟨k, hk⟩
  refine tz_calls _ k _ w ?_ h1 h2 (by omega) ?_
  · have := Nat.pow_pos (n := k) (show 0 < 2 by decide)
    exact beq_eq_false_iff_ne.mpr (by omega)
  · rw [hG.d64 _ h2, h3]
def tree_height.f (n : Int) : Option Int := some (if n < 1 then -1 else lgI n)
theorem lgI_none (n : Int) (h : ∀ k : Nat, k < 19 → n ≠ ((2 ^ k : Nat) : Int)) : lgI n = -1 := by
  have a0 : n ≠ 1 := h 0 (by omega)
  have a1 : n ≠ 2 := h 1 (by omega)
  have a2 : n ≠ 4 := h 2 (by omega)
  have a3 : n ≠ 8 := h 3 (by omega)
  have a4 : n ≠ 16 := h 4 (by omega)
  have a5 : n ≠ 32 := h 5 (by omega)
  have a6 : n ≠ 64 := h 6 (by omega)
  have a7 : n ≠ 128 := h 7 (by omega)
  have a8 : n ≠ 256 := h 8 (by omega)
  have a9 : n ≠ 512 := h 9 (by omega)
  have a10 : n ≠ 1024 := h 10 (by omega)
  have a11 : n ≠ 2048 := h 11 (by omega)
  have a12 : n ≠ 4096 := h 12 (by omega)
  have a13 : n ≠ 8192 := h 13 (by omega)
  have a14 : n ≠ 16384 := h 14 (by omega)
  have a15 : n ≠ 32768 := h 15 (by omega)
  have a16 : n ≠ 65536 := h 16 (by omega)
  have a17 : n ≠ 131072 := h 17 (by omega)
  have a18 : n ≠ 262144 := h 18 (by omega)
  unfold lgI
  rw [if_neg a0, if_neg a1, if_neg a2, if_neg a3, if_neg a4, if_neg a5, if_neg a6, if_neg a7, if_neg a8, if_neg a9, if_neg a10, if_neg a11, if_neg a12, if_neg a13, if_neg a14, if_neg a15, if_neg a16, if_neg a17, if_neg a18]
theorem height_no (n : Int) (w : World) (h : n < 1 ∨ 262144 < n ∨ (1 ≤ n ∧ n ≤ 262144 ∧ Go.bits .and .i64 n (wrap64 (n - 1)) ≠ 0)) : Calls Tryd.prog 37 #[.int .i64 n] w fun e w' => e = .returned (.int .i64 (-1)) ∧ w' = w := by
  rcases h with h | h | ⟨h1, h2, h3⟩
  · have c0 : decide (n < 1) = true := decide_eq_true h
    clear h
    go_enter Tryd.func37, Tryd.ntmps37
    go_wp2
    go_ret
    exact ⟨rfl, rfl⟩
  · have c0 : decide (n < 1) = false := decide_eq_false (by omega)
    have c1 : decide (262144 < n) = true := decide_eq_true h
    clear h
    go_enter Tryd.func37, Tryd.ntmps37
    go_wp2
    go_ret
    exact ⟨rfl, rfl⟩
  · have c0 : decide (n < 1) = false := decide_eq_false (by omega)
    have c1 : decide (262144 < n) = false := decide_eq_false (by omega)
    have c2 : (Go.bits .and .i64 n (wrap64 (n - 1)) == 0) = false := beq_eq_false_iff_ne.mpr h3
    clear h1 h2 h3
    go_enter Tryd.func37, Tryd.ntmps37
    go_wp2
    go_ret
    exact ⟨rfl, rfl⟩
theorem height_yes (n : Int) (k : Nat) (w : World) (c0 : decide (n < 1) = false) (c1 : decide (262144 < n) = false) (c2 : (Go.bits .and .i64 n (wrap64 (n - 1)) == 0) = true) (hw : IntKind.u64.wrap n = n)
    (C : Aside0 (Calls Tryd.prog 57 #[.int .u64 n] w fun e w' => e = .returned (.int .i64 (k : Int)) ∧ w' = w)) : Calls Tryd.prog 37 #[.int .i64 n] w fun e w' => e = .returned (.int .i64 (k : Int)) ∧ w' = w := by
  go_enter Tryd.func37, Tryd.ntmps37
  go_wp2_with (first | (simp only [hw]; done) | (go_at_call 57; (try simp only [hw]); refine C.out.mono ?_; rintro e w' ⟨rfl, hw'⟩; rw [hw']))
  go_ret
  exact ⟨rfl, rfl⟩
theorem height_pow (k : Nat) (hk : k < 19) (w : World) (hG : GL w) : Calls Tryd.prog 37 #[.int .i64 ((2 ^ k : Nat) : Int)] w fun e w' => e = .returned (.int .i64 (k : Int)) ∧ w' = w := by
  have hp := Nat.pow_pos (n := k) (show 0 < 2 by decide)
  have hq : 2 ^ k ≤ 2 ^ 18 := Nat.pow_le_pow_right (by decide) (by omega)
  have e3 : ((2 ^ k : Nat) &&& (2 ^ k - 1)) = 0 := by rw [Nat.and_two_pow_sub_one_eq_mod, Nat.mod_self]
  have e4 := and_nat (2 ^ k) (by omega) hp
  rw [e3] at e4
  refine height_yes _ k w (decide_eq_false (by omega)) (decide_eq_false (by omega)) (by rw [e4]; rfl) ?_ ⟨tz_pow k hk w hG⟩
  rw [IntKind.wrap_u64]
  omega
theorem tree_height.calls (a0 : Int) (r : Int) (w : World) (hrG : GL w) (h : tree_height.f a0 = some r) : Calls Tryd.prog 37 #[.int .i64 a0] w fun e w' => e = .returned (.int .i64 r) ∧ Below w.heap.size w w' := by
  have fin : ∀ {x : Int}, x = r → (Calls Tryd.prog 37 #[.int .i64 a0] w fun e w' => e = .returned (.int .i64 x) ∧ w' = w) → Calls Tryd.prog 37 #[.int .i64 a0] w fun e w' => e = .returned (.int .i64 r) ∧ Below w.heap.size w w' := by
    intro x e c
    subst e
    refine c.mono ?_
    rintro e w' ⟨rfl, rfl⟩
    exact ⟨rfl, Below.refl _ _⟩
  obtain rfl := Option.some.inj h
  clear h
  by_cases h0 : a0 < 1
  · exact fin (by rw [if_pos h0]) (height_no a0 w (.inl h0))
  · rw [if_neg h0] at fin ⊢
    by_cases hp : ∃ k : Nat, k < 19 ∧ a0 = ((2 ^ k : Nat) : Int)
    · obtain ⟨k, hk, rfl⟩ := hp
      exact fin (keys ⟨k, hk⟩).2.2.2.symm (height_pow k hk w hrG)
    · have hn : lgI a0 = -1 := lgI_none a0 fun k hk e => hp ⟨k, hk, e⟩
      refine fin hn.symm (height_no a0 w ?_)
      by_cases h1 : 262144 < a0
      · exact .inr (.inl h1)
      · refine .inr (.inr ⟨by omega, by omega, fun hz => ?_⟩)
        obtain ⟨n, rfl⟩ := Int.eq_ofNat_of_zero_le (show 0 ≤ a0 by omega)
        rw [and_nat n (by omega) (by omega)] at hz
        obtain ⟨k, hk⟩ := pow_of_and n (by omega) (by omega)
        subst hk
        refine hp ⟨k, ?_, rfl⟩
        rcases Nat.lt_or_ge k 19 with h | h
        · exact h
        · have := Nat.pow_le_pow_right (show 0 < 2 by decide) h
          omega
end Go.Proofs.YtpnpmeogffodgaaDoor.Q
end
section
namespace Go.Proofs.YtpnpmeogffodgaaDoor.Q
open Go.RowKit Go.Proofs.YtpnpmeogffodgaaDoorW.PrintWords Go.Proofs.YtpnpmeogffodgaaDoorW.PrintLast Go.Proofs.YtpnpmeogffodgaaDoorW.PrintMore
attribute [local go_sem] max2_int min2_int max_two min_two max_three min_three max_four min_four run_store_fnV run_store_fnc run_store_nfn   -- for this text's walks alone
set_option linter.unusedVariables false
set_option linter.unusedSimpArgs false

attribute [local go_sem high] eqA36
abbrev z26_0_ := zb 14 0
abbrev z26_1_ := zb 14 1
abbrev z26_2_ := zb 14 3
abbrev z26_3_ := zb 14 11
abbrev z26_4_ := zb 14 43
abbrev z26_5_ := zb 14 107
abbrev z26_6_ := zb 14 235
abbrev z26_7_ := zb 14 491
abbrev z26_8_ := zb 14 1003
abbrev z26_9_ := zb 14 2027
abbrev z26_10_ := zb 14 2031
abbrev z26_11_ := zb 14 4079
abbrev z26_12_ := zb 14 4095
abbrev z26_13_ := zb 14 8191
abbrev z26_14_ := zb 14 16383
/-! ### tree_Check: function 26 -/
def tree_Check.f (a0 : Int) (l1 : List (S36)) (a2 : Int) (ad : Int) (ae : Int) (l4 : List (S36)) : Option (Bool) := (tree_height.f (l1.length : Int)).bind fun ah => (if ah < 0 then (some false) else ((tree_opens.f a0 a2 ad ae l4).bind fun av => (if av = true then ((tree_proper.f a0 l1).bind fun ar => (if ar = true then (if (wrap64 (ah + (l4.length : Int))) > 18 then (some false) else (if (shr .i64 a2 (l4.length : Int)) ≥ (l1.length : Int) then (some false) else ((tree_climb.f a0 a2 ad ae l4).bind fun ai => (if 0 ≤ (shr .i64 a2 (l4.length : Int)) then (if (shr .i64 a2 (l4.length : Int)) < (l1.length : Int) then (some (ai.1 == ((rd_T36 l1 (shr .i64 a2 (l4.length : Int))).f0) && (ai.2 == ((rd_T36 l1 (shr .i64 a2 (l4.length : Int))).f1)))) else (none)) else (none))))) else (some false))) else (some false))))
def tree_Check.T4 : Bool × List (List Nat × List Nat) := (true, [([], []), ([], []), ([], []), ([], []), ([0, 1, 2, 3], [0, 1, 2, 3]), ([], []), ([], []), ([], []), ([7], [7]), ([6, 8], [6, 8]), ([5, 9], [5, 9]), ([10], [10]), ([4, 11], [4, 11]), ([12, 4, 0, 1, 2, 3, 4, 5, 6, 7, 8, 9, 10, 11, 12], [12])])
def tree_Check.B4 : List Nat := [0, 0, 0, 0, 15, 0, 0, 0, 128, 448, 992, 2016, 4095, 8191]
theorem tree_Check.tab4 : rtab .any (opsOf Tryd.f26 4) = tree_Check.T4 := by kernel_rfl
theorem tree_Check.bits4 : waitsOk tree_Check.T4.2 tree_Check.B4 = true := by kernel_rfl
set_option maxHeartbeats 8000000 in
set_option maxRecDepth 100000 in
theorem tree_Check.calls (a0 : Int) (A1 : Option Addr) (c1 : Nat) (l1 : List (S36)) (a2 : Int) (ad : Int) (ae : Int) (A4 : Option Addr) (c4 : Nat) (l4 : List (S36)) (r : Bool) (w : World) (aR : Kd.C k36 w A1 l1.length l1) (aS : l1.length ≤ c1) (aT : Kd.C k36 w A4 l4.length l4) (aU : l4.length ≤ c4) (hrG : GL w) (h : tree_Check.f a0 l1 a2 ad ae l4 = some r) :
  Calls Tryd.prog 26 #[.int .i64 a0, .slice A1 l1.length c1, .int .i64 a2, .agg #[.int .u64 ad, .int .u64 ae], .slice A4 l4.length c4] w fun e w' => e = .returned (.bool r) ∧ Below w.heap.size w w' := by
 have hu36 := Tryd.underlying36
 have HRG := aj hrG
 clear hrG
 have aC := aj aR
 have aG := aj aS
 clear aR aS
 have aw := aj aT
 have ax := aj aU
 clear aT aU
 have HB := aj (Below.refl w.heap.size w)
 have H : ((tree_height.f (l1.length : Int)).bind fun ah => (if ah < 0 then (some false) else ((tree_opens.f a0 a2 ad ae l4).bind fun av => (if av = true then ((tree_proper.f a0 l1).bind fun ar => (if ar = true then (if (wrap64 (ah + (l4.length : Int))) > 18 then (some false) else (if (shr .i64 a2 (l4.length : Int)) ≥ (l1.length : Int) then (some false) else ((tree_climb.f a0 a2 ad ae l4).bind fun ai => (if 0 ≤ (shr .i64 a2 (l4.length : Int)) then (if (shr .i64 a2 (l4.length : Int)) < (l1.length : Int) then (some (ai.1 == ((rd_T36 l1 (shr .i64 a2 (l4.length : Int))).f0) && (ai.2 == ((rd_T36 l1 (shr .i64 a2 (l4.length : Int))).f1)))) else (none)) else (none))))) else (some false))) else (some false))))) = some r := h
 clear h
 replace H := Option.bind_eq_some_iff.mp H
 obtain ⟨ah, aV, H⟩ := H
 have A6 := aj aV
 clear aV
 by_cases c7 : ah < 0
 ·rw [if_pos c7] at H
  have c7b0 : decide (ah < 0) = true := decide_eq_true c7
  clear c7
  obtain rfl := Option.some.inj H
  go_enter Tryd.func26, Tryd.ntmps26
  go_wp2_with (first | ((with_reducible refine gate_dst (N := 8) rfl ?_); (try (refine gate_guard (by rfl) ?_; dsimp only)); refine box_event ?hg (N := 8) ?hd (cs := #[.int .u64 ad, .int .u64 ae]) (t := 36) ?hr ?_; (case hd => rfl); (case hg => rfl); (case hr => first | (go_simp; done) | (go_simp; rfl)); intro ag hg w8 hbox hb; have ab := aj (below_step HB.out hb); have ac := aj (hbox); have ak := aj ((by rw [hg]; exact (below_size HB.out) : w.heap.size ≤ ag)); clear HB; have HB := ab; have aa := ac; have au := ak) | ((with_reducible refine gate_callee (f := 37) rfl ?_); refine goesL_ (some 14) rfl rfl Tryd.func37 (by kernel_rfl) rfl #[.int .i64 (l1.length : Int)] rfl (by (try simp only [List.map_toArray, List.map_cons, List.map_nil]); first | done | rfl | (go_simp; done)) ?_; (with_reducible refine (tree_height.calls (l1.length : Int) ah _ ?side1 A6.out).mono ?_); (case side1 => repeat (first | exact (GL.below HRG.out HB.out) | (with_reducible refine GL.alloc ?_ _) | (with_reducible refine GL.drewN ?_ _) | (with_reducible refine GL.drew ?_))); rintro e w9 ⟨rfl, hb⟩; refine ⟨_, rfl, ?_⟩; have ab := aj (blk_below aa.out hb); have ac := aj (below_step HB.out hb); clear aa; clear HB; have aa := ab; have HB := ac))
  go_ret
  exact ⟨by first | rfl | (simp [errW_none, errW_some] <;> rfl) | (simp [*, errW_none, errW_some] <;> rfl), HB.out⟩
 ·rw [if_neg c7] at H
  have c7b0 : decide (ah < 0) = false := decide_eq_false c7
  clear c7
  replace H := Option.bind_eq_some_iff.mp H
  obtain ⟨av, aL, H⟩ := H
  have ay := aj aL
  clear aL
  by_cases aH : av = true
  ·subst aH
   have H1 : ((tree_proper.f a0 l1).bind fun ar => (if ar = true then (if (wrap64 (ah + (l4.length : Int))) > 18 then (some false) else (if (shr .i64 a2 (l4.length : Int)) ≥ (l1.length : Int) then (some false) else ((tree_climb.f a0 a2 ad ae l4).bind fun ai => (if 0 ≤ (shr .i64 a2 (l4.length : Int)) then (if (shr .i64 a2 (l4.length : Int)) < (l1.length : Int) then (some (ai.1 == ((rd_T36 l1 (shr .i64 a2 (l4.length : Int))).f0) && (ai.2 == ((rd_T36 l1 (shr .i64 a2 (l4.length : Int))).f1)))) else (none)) else (none))))) else (some false))) = some r := by rw [if_pos rfl] at H; exact H
   clear H
   have H := H1
   clear H1
   replace H := Option.bind_eq_some_iff.mp H
   obtain ⟨ar, aM, H⟩ := H
   have aD := aj aM
   clear aM
   by_cases aI : ar = true
   ·subst aI
    have H1 : (if (wrap64 (ah + (l4.length : Int))) > 18 then (some false) else (if (shr .i64 a2 (l4.length : Int)) ≥ (l1.length : Int) then (some false) else ((tree_climb.f a0 a2 ad ae l4).bind fun ai => (if 0 ≤ (shr .i64 a2 (l4.length : Int)) then (if (shr .i64 a2 (l4.length : Int)) < (l1.length : Int) then (some (ai.1 == ((rd_T36 l1 (shr .i64 a2 (l4.length : Int))).f0) && (ai.2 == ((rd_T36 l1 (shr .i64 a2 (l4.length : Int))).f1)))) else (none)) else (none))))) = some r := by rw [if_pos rfl] at H; exact H
    clear H
    have H := H1
    clear H1
    by_cases az : (wrap64 (ah + (l4.length : Int))) > 18
    ·rw [if_pos az] at H
     have c14b0 : decide (18 < (wrap64 (ah + (l4.length : Int)))) = true := decide_eq_true az
     clear az
     obtain rfl := Option.some.inj H
     go_enter Tryd.func26, Tryd.ntmps26
     go_wp2_with (first | ((with_reducible refine gate_dst (N := 8) rfl ?_); (try (refine gate_guard (by rfl) ?_; dsimp only)); refine box_event ?hg (N := 8) ?hd (cs := #[.int .u64 ad, .int .u64 ae]) (t := 36) ?hr ?_; (case hd => rfl); (case hg => rfl); (case hr => first | (go_simp; done) | (go_simp; rfl)); intro ag hg bq hbox hb; have ab := aj (below_step HB.out hb); have ac := aj (hbox); have ak := aj ((by rw [hg]; exact (below_size HB.out) : w.heap.size ≤ ag)); clear HB; have HB := ab; have aa := ac; have au := ak; clear ab ac ak; clear hb hbox hg) | ((with_reducible refine gate_callee (f := 37) rfl ?_); refine goesL_ (some 14) rfl rfl Tryd.func37 (by kernel_rfl) rfl #[.int .i64 (l1.length : Int)] rfl (by (try simp only [List.map_toArray, List.map_cons, List.map_nil]); first | done | rfl | (go_simp; done)) ?_; (with_reducible refine (tree_height.calls (l1.length : Int) ah _ ?side1 A6.out).mono ?_); (case side1 => repeat (first | exact (GL.below HRG.out HB.out) | (with_reducible refine GL.alloc ?_ _) | (with_reducible refine GL.drewN ?_ _) | (with_reducible refine GL.drew ?_))); rintro e aW ⟨rfl, hb⟩; refine ⟨_, rfl, ?_⟩; have ab := aj (blk_below aa.out hb); have ac := aj (below_step HB.out hb); clear aa; clear HB; have aa := ab; have HB := ac; clear ab ac; (try clear hb); (try clear hb2); (try clear hk); (try clear hi); have a4 : aW.cell? ⟨ag, 0, none⟩ = some (.int .u64 ad) := bq_ aa 0; have a5 : aW.cell? ⟨ag, 1, none⟩ = some (.int .u64 ae) := bq_ aa 1; have a6 := blk_frozen aa.out 0; have a7 := blk_frozen aa.out 1) | (go_at_call 47; (with_reducible refine (tree_opens.calls a0 a2 ad ae _ _ l4 true _ ?side1 ?side2 ?side3 ay.out).mono ?_); (case side1 => exact (Kd.C_below aw.out HB.out)); (case side2 => exact ax.out); (case side3 => repeat (first | exact (GL.below HRG.out HB.out) | (with_reducible refine GL.alloc ?_ _) | (with_reducible refine GL.drewN ?_ _) | (with_reducible refine GL.drew ?_))); rintro e br ⟨rfl, hb⟩; have ab := aj (blk_below aa.out hb); have ac := aj (below_step HB.out hb); clear aa; clear HB; have aa := ab; have HB := ac; clear ab ac; (try clear hb); (try clear hb2); (try clear hk); (try clear hi)) | (go_at_call 39; (with_reducible refine (tree_proper.calls a0 _ _ l1 true _ ?side1 ?side2 ?side3 aD.out).mono ?_); (case side1 => exact (Kd.C_below aC.out HB.out)); (case side2 => exact aG.out); (case side3 => repeat (first | exact (GL.below HRG.out HB.out) | (with_reducible refine GL.alloc ?_ _) | (with_reducible refine GL.drewN ?_ _) | (with_reducible refine GL.drew ?_))); rintro e bs ⟨rfl, hb⟩; have ab := aj (blk_below aa.out hb); have ac := aj (below_step HB.out hb); clear aa; clear HB; have aa := ab; have HB := ac; clear ab ac; (try clear hb); (try clear hb2); (try clear hk); (try clear hi)))
     go_ret
     exact ⟨by first | rfl | (simp [errW_none, errW_some] <;> rfl) | (simp [*, errW_none, errW_some] <;> rfl), HB.out⟩
    ·rw [if_neg az] at H
     have c14b0 : decide (18 < (wrap64 (ah + (l4.length : Int)))) = false := decide_eq_false az
     clear az
     obtain ⟨af, al⟩ : ∃ j_ : Int, (shr .i64 a2 (l4.length : Int)) = j_ := ⟨_, rfl⟩
     replace H : (if (af) ≥ (l1.length : Int) then (some false) else ((tree_climb.f a0 a2 ad ae l4).bind fun ai => (if 0 ≤ (af) then (if (af) < (l1.length : Int) then (some (ai.1 == ((rd_T36 l1 (af)).f0) && (ai.2 == ((rd_T36 l1 (af)).f1)))) else (none)) else (none)))) = some r := by first | (rw [al] at H; exact H) | (simp only [al] at H ⊢; exact H)
     (try rw [al] at A6)
     (try rw [al] at ay)
     (try rw [al] at aD)
     have aN : (a2 / 2 ^ min (l4.length : Int).toNat 64) = af := al
     have hji20z : (l4.length : Int) ≤ 64 → (a2 / 2 ^ (l4.length : Int).toNat) = af := shr_small al
     have hji20p : (a2 / 2 ^ min l4.length 64) = af := aN
     have hji20q : (l4.length : Int) ≤ 64 → (a2 / 2 ^ l4.length) = af := hji20z
     by_cases aA : (af) ≥ (l1.length : Int)
     ·rw [if_pos aA] at H
      have c21b0 : decide ((l1.length : Int) ≤ (af)) = true := decide_eq_true aA
      clear aA
      obtain rfl := Option.some.inj H
      go_enter Tryd.func26, Tryd.ntmps26
      go_wp2_with (first | ((with_reducible refine gate_dst (N := 8) rfl ?_); (try (refine gate_guard (by rfl) ?_; dsimp only)); refine box_event ?hg (N := 8) ?hd (cs := #[.int .u64 ad, .int .u64 ae]) (t := 36) ?hr ?_; (case hd => rfl); (case hg => rfl); (case hr => first | (go_simp; done) | (go_simp; rfl)); intro ag hg bu hbox hb; have ab := aj (below_step HB.out hb); have ac := aj (hbox); have ak := aj ((by rw [hg]; exact (below_size HB.out) : w.heap.size ≤ ag)); clear HB; have HB := ab; have aa := ac; have au := ak; clear ab ac ak; clear hb hbox hg) | ((with_reducible refine gate_callee (f := 37) rfl ?_); refine goesL_ (some 14) rfl rfl Tryd.func37 (by kernel_rfl) rfl #[.int .i64 (l1.length : Int)] rfl (by (try simp only [List.map_toArray, List.map_cons, List.map_nil]); first | done | rfl | (go_simp; done)) ?_; (with_reducible refine (tree_height.calls (l1.length : Int) ah _ ?side1 A6.out).mono ?_); (case side1 => repeat (first | exact (GL.below HRG.out HB.out) | (with_reducible refine GL.alloc ?_ _) | (with_reducible refine GL.drewN ?_ _) | (with_reducible refine GL.drew ?_))); rintro e aX ⟨rfl, hb⟩; refine ⟨_, rfl, ?_⟩; have ab := aj (blk_below aa.out hb); have ac := aj (below_step HB.out hb); clear aa; clear HB; have aa := ab; have HB := ac; clear ab ac; (try clear hb); (try clear hb2); (try clear hk); (try clear hi); have a8 : aX.cell? ⟨ag, 0, none⟩ = some (.int .u64 ad) := bq_ aa 0; have a9 : aX.cell? ⟨ag, 1, none⟩ = some (.int .u64 ae) := bq_ aa 1; have ba := blk_frozen aa.out 0; have bb := blk_frozen aa.out 1) | (go_at_call 47; (with_reducible refine (tree_opens.calls a0 a2 ad ae _ _ l4 true _ ?side1 ?side2 ?side3 ay.out).mono ?_); (case side1 => exact (Kd.C_below aw.out HB.out)); (case side2 => exact ax.out); (case side3 => repeat (first | exact (GL.below HRG.out HB.out) | (with_reducible refine GL.alloc ?_ _) | (with_reducible refine GL.drewN ?_ _) | (with_reducible refine GL.drew ?_))); rintro e bv ⟨rfl, hb⟩; have ab := aj (blk_below aa.out hb); have ac := aj (below_step HB.out hb); clear aa; clear HB; have aa := ab; have HB := ac; clear ab ac; (try clear hb); (try clear hb2); (try clear hk); (try clear hi)) | (go_at_call 39; (with_reducible refine (tree_proper.calls a0 _ _ l1 true _ ?side1 ?side2 ?side3 aD.out).mono ?_); (case side1 => exact (Kd.C_below aC.out HB.out)); (case side2 => exact aG.out); (case side3 => repeat (first | exact (GL.below HRG.out HB.out) | (with_reducible refine GL.alloc ?_ _) | (with_reducible refine GL.drewN ?_ _) | (with_reducible refine GL.drew ?_))); rintro e bw ⟨rfl, hb⟩; have ab := aj (blk_below aa.out hb); have ac := aj (below_step HB.out hb); clear aa; clear HB; have aa := ab; have HB := ac; clear ab ac; (try clear hb); (try clear hb2); (try clear hk); (try clear hi)))
      go_ret
      exact ⟨by first | rfl | (simp [errW_none, errW_some] <;> rfl) | (simp only [← al]; first | rfl | (simp [errW_none, errW_some] <;> rfl)) | (simp [*, errW_none, errW_some] <;> rfl), HB.out⟩
     ·rw [if_neg aA] at H
      have c21b0 : decide ((l1.length : Int) ≤ (af)) = false := decide_eq_false aA
      clear aA
      replace H := Option.bind_eq_some_iff.mp H
      obtain ⟨⟨aO, aP⟩, aQ, H⟩ := H
      replace H : (if 0 ≤ (af) then (if (af) < (l1.length : Int) then (some (aO == ((rd_T36 l1 (af)).f0) && (aP == ((rd_T36 l1 (af)).f1)))) else (none)) else (none)) = some r := H
      have bo := aj aQ
      clear aQ
      by_cases aJ : 0 ≤ (af)
      ·rw [if_pos aJ] at H
       have c28b0 : decide (0 ≤ (af)) = true := decide_eq_true aJ
       clear aJ
       by_cases aK : (af) < (l1.length : Int)
       ·rw [if_pos aK] at H
        have c29b0 : decide ((af) < (l1.length : Int)) = true := decide_eq_true aK
        clear aK
        obtain rfl := Option.some.inj H
        go_enter Tryd.func26, Tryd.ntmps26
        try go_wp2_with (first | ((with_reducible refine gate_dst (N := 8) rfl ?_); (try (refine gate_guard (by rfl) ?_; dsimp only)); refine box_event ?hg (N := 8) ?hd (cs := #[.int .u64 ad, .int .u64 ae]) (t := 36) ?hr ?_; (case hd => rfl); (case hg => rfl); (case hr => first | (go_simp; done) | (go_simp; rfl)); intro ag hg bx hbox hb; have ab := aj (below_step HB.out hb); have ac := aj (hbox); have ak := aj ((by rw [hg]; exact (below_size HB.out) : w.heap.size ≤ ag)); clear HB; have HB := ab; have aa := ac; have au := ak; clear ab ac ak; clear hb hbox hg) | ((with_reducible refine gate_callee (f := 37) rfl ?_); refine goesL_ (some 14) rfl rfl Tryd.func37 (by kernel_rfl) rfl #[.int .i64 (l1.length : Int)] rfl (by (try simp only [List.map_toArray, List.map_cons, List.map_nil]); first | done | rfl | (go_simp; done)) ?_; (with_reducible refine (tree_height.calls (l1.length : Int) ah _ ?side1 A6.out).mono ?_); (case side1 => repeat (first | exact (GL.below HRG.out HB.out) | (with_reducible refine GL.alloc ?_ _) | (with_reducible refine GL.drewN ?_ _) | (with_reducible refine GL.drew ?_))); rintro e aY ⟨rfl, hb⟩; refine ⟨_, rfl, ?_⟩; have ab := aj (blk_below aa.out hb); have ac := aj (below_step HB.out hb); clear aa; clear HB; have aa := ab; have HB := ac; clear ab ac; (try clear hb); (try clear hb2); (try clear hk); (try clear hi); have bc : aY.cell? ⟨ag, 0, none⟩ = some (.int .u64 ad) := bq_ aa 0; have bd : aY.cell? ⟨ag, 1, none⟩ = some (.int .u64 ae) := bq_ aa 1; have be := blk_frozen aa.out 0; have bf := blk_frozen aa.out 1) | (go_at_call 47; (with_reducible refine (tree_opens.calls a0 a2 ad ae _ _ l4 true _ ?side1 ?side2 ?side3 ay.out).mono ?_); (case side1 => exact (Kd.C_below aw.out HB.out)); (case side2 => exact ax.out); (case side3 => repeat (first | exact (GL.below HRG.out HB.out) | (with_reducible refine GL.alloc ?_ _) | (with_reducible refine GL.drewN ?_ _) | (with_reducible refine GL.drew ?_))); rintro e bz ⟨rfl, hb⟩; have ab := aj (blk_below aa.out hb); have ac := aj (below_step HB.out hb); clear aa; clear HB; have aa := ab; have HB := ac; clear ab ac; (try clear hb); (try clear hb2); (try clear hk); (try clear hi)) | (go_at_call 39; (with_reducible refine (tree_proper.calls a0 _ _ l1 true _ ?side1 ?side2 ?side3 aD.out).mono ?_); (case side1 => exact (Kd.C_below aC.out HB.out)); (case side2 => exact aG.out); (case side3 => repeat (first | exact (GL.below HRG.out HB.out) | (with_reducible refine GL.alloc ?_ _) | (with_reducible refine GL.drewN ?_ _) | (with_reducible refine GL.drew ?_))); rintro e bp ⟨rfl, hb⟩; have ab := aj (blk_below aa.out hb); have ac := aj (below_step HB.out hb); clear aa; clear HB; have aa := ab; have HB := ac; clear ab ac; (try clear hb); (try clear hb2); (try clear hk); (try clear hi)))
        have ab := aj (blk_drew aa.out)
        have ac := aj (below_drew1 HB.out)
        clear aa
        clear HB
        have aa := ab
        have HB := ac
        have aE : 0 ≤ ((af) : Int) := of_decide_eq_true (by assumption)
        have aF : (af) < (l1.length : Int) := of_decide_eq_true (by assumption)
        obtain ⟨aB, a3, am, ao⟩ := at_T36 aC.out (af) aE aF
        have ap := ao
        have aq := am
        cases a3
        replace am := (HB.out.cell (World.block_lt_of_cell? w _ am)).trans am
        replace ao := (HB.out.cell (World.block_lt_of_cell? w _ ao)).trans ao
        replace aE := eq_true aE
        replace aF := eq_true aF
        refine start_ (n := 14) (S := fun w' => w'.cell? ⟨ag, 0, none⟩ = some (.int .u64 ad) ∧ w'.cell? ⟨ag, 1, none⟩ = some (.int .u64 ae) ∧ w'.cell? (aB.add (((af)).toNat * 2)) = some (.int .u64 ((rd_T36 l1 (af)).f0)) ∧ w'.cell? ⟨(aB.add (((af)).toNat * 2)).block, (aB.add (((af)).toNat * 2)).off + 1, none⟩ = some (.int .u64 ((rd_T36 l1 (af)).f1))) (ds := []) z26_0_ (by kernel_rfl) rfl rfl ⟨bq_ aa 0, bq_ aa 1, ((HB.out.cell (World.block_lt_of_cell? w _ aq)).trans aq), ((HB.out.cell (World.block_lt_of_cell? w _ ap)).trans ap)⟩ (fun hL => ?_); refine with_tabW tree_Check.tab4 tree_Check.bits4 (fun T_ W_ => ?_)
        generalize bp.drew = bA at aa HB am ao hL ⊢
        refine pz_ 0 47 z26_1_ ?_
        refine pz_ 1 48 z26_2_ ?_
        refine pz_ 3 50 z26_3_ ?_
        refine pz_ 5 52 z26_4_ ?_
        refine pz_ 6 53 z26_5_ ?_
        refine pz_ 7 54 z26_6_ ?_
        refine pz_ 8 55 z26_7_ ?_
        refine pz_ 9 56 z26_8_ ?_
        refine pz_ 10 57 z26_9_ ?_
        refine tz_ 2 49 z26_10_ ?_
        refine tz_ 11 58 z26_11_ ?_
        refine one_ (i := 4) (N := some 51) z26_12_ rfl rfl (on_ T_) (by decide) (fun K hK => ?_)
        refine goes_ Tryd.func48 (by kernel_rfl) rfl #[.int .i64 a0, .int .i64 a2, .agg #[.int .u64 ad, .int .u64 ae], .slice A4 l4.length c4] (by rfl) rfl rfl (by (try simp only [List.map_toArray, List.map_cons, List.map_nil]); first | done | rfl | (go_simp; done)) ?_
        with_reducible refine (tree_climb.calls a0 a2 ad ae _ _ l4 aO aP _ ?side1 ?side2 ?side3 bo.out).mono ?_
        (case side1 => exact (Kd.C_below aw.out HB.out))
        (case side2 => exact ax.out)
        (case side3 => repeat (first | exact (GL.below HRG.out HB.out) | (with_reducible refine GL.alloc ?_ _) | (with_reducible refine GL.drewN ?_ _) | (with_reducible refine GL.drew ?_)))
        rintro e bB ⟨rfl, hb⟩
        refine ⟨_, rfl, ?_⟩
        have ab := aj (blk_below aa.out hb)
        have ac := aj (below_step HB.out hb)
        clear aa
        clear HB
        have aa := ab
        have HB := ac
        refine hK.out _ _ ⟨bq_ aa 0, bq_ aa 1, ((HB.out.cell (World.block_lt_of_cell? w _ aq)).trans aq), ((HB.out.cell (World.block_lt_of_cell? w _ ap)).trans ap)⟩ (fun hL => ?_)
        clear hK K
        refine norm_ (a' := ?_) ?_ ?_
        rotate_left
        ·show Act.put _ (some 51) _ = _
         simp only [Act.put, sa_, sb_, sc_, i64_w, i32_w]
         rfl
        refine pz_ 12 59 z26_13_ ?_
        refine pz_ 13 10 z26_14_ ?_
        refine done_ (done_of T_.out (by kernel_rfl)) ?_
        try go_wp2
        go_ret
        exact ⟨by first | rfl | (simp [errW_none, errW_some] <;> rfl) | (simp only [← al]; first | rfl | (simp [errW_none, errW_some] <;> rfl)) | (simp [*, errW_none, errW_some] <;> rfl), HB.out⟩
       ·rw [if_neg aK] at H
        exact absurd H (by simp)
      ·rw [if_neg aJ] at H
       exact absurd H (by simp)
   ·replace aI := Bool.eq_false_iff.mpr aI
    subst aI
    have H1 : (some false) = some r := by rw [if_neg (show ¬ (false = true) by decide)] at H; exact H
    clear H
    have H := H1
    clear H1
    obtain rfl := Option.some.inj H
    go_enter Tryd.func26, Tryd.ntmps26
    go_wp2_with (first | ((with_reducible refine gate_dst (N := 8) rfl ?_); (try (refine gate_guard (by rfl) ?_; dsimp only)); refine box_event ?hg (N := 8) ?hd (cs := #[.int .u64 ad, .int .u64 ae]) (t := 36) ?hr ?_; (case hd => rfl); (case hg => rfl); (case hr => first | (go_simp; done) | (go_simp; rfl)); intro ag hg bC hbox hb; have ab := aj (below_step HB.out hb); have ac := aj (hbox); have ak := aj ((by rw [hg]; exact (below_size HB.out) : w.heap.size ≤ ag)); clear HB; have HB := ab; have aa := ac; have au := ak; clear ab ac ak; clear hb hbox hg) | ((with_reducible refine gate_callee (f := 37) rfl ?_); refine goesL_ (some 14) rfl rfl Tryd.func37 (by kernel_rfl) rfl #[.int .i64 (l1.length : Int)] rfl (by (try simp only [List.map_toArray, List.map_cons, List.map_nil]); first | done | rfl | (go_simp; done)) ?_; (with_reducible refine (tree_height.calls (l1.length : Int) ah _ ?side1 A6.out).mono ?_); (case side1 => repeat (first | exact (GL.below HRG.out HB.out) | (with_reducible refine GL.alloc ?_ _) | (with_reducible refine GL.drewN ?_ _) | (with_reducible refine GL.drew ?_))); rintro e aZ ⟨rfl, hb⟩; refine ⟨_, rfl, ?_⟩; have ab := aj (blk_below aa.out hb); have ac := aj (below_step HB.out hb); clear aa; clear HB; have aa := ab; have HB := ac; clear ab ac; (try clear hb); (try clear hb2); (try clear hk); (try clear hi); have bg : aZ.cell? ⟨ag, 0, none⟩ = some (.int .u64 ad) := bq_ aa 0; have bh : aZ.cell? ⟨ag, 1, none⟩ = some (.int .u64 ae) := bq_ aa 1; have bi := blk_frozen aa.out 0; have bj := blk_frozen aa.out 1) | (go_at_call 47; (with_reducible refine (tree_opens.calls a0 a2 ad ae _ _ l4 true _ ?side1 ?side2 ?side3 ay.out).mono ?_); (case side1 => exact (Kd.C_below aw.out HB.out)); (case side2 => exact ax.out); (case side3 => repeat (first | exact (GL.below HRG.out HB.out) | (with_reducible refine GL.alloc ?_ _) | (with_reducible refine GL.drewN ?_ _) | (with_reducible refine GL.drew ?_))); rintro e bD ⟨rfl, hb⟩; have ab := aj (blk_below aa.out hb); have ac := aj (below_step HB.out hb); clear aa; clear HB; have aa := ab; have HB := ac; clear ab ac; (try clear hb); (try clear hb2); (try clear hk); (try clear hi)) | (go_at_call 39; (with_reducible refine (tree_proper.calls a0 _ _ l1 false _ ?side1 ?side2 ?side3 aD.out).mono ?_); (case side1 => exact (Kd.C_below aC.out HB.out)); (case side2 => exact aG.out); (case side3 => repeat (first | exact (GL.below HRG.out HB.out) | (with_reducible refine GL.alloc ?_ _) | (with_reducible refine GL.drewN ?_ _) | (with_reducible refine GL.drew ?_))); rintro e bE ⟨rfl, hb⟩; have ab := aj (blk_below aa.out hb); have ac := aj (below_step HB.out hb); clear aa; clear HB; have aa := ab; have HB := ac; clear ab ac; (try clear hb); (try clear hb2); (try clear hk); (try clear hi)))
    go_ret
    exact ⟨by first | rfl | (simp [errW_none, errW_some] <;> rfl) | (simp [*, errW_none, errW_some] <;> rfl), HB.out⟩
  ·replace aH := Bool.eq_false_iff.mpr aH
   subst aH
   have H1 : (some false) = some r := by rw [if_neg (show ¬ (false = true) by decide)] at H; exact H
   clear H
   have H := H1
   clear H1
   obtain rfl := Option.some.inj H
   go_enter Tryd.func26, Tryd.ntmps26
   go_wp2_with (first | ((with_reducible refine gate_dst (N := 8) rfl ?_); (try (refine gate_guard (by rfl) ?_; dsimp only)); refine box_event ?hg (N := 8) ?hd (cs := #[.int .u64 ad, .int .u64 ae]) (t := 36) ?hr ?_; (case hd => rfl); (case hg => rfl); (case hr => first | (go_simp; done) | (go_simp; rfl)); intro ag hg bF hbox hb; have ab := aj (below_step HB.out hb); have ac := aj (hbox); have ak := aj ((by rw [hg]; exact (below_size HB.out) : w.heap.size ≤ ag)); clear HB; have HB := ab; have aa := ac; have au := ak; clear ab ac ak; clear hb hbox hg) | ((with_reducible refine gate_callee (f := 37) rfl ?_); refine goesL_ (some 14) rfl rfl Tryd.func37 (by kernel_rfl) rfl #[.int .i64 (l1.length : Int)] rfl (by (try simp only [List.map_toArray, List.map_cons, List.map_nil]); first | done | rfl | (go_simp; done)) ?_; (with_reducible refine (tree_height.calls (l1.length : Int) ah _ ?side1 A6.out).mono ?_); (case side1 => repeat (first | exact (GL.below HRG.out HB.out) | (with_reducible refine GL.alloc ?_ _) | (with_reducible refine GL.drewN ?_ _) | (with_reducible refine GL.drew ?_))); rintro e a1 ⟨rfl, hb⟩; refine ⟨_, rfl, ?_⟩; have ab := aj (blk_below aa.out hb); have ac := aj (below_step HB.out hb); clear aa; clear HB; have aa := ab; have HB := ac; clear ab ac; (try clear hb); (try clear hb2); (try clear hk); (try clear hi); have bk : a1.cell? ⟨ag, 0, none⟩ = some (.int .u64 ad) := bq_ aa 0; have bl : a1.cell? ⟨ag, 1, none⟩ = some (.int .u64 ae) := bq_ aa 1; have bm := blk_frozen aa.out 0; have bn := blk_frozen aa.out 1) | (go_at_call 47; (with_reducible refine (tree_opens.calls a0 a2 ad ae _ _ l4 false _ ?side1 ?side2 ?side3 ay.out).mono ?_); (case side1 => exact (Kd.C_below aw.out HB.out)); (case side2 => exact ax.out); (case side3 => repeat (first | exact (GL.below HRG.out HB.out) | (with_reducible refine GL.alloc ?_ _) | (with_reducible refine GL.drewN ?_ _) | (with_reducible refine GL.drew ?_))); rintro e bG ⟨rfl, hb⟩; have ab := aj (blk_below aa.out hb); have ac := aj (below_step HB.out hb); clear aa; clear HB; have aa := ab; have HB := ac; clear ab ac; (try clear hb); (try clear hb2); (try clear hk); (try clear hi)))
   go_ret
   exact ⟨by first | rfl | (simp [errW_none, errW_some] <;> rfl) | (simp [*, errW_none, errW_some] <;> rfl), HB.out⟩

end Go.Proofs.YtpnpmeogffodgaaDoor.Q
end
section
namespace Go.Proofs.YtpnpmeogffodgaaDoor.Q
open Go.RowKit
set_option linter.unusedVariables false
set_option linter.unusedSimpArgs false
/-- What is shown of operations outside a round holds in a round, where none of them is a defer statement and nothing is let out. -/
theorem listIn_of_list {P : Program} {ops : Array Oper} {Q : Exit → Act → World → Prop} (l n : Nat) (hQ : ¬ LetsOut Q) : ∀ (rest : List Oper) (a : Act) (w : World), (∀ o ∈ rest, ∀ c, o.op ≠ .defer c) → wpList P ops Q rest a w → wpListIn (Fence.wide.inRound l) n P ops Q rest a w
  | [], a, w, _, h => h
  | o :: rest, a, w, hd, h => by
    have ih := fun (a : Act) (w : World) (h : wpList P ops Q rest a w) => listIn_of_list (P := P) (ops := ops) l n hQ rest a w (fun o ho => hd o (List.mem_cons_of_mem _ ho)) h
    unfold wpList at h
    unfold wpListIn
    split at h
    · rename_i hw
      rw [if_pos hw]
      rcases h with h | ⟨_, h⟩
      · refine ⟨fun f _ => trivial, ?_⟩
        rw [show (Fence.wide.inRound l).round = some l from rfl, Oper.semAt_some l _ _ (hd o (List.mem_cons_self ..))]
        unfold Oper.wp at h
        generalize (execOp a.eval o).run P w = res at h ⊢
        cases res with
        | ok nx w1 =>
          cases nx with
          | value v => exact ih _ _ h
          | skip => exact ih _ _ h
          | defer d => exact ih _ _ h
          | enter f args =>
            refine ⟨fun h => (by cases h), CallsIn.inRound l (callsIn_wide.2 (Calls.mono h ?_))⟩
            intro e w2 h2
            cases e with
            | returned v => exact ih _ _ h2
            | panicked c => exact h2
            | outgrown => exact h2
          | row r args =>
            refine ⟨fun h => (by cases h), fun c cs _ => ?_⟩
            obtain ⟨v, w2, hr, hs⟩ := h c cs
            exact ⟨v, w2, ih _ _ hr, by rw [fenced_inRound]; exact stepsIn_wide.2 hs⟩
          | _ => exact h.elim
        | halt hl w1 =>
          cases hl <;> first | exact h | exact h.elim
      · exact (hQ h).elim
    · rename_i hw
      rw [if_neg hw]
      exact ⟨fun f _ => trivial, ih _ _ h⟩
/-- An iterator that hands out, round by round, values whose rows are xs (each, when it is handed out, as Row says: its own memory is none that lay when the round before was over, where the heap had N objects); whatever the loop keeps between two rounds it keeps. -/
def IterRows {β : Type} (P : Program) (gf : Nat) (lb : Array Value) (Row : β → Value → Nat → World → Prop) (Kp : World → World → Prop) (xs : List β) (w : World) : Prop :=
  ∀ (l : Nat) (J : List β → Nat → World → Prop) (W : World), Below w.heap.size w W → (∀ s N A B, J s N A → Below A.heap.size A B → J s N B) →
    (∀ pre v x N W1, J pre N W1 → w.heap.size ≤ N → N ≤ W1.heap.size → pre ++ [x] <+: xs → Row x v N W1 → YieldAt Fence.wide 5 P l #[v] W1 fun e W' => e = .returned (.bool true) ∧ J (pre ++ [x]) W'.heap.size W' ∧ Kp W1 W') →
    J [] W.heap.size W → Calls P gf (#[.func (.yield l) #[] #[]] ++ lb) W fun e W' => (∃ v, e = .returned v) ∧ ∃ N, J xs N W'
theorem foldl_one (p : Tmp) (v : Value) (tm : Array Value) : ((#[p] : Array Tmp).zip #[v]).foldl (fun t (p, v) => t.setIfInBounds p v) tm = tm.setIfInBounds p v := by simp
theorem grown_of_below {W W' : World} (h : Below W.heap.size W W') : W.grownBy W' none := ⟨h.os, h.tape, h.output, h.size, fun k hk _ => h.block k hk⟩
theorem rangeFunc_rows {β : Type} {P : Program} {g : Operand} {p : Tmp} {assign body : Code} {Q : Exit → Act → World → Prop} {a : Act} {w : World} {gf : Nat} {lb : Array Value}
    (hg : a.eval g = .func (.func gf) #[] lb) (eg : ∀ args w, (callFunc gf args).run P w = .ok (.enter gf args) w)
    {Row : β → Value → Nat → World → Prop} {Kp : World → World → Prop} {xs : List β} (hseq : IterRows P gf lb Row Kp xs w)
    (hKt : ∀ {A B C : World}, Kp A B → Kp B C → Kp A C) (hKb : ∀ (W : World) (l : Nat) (o o' : Obj), w.heap.size ≤ l → W.heap[l]? = some o → o.isCells = false → Kp W (W.putObj l o'))
    (I : List β → Nat → World → Prop) (hI : ∀ N, OwnFrom w.heap.size (fun s W => I s N W)) (hR : ∀ x N, OwnFrom w.heap.size (fun v W => Row x v N W)) (h0 : ∀ N, w.heap.size ≤ N → I [] N w) (q : Tmp)
    (hassign : ∀ (l : Nat) (v : Value) (W : World) (K : Act → World → Prop), K { tmps := (a.tmps.setIfInBounds p v).setIfInBounds q v, defers := [] } W →
      assign.wpIn (Fence.wide.inRound l) 5 P (Exit.then K (fun _ _ _ => False)) { tmps := a.tmps.setIfInBounds p v, defers := [] } W)
    (hbody : ∀ (l : Nat) (pre : List β) (v : Value) (x : β) (N : Nat) (W : World), I pre N W → w.heap.size ≤ N → N ≤ W.heap.size → pre ++ [x] <+: xs → Row x v N W →
      body.wpIn (Fence.wide.inRound l) 5 P (fun e _ W' => e = .normal ∧ KeepsFrom w.heap.size W W' ∧ Kp W W' ∧ I (pre ++ [x]) W'.heap.size W') { tmps := (a.tmps.setIfInBounds p v).setIfInBounds q v, defers := [] } W)
    (hdone : ∀ (D N : Nat) (W : World), w.heap.size ≤ D → I xs N W → W.heap[D]? = some (.deferred (some [])) → Q .normal { a with defers := { target := .collected D, args := #[] } :: a.defers } W) :
    (Code.rangeFunc g #[p] assign body).wp P Q a w := by
  refine (wpIn_wide (n := 6)).1 (wpIn_rangeFunc ?_)
  intro fn hfn
  rw [show Fence.wide.round = none from rfl]
  obtain ⟨rec, hrec⟩ : ∃ rec : LoopState → Option Code → Loop, rec = fun st pe => { state := st, pending := pe, fn, tmps := a.tmps, params := #[p], assign, body, defers := w.heap.size } := ⟨_, rfl⟩
  obtain ⟨W1, hW1⟩ : ∃ W1, (w.alloc (.deferred (some []))).alloc (.loop (rec .ready none)) = W1 := ⟨_, rfl⟩
  have hL1 : W1.heap[w.heap.size + 1]? = some (.loop (rec .ready none)) := by
    rw [← hW1]; have := World.alloc_heap_new (w.alloc (.deferred (some []))) (.loop (rec .ready none)); rwa [World.size_alloc] at this
  have hK1 : W1.heap[w.heap.size]? = some (.deferred (some [])) := by
    rw [← hW1]; exact (Below.heap_alloc _ _ _ (by simp)).trans (World.alloc_heap_new w _)
  have hI1 : I [] W1.heap.size W1 := by
    rw [← hW1]
    exact (hI _).alloc _ ((hI _).alloc _ (h0 _ (by simp; omega)))
  have hb1 : Below w.heap.size w W1 := by
    rw [← hW1]; exact ((Below.refl _ w).alloc (Nat.le_refl _) _).alloc (by simp) _
  refine ⟨w.heap.size + 1, [{ target := .collected w.heap.size, args := #[] }], W1, { target := .fn (.func gf) lb, args := #[.func (.yield (w.heap.size + 1)) #[] #[]] }, W1, gf,
    #[.func (.yield (w.heap.size + 1)) #[] #[]] ++ lb, W1, ?_, ?_, ?_, ?_, (fun h => by cases h), ?_⟩
  · rw [← hW1, hrec]; exact run_enterLoop_outer _ _ _ _ _
  · simp only [resolve, hg]
    simp [go_sem]
  · intro f' hf'; trivial
  · simp [invoke, go_sem, eg]
  · refine callsIn_wide.2 ((hseq (w.heap.size + 1)
      (fun pre N W => I pre N W ∧ W.heap[w.heap.size + 1]? = some (.loop (rec .ready none)) ∧ W.heap[w.heap.size]? = some (.deferred (some [])))
      W1 hb1 (fun s N A B (hs : _ ∧ _ ∧ _) hb => ⟨hI N s A B none hs.1 (grown_of_below hb) (fun r e => by cases e), (hb.block _ (Array.getElem?_eq_some_iff.1 hs.2.1).1).trans hs.2.1, (hb.block _ (Array.getElem?_eq_some_iff.1 hs.2.2).1).trans hs.2.2⟩) ?_ ⟨hI1, hL1, hK1⟩).mono ?_)
    · rintro pre v x N W ⟨hi, hl, hk⟩ hNw hNW hpre hrow
      have hlt : w.heap.size + 1 < W.heap.size := (Array.getElem?_eq_some_iff.1 hl).1
      have hy := run_yield (P := P) (args := #[v]) hl (by rw [hrec]; rfl)
      rw [hrec] at hy
      refine ⟨fn, _, assign, body, hy, roundIn_of_wpIn trivial ?_⟩
      dsimp only
      rw [foldl_one]
      refine hassign _ v W _ ?_
      refine ⟨_, run_beginRound hl (by rw [hrec]), ?_⟩
      have hl2 : (W.putObj (w.heap.size + 1) (.loop { rec .ready none with state := .busy })).heap[w.heap.size + 1]? = some (.loop { rec .ready none with state := .busy }) := World.putObj_heap_same hlt
      have hk2 : (W.putObj (w.heap.size + 1) (.loop { rec .ready none with state := .busy })).heap[w.heap.size]? = some (.deferred (some [])) := (World.putObj_heap_other (by omega)).trans hk
      have hw2 : Kp W (W.putObj (w.heap.size + 1) (.loop { rec .ready none with state := .busy })) := hKb _ _ _ _ (by omega) hl rfl
      refine wpIn_mono (hbody _ pre v x N _ ((hI N).putObj _ hi (by omega) hl rfl) hNw (by simpa using hNW) hpre ((hR x N).putObj _ hrow (by omega) hl rfl)) ?_
      rintro e a3 W3 ⟨rfl, hk3, hkp3, hi3⟩
      have hl3 := hk3.same _ _ (by omega) hl2 rfl
      have hr := run_endRound (P := P) none hl3
      have hl4 : (W3.putObj (w.heap.size + 1) (.loop (rec .ready none))).heap[w.heap.size + 1]? = some (.loop (rec .ready none)) := World.putObj_heap_same (Array.getElem?_eq_some_iff.1 hl3).1
      have hk4 : (W3.putObj (w.heap.size + 1) (.loop (rec .ready none))).heap[w.heap.size]? = some (.deferred (some [])) := (World.putObj_heap_other (by omega)).trans (hk3.same _ _ (Nat.le_refl _) hk2 rfl)
      have e4 : W3.putObj (w.heap.size + 1) (.loop (rec .ready none)) = W3.putObj (w.heap.size + 1) (.loop { rec .ready none with state := if (none : Option Code).isNone then .ready else .done, pending := none }) := by rw [hrec]; rfl
      rw [e4] at hl4 hk4
      exact ⟨_, _, hr, rfl, ⟨by have e_ := (hI W3.heap.size).putObj (.loop { rec .ready none with state := if (none : Option Code).isNone then .ready else .done, pending := none }) hi3 (by omega) hl3 rfl; simpa using e_, hl4, hk4⟩, hKt (hKt hw2 hkp3) (hKb _ _ _ _ (by omega) hl3 rfl)⟩
    · rintro e W2 ⟨⟨v, rfl⟩, N, hi, hl, hk⟩
      exact ⟨none, _, by have := run_endLoop (P := P) hl (by rw [hrec]; simp); rw [hrec] at this; exact this, hdone _ N _ (Nat.le_refl _) ((hI N).putObj _ hi (by omega) hl rfl) ((World.putObj_heap_other (by omega)).trans hk)⟩
end Go.Proofs.YtpnpmeogffodgaaDoor.Q
end
section
namespace Go.Proofs.YtpnpmeogffodgaaDoor.Q
open Go.RowKit Go.Proofs.YtpnpmeogffodgaaDoorW.PrintWords Go.Proofs.YtpnpmeogffodgaaDoorW.PrintLast Go.Proofs.YtpnpmeogffodgaaDoorW.PrintMore
set_option linter.unusedVariables false
set_option linter.unusedSimpArgs false
/-- The level above a level. -/
def upL (f : Int) : List S36 → Option (List S36)
  | a :: b :: l => (sponge_Node.f 200 f a.f0 a.f1 b.f0 b.f1).bind fun n => (upL f l).bind fun r => some (⟨n.1, n.2⟩ :: r)
  | _ => some []
/-- The levels from one on, to the first that has not more than top digests. -/
def riseL (f top : Int) : Nat → List S36 → Option (List (List S36))
  | 0, _ => none
  | k + 1, l => if top < (l.length : Int) then (upL f l).bind fun u => (riseL f top k u).bind fun r => some (l :: r) else some [l]
theorem upL_len (f : Int) : ∀ (n : Nat) (l u : List S36), l.length ≤ n → upL f l = some u → u.length = l.length / 2
  | n, [], u, _, h => by simp [upL] at h; subst h; rfl
  | n, [a], u, _, h => by simp [upL] at h; subst h; simp
  | 0, a :: b :: l, u, hn, h => by simp at hn
  | n + 1, a :: b :: l, u, hn, h => by
    simp only [upL] at h
    obtain ⟨m, _, h⟩ := Option.bind_eq_some_iff.mp h
    obtain ⟨r, hr, h⟩ := Option.bind_eq_some_iff.mp h
    obtain rfl := Option.some.inj h
    have := upL_len f n l r (by simp at hn; omega) hr
    simp only [List.length_cons, this]
    omega
theorem up_step (f : Int) (l : List S36) (i : Nat) (u : List S36) (h : upL f (l.drop (2 * i)) = some u) (h2 : 2 * i + 1 < l.length) : ∃ n0 n1 r, sponge_Node.f 200 f (rd_T36 l ((2 * i : Nat) : Int)).f0 (rd_T36 l ((2 * i : Nat) : Int)).f1 (rd_T36 l ((2 * i + 1 : Nat) : Int)).f0 (rd_T36 l ((2 * i + 1 : Nat) : Int)).f1 = some (n0, n1) ∧ upL f (l.drop (2 * (i + 1))) = some r ∧ u = ⟨n0, n1⟩ :: r := by
  rw [List.drop_eq_getElem_cons (by omega), List.drop_eq_getElem_cons h2] at h
  simp only [upL] at h
  obtain ⟨⟨n0, n1⟩, hn, h⟩ := Option.bind_eq_some_iff.mp h
  obtain ⟨r, hr, h⟩ := Option.bind_eq_some_iff.mp h
  have e0 : rd_T36 l ((2 * i : Nat) : Int) = l[2 * i] := by simp only [rd_T36, Int.toNat_natCast]; simp [List.getD, show 2 * i < l.length by omega]
  have e1 : rd_T36 l ((2 * i + 1 : Nat) : Int) = l[2 * i + 1] := by simp only [rd_T36, Int.toNat_natCast]; simp [List.getD, h2]
  exact ⟨n0, n1, r, by rw [e0, e1]; exact hn, hr, (Option.some.inj h).symm⟩
theorem set_mid (dn : List S36) (m : Nat) (x : S36) (h : dn.length < m) : (dn ++ List.replicate (m - dn.length) z36).set dn.length x = (dn ++ [x]) ++ List.replicate (m - (dn.length + 1)) z36 := by
  rw [List.set_append_right _ _ (Nat.le_refl _), Nat.sub_self, show m - dn.length = (m - (dn.length + 1)) + 1 by omega, List.replicate_succ, List.set_cons_zero, List.append_assoc]
  rfl
theorem clone_f (l : List S36) (h : l.length ≤ 1048576) : slices_Clone.f l = some l := by
  unfold slices_Clone.f
  rw [Option.bind_some, if_pos (by rw [List.length_nil]; omega)]
  rfl
/-- What a round keeps: all cells but those of slices of slices and of trees; and what lay when the caller began. -/
def KpT (wb W W' : World) : Prop := Below wb.heap.size W W' ∧ ∀ (k : Nat) (cs : Array Value) (t : TypeId) (fr : Nat × Nat), W.heap[k]? = some (Obj.cells cs t fr) → t ≠ 22 → t ≠ 26 → W'.heap[k]? = some (Obj.cells cs t fr)
/-- A row of digests of its own, as a round is handed it: its memory is none that lay when the heap had N objects. -/
def RowD (x : List S36) (v : Value) (N : Nat) (W : World) : Prop := Kd.R k36 36 W N (fun _ => True) v x
theorem rowD_cells {N : Nat} {W W' : World} {x : List S36} {v : Value} (h : RowD x v N W) (hm : ∀ (k : Nat) (cs : Array Value), W.heap[k]? = some (Obj.cells cs 36 (0, 0)) → W'.heap[k]? = W.heap[k]?) : RowD x v N W' :=
  Kd.R_mono (Kd.R_step (Kd.R_bound h) (fun k hk _ => by
    obtain ⟨_, _, _, q, hq, cs, hc⟩ := hk
    obtain rfl : q = 36 := by simpa [k36, Kd.iso, Kd.pair, Kd.int, Kd.scalar] using hq
    exact hm k cs hc)) (fun _ _ => trivial)
set_option maxHeartbeats 8000000 in
set_option maxRecDepth 100000 in
theorem rise_iter (k : Nat) (f top : Int) (gf gt gl : Nat) (wb w : World) (hG : GL wb) (hb : Below wb.heap.size wb w) (A : Option Addr) (c : Nat) (l : List S36) (hr : Kd.C k36 wb A l.length l) (hc : l.length ≤ c) (hln : l.length ≤ 1048576)
    (bf : w.heap[gf]? = some (Obj.cells #[.int .i64 f] 3 (0, 0))) (bt : w.heap[gt]? = some (Obj.cells #[.int .i64 top] 3 (0, 0))) (bl : w.heap[gl]? = some (Obj.cells #[.slice A l.length c] 22 (0, 0)))
    (xs : List (List S36)) (h : riseL f top k l = some xs) :
    IterRows Tryd.prog 61 #[.pointer (some ⟨gl, 0, none⟩), .pointer (some ⟨gt, 0, none⟩), .pointer (some ⟨gf, 0, none⟩)] RowD (KpT wb) xs w := by
  intro l0 J W hbW hJ hY h0
  have hu36 := Tryd.underlying36
  have HRG := aj hG
  have HR := aj (Kd.C_below hr hb)
  have HC := aj hc
  have HLN := aj hln
  have H' := aj h
  have HB := aj (hb.trans (hbW.mono hb.size))
  have ab := aj (blk_below bf hbW)
  have aa := aj (blk_below bt hbW)
  have HCW := aj (Kd.C_below (Kd.C_below hr hb) hbW)
  have au : W.cell? ⟨gl, 0, none⟩ = some (.slice A l.length c) := (blk_cell (blk_below bl hbW) 0).trans rfl
  have HJ := aj hJ
  have HY := aj hY
  have J0 := aj h0
  replace hbW := aj hbW
  clear hG hr hc hln h hb bf bt bl hJ hY h0 HR
  go_enter Tryd.func61, Tryd.ntmps61
  go_wp2_with (go_at_call 45; (with_reducible refine (slices_Clone.calls _ _ l l _ HCW.out HC.out (clone_f l HLN.out)).mono ?_); rintro e w1 ⟨v0, rfl, ho, hb⟩; have HO := aj (show RowD l v0 W.heap.size w1 from ho); have HNs := aj (⟨hb.size, hbW.out.size, HB.out.size⟩ : W.heap.size ≤ w1.heap.size ∧ w.heap.size ≤ W.heap.size ∧ wb.heap.size ≤ W.heap.size); have DB := aj (below_step HB.out hb); have D_f := aj (blk_below ab.out hb); have D_t := aj (blk_below aa.out hb); have D_J := aj (HJ.out _ _ _ _ J0.out hb); clear HB ab aa J0 ho hb au HCW; have HB := DB; have ab := D_f; have aa := D_t; have J0 := D_J; clear DB D_f D_t D_J)
  go_loopg [5] k (fun kq v5 wr => ∃ (pre : List (List S36)) (lev : List S36) (rest : List (List S36)) (N : Nat), Aside0 (riseL f top kq lev = some rest) ∧ Aside0 (xs = pre ++ rest) ∧ Aside0 (lev.length ≤ 1048576) ∧ Aside0 (RowD lev v5 N wr) ∧ Aside0 (wr.heap[gf]? = some (Obj.cells #[.int .i64 f] 3 (0, 0))) ∧ Aside0 (wr.heap[gt]? = some (Obj.cells #[.int .i64 top] 3 (0, 0))) ∧ Aside0 (Below wb.heap.size wb wr) ∧ Aside0 (J pre N wr) ∧ Aside0 (N ≤ wr.heap.size ∧ w.heap.size ≤ N ∧ wb.heap.size ≤ N))
  case atStart => exact ⟨[], l, xs, W.heap.size, H', ⟨rfl⟩, HLN, HO, ab, aa, HB, J0, HNs⟩
  case round =>
    clear H' HB HO ab aa J0 HLN HC HNs
    obtain ⟨pre, lev, rest, N, HA, HX, HLN, HO, ab, aa, HB, HJp, HNs⟩ := hrel
    cases gk with
    | zero => exact absurd HA.out (by simp [riseL])
    | succ k1 =>
      have H := HA.out
      clear HA
      simp only [riseL] at H
      obtain ⟨A0, c0, rfl, ai, ah⟩ := Kd.R_reads HO.out
      have hpre : pre ++ [lev] <+: xs := by
        rw [HX.out]
        by_cases ht : top < (lev.length : Int)
        · rw [if_pos ht] at H
          obtain ⟨u, _, H⟩ := Option.bind_eq_some_iff.mp H
          obtain ⟨r, _, H⟩ := Option.bind_eq_some_iff.mp H
          obtain rfl := Option.some.inj H
          exact ⟨r, by simp⟩
        · rw [if_neg ht] at H
          obtain rfl := Option.some.inj H
          exact List.prefix_rfl
      obtain ⟨fn, tmps, assign, body, hy, hR⟩ := HY.out pre _ lev N wr HJp.out HNs.out.2.1 HNs.out.1 hpre HO.out
      have HRn := aj hR
      have HH := aj H
      clear hR H hpre ai ah
      have hro : Fence.wide.round = none := rfl
      go_upto_region 1 with (fail)
      by_cases ht : top < (lev.length : Int)
      · have H := HH.out
        clear HH
        rw [if_pos ht] at H
        obtain ⟨u, hu, H⟩ := Option.bind_eq_some_iff.mp H
        obtain ⟨r, hr, H⟩ := Option.bind_eq_some_iff.mp H
        obtain rfl := Option.some.inj H
        have HU := aj hu
        have H' := aj hr
        clear H hu hr
        have ht0 : decide (top < (lev.length : Int)) = true := decide_eq_true ht
        clear ht
        refine (wpIn_wide (n := 6)).1 ?_
        gi_wp2
        refine HRn.out.mono ?_
        rintro e W3 ⟨rfl, hJ3, hk3⟩
        have BK_f := aj (hk3.2 _ _ _ _ ab.out (by decide) (by decide))
        have BK_t := aj (hk3.2 _ _ _ _ aa.out (by decide) (by decide))
        have BH := aj (HB.out.trans hk3.1)
        have HW3 := aj hk3.1.size
        have av := aj (rowD_cells HO.out (fun k cs hc => (hk3.2 _ _ _ _ hc (by decide) (by decide)).trans hc.symm))
        have ak := aj hJ3
        clear ab aa HB HO hJ3 hk3 hy HRn HJp
        have aq := bq_ BK_t 0
        gi_wp2
        have hq : wrap64 ((lev.length : Int) / 2) = ((lev.length / 2 : Nat) : Int) := by have := HLN.out; unfold wrap64; omega
        obtain ⟨m, hm⟩ : ∃ m, m = lev.length / 2 := ⟨_, rfl⟩
        rw [← hm] at hq
        have hum : u.length = m := by rw [hm]; exact upL_len f lev.length lev u (Nat.le_refl _) HU.out
        have hmb : m ≤ 524288 := by have := HLN.out; omega
        have HM := aj hm
        have HMB := aj hmb
        have HUM := aj hum
        have HBW := aj (Below.refl W3.heap.size W3)
        clear hum hm
        go_wp2_with ((with_reducible refine gate_dst (N := 22) rfl ?_); refine Kd.R_make k36 (w0 := W3) W3.heap.size 36 rfl (N := 22) rfl 22 (.tmp 21) (.tmp 21) rfl (m : Int) (by first | rfl | (go_simp; done) | (rw [← hq]; rfl)) (by first | rfl | (go_simp; done) | (rw [← hq]; rfl)) Tryd.underlying22 (.agg #[.int .u64 0, .int .u64 0]) 16 info36 rfl (by decide) (by decide) z36 (ok := fun _ => True) (okp := fun _ => True) (k36_mkM _ _ _ z36) (fun _ hk => hk) trivial (by omega) (by rw [Int.toNat_natCast]; omega) (Below.refl _ _) (Nat.le_refl _) ?_; intro v6 w4 hn hb hg_ hnew_; clear hg_ hnew_; rw [Int.toNat_natCast] at hn; obtain ⟨A6, c6, e6⟩ := Kd.R_slice hn; rw [List.length_replicate] at e6; subst e6; have HN := aj hn; have HBN := aj hb; clear hn hb HBW)
        clear hmb
        go_loopg [25] (m + 1) (fun kq aw w' => ∃ (i : Nat) (dn r : List S36), aw = .int .i64 (i : Int) ∧ Aside0 (kq + i = m + 1) ∧ Aside0 (dn.length = i ∧ u = dn ++ r ∧ upL f (lev.drop (2 * i)) = some r) ∧ Aside0 (Kd.R k36 36 w' W3.heap.size (fun _ => True) (.slice A6 m c6) (dn ++ List.replicate (m - i) z36)) ∧ Aside0 (Below W3.heap.size W3 w'))
        case atStart => exact ⟨0, [], u, rfl, ⟨rfl⟩, ⟨rfl, rfl, HU.out⟩, HN, HBN⟩
        case round =>
          clear HN HBN
          obtain ⟨i, dn, r_, rfl, HK, HD, HN, HBN⟩ := hrel
          by_cases hi : i < m
          · have ax : decide (i < m) = true := decide_eq_true hi
            obtain ⟨k2, rfl⟩ : ∃ k2, gk = k2 + 1 := ⟨gk - 1, by have := HK.out; omega⟩
            have hlen : 2 * i + 1 < lev.length := by have := HM.out; omega
            obtain ⟨hd0, hd1, hd2⟩ := HD.out
            obtain ⟨n0, n1, r2, hnode, hup, ar⟩ := up_step f lev i r_ hd2 hlen
            have A1 := aj hnode
            have HD2 := aj (show (dn ++ [(⟨n0, n1⟩ : S36)]).length = i + 1 ∧ u = (dn ++ [(⟨n0, n1⟩ : S36)]) ++ r2 ∧ upL f (lev.drop (2 * (i + 1))) = some r2 from ⟨by simp [hd0], by rw [hd1, ar]; simp, hup⟩)
            have hdl := aj hd0
            clear hd0 hd1 hd2 hnode hup ar HD
            obtain ⟨j0, hj0⟩ : ∃ j0, 2 * i = j0 := ⟨_, rfl⟩
            obtain ⟨j1, hj1⟩ : ∃ j1, 2 * i + 1 = j1 := ⟨_, rfl⟩
            have hb0 : wrap64 (2 * (i : Int)) = (j0 : Int) := by have := HLN.out; unfold wrap64; omega
            have hb1 : wrap64 ((j0 : Int) + 1) = (j1 : Int) := by have := HLN.out; unfold wrap64; omega
            have hadd : wrap64 ((i : Int) + 1) = ((i + 1 : Nat) : Int) := by have := HLN.out; unfold wrap64; omega
            rw [hj1, hj0] at A1
            obtain ⟨A0', c0', e0', ai, ah⟩ := Kd.R_reads av.out
            injection e0' with ea_ eb_ ec_
            subst ea_; subst ec_; clear eb_
            obtain ⟨ad, ea, ac, ae⟩ := at_T36 ah (j0 : Int) (by omega) (by omega)
            obtain ⟨ad', ea', af, ag⟩ := at_T36 ah (j1 : Int) (by omega) (by omega)
            rw [ea] at ea'
            injection ea' with ea'
            subst ea'
            subst ea
            simp only [Int.toNat_natCast] at ac ae af ag
            have al := World.block_lt_of_cell? W3 _ ac
            have am := World.block_lt_of_cell? W3 _ ae
            have ao := World.block_lt_of_cell? W3 _ af
            have ap := World.block_lt_of_cell? W3 _ ag
            have p0 : (0 ≤ (j0 : Int)) = True := eq_true (by omega)
            have q0 : ((j0 : Int) < (lev.length : Int)) = True := eq_true (by omega)
            have p1 : (0 ≤ (j1 : Int)) = True := eq_true (by omega)
            have q1 : ((j1 : Int) < (lev.length : Int)) = True := eq_true (by omega)
            have p2 : (0 ≤ (i : Int)) = True := eq_true (by omega)
            have q2 : ((i : Int) < (m : Int)) = True := eq_true (by omega)
            have q0n : (j0 < lev.length) = True := eq_true (by omega)
            have q1n : (j1 < lev.length) = True := eq_true (by omega)
            have q2n : (i < m) = True := eq_true hi
            have hl_ : (dn ++ List.replicate (m - i) z36).length = m := by have := hdl.out; simp; omega
            obtain ⟨g6, c6', e6, hb6, ay, cells6, az⟩ := Kd.R_form HN.out (by omega)
            rw [hl_] at e6
            injection e6 with ea_ eb_ ec_
            subst ea_; subst ec_; clear eb_
            have HG6 := aj hb6
            have cf3 := bq_ BK_f 0
            have lf_ := World.block_lt_of_cell? W3 _ cf3
            have hcf := (HBN.out.cell lf_).trans cf3
            replace ac := (HBN.out.cell al).trans ac
            replace ae := (HBN.out.cell am).trans ae
            replace af := (HBN.out.cell ao).trans af
            replace ag := (HBN.out.cell ap).trans ag
            have HL := aj (⟨al, am, ao, ap, lf_⟩ : _ ∧ _ ∧ _ ∧ _ ∧ _)
            clear hb6 ay az cf3 al am ao ap lf_ ai ah aq
            generalize ha0 : (rd_T36 lev (j0 : Int)).f0 = a0 at *
            generalize ha1 : (rd_T36 lev (j0 : Int)).f1 = a1 at *
            generalize hb0' : (rd_T36 lev (j1 : Int)).f0 = b0 at *
            generalize hb1' : (rd_T36 lev (j1 : Int)).f1 = b1 at *
            clear ha0 ha1 hb0' hb1'
            go_upto_region 6 with (fail)
            refine start_ (n := 17) (S := fun w' => w'.cell? ⟨gf, 0, none⟩ = some (.int .i64 f) ∧ w'.cell? (ad.add (j0 * 2)) = some (.int .u64 a0) ∧ w'.cell? ⟨(ad.add (j0 * 2)).block, (ad.add (j0 * 2)).off + 1, none⟩ = some (.int .u64 a1) ∧ w'.cell? (ad.add (j1 * 2)) = some (.int .u64 b0) ∧ w'.cell? ⟨(ad.add (j1 * 2)).block, (ad.add (j1 * 2)).off + 1, none⟩ = some (.int .u64 b1)) (ds := []) #[false, false, false, false, false, false, false, false, false, false, false, false, false, false, false, false, false] (by kernel_rfl) rfl rfl ⟨hcf, ac, ae, af, ag⟩ (fun hHeld => ?_)
            replace HN := aj (Kd.R_drew HN.out)
            replace HBN := aj HBN.out.drew
            generalize wr.drew = w7 at HN HBN hHeld ⊢
            clear hcf ac ae af ag
            refine pure_ (i := 0) (N := some 28) (v := ?_) (a' := ?_) #[true, false, false, false, false, false, false, false, false, false, false, false, false, false, false, false, false] rfl rfl (by kernel_rfl) (fun _ _ _ h => h) (Or.inl ⟨by rfl, ?_⟩) ?_ ?_
            rotate_left
            · intro w'
              go_simp
              with_reducible rfl
            rotate_left
            · simp only [Act.put, List.setIfInBounds_toArray, List.set_cons_zero, List.set_cons_succ, i64_w, i32_w]
              rfl
            refine pure_ (i := 1) (N := some 29) (v := ?_) (a' := ?_) #[true, true, false, false, false, false, false, false, false, false, false, false, false, false, false, false, false] rfl rfl (by kernel_rfl) (fun _ _ _ h => h) (Or.inl ⟨by rfl, ?_⟩) ?_ ?_
            rotate_left
            · intro w'
              go_simp
              with_reducible rfl
            rotate_left
            · simp only [Act.put, List.setIfInBounds_toArray, List.set_cons_zero, List.set_cons_succ, i64_w, i32_w]
              rfl
            refine pure_ (i := 3) (N := some 31) (v := ?_) (a' := ?_) #[true, true, false, true, false, false, false, false, false, false, false, false, false, false, false, false, false] rfl rfl (by kernel_rfl) (fun _ _ _ h => h) (Or.inl ⟨by rfl, ?_⟩) ?_ ?_
            rotate_left
            · intro w'
              go_simp
              with_reducible rfl
            rotate_left
            · simp only [Act.put, List.setIfInBounds_toArray, List.set_cons_zero, List.set_cons_succ, i64_w, i32_w]
              rfl
            refine pure_ (i := 4) (N := some 32) (v := ?_) (a' := ?_) #[true, true, false, true, true, false, false, false, false, false, false, false, false, false, false, false, false] rfl rfl (by kernel_rfl) (fun _ _ _ h => h) (Or.inl ⟨by rfl, ?_⟩) ?_ ?_
            rotate_left
            · intro w'
              go_simp
              with_reducible rfl
            rotate_left
            · simp only [Act.put, List.setIfInBounds_toArray, List.set_cons_zero, List.set_cons_succ, i64_w, i32_w]
              rfl
            refine pure_ (i := 5) (N := some 33) (v := ?_) (a' := ?_) #[true, true, false, true, true, true, false, false, false, false, false, false, false, false, false, false, false] rfl rfl (by kernel_rfl) (fun _ _ _ h => h) (Or.inl ⟨by rfl, ?_⟩) ?_ ?_
            rotate_left
            · intro w'
              go_simp
              with_reducible rfl
            rotate_left
            · simp only [Act.put, List.setIfInBounds_toArray, List.set_cons_zero, List.set_cons_succ, i64_w, i32_w]
              rfl
            refine pure_ (i := 6) (N := some 34) (v := ?_) (a' := ?_) #[true, true, false, true, true, true, true, false, false, false, false, false, false, false, false, false, false] rfl rfl (by kernel_rfl) (fun _ _ _ h => h) (Or.inl ⟨by rfl, ?_⟩) ?_ ?_
            rotate_left
            · intro w'
              go_simp
              with_reducible rfl
            rotate_left
            · simp only [Act.put, List.setIfInBounds_toArray, List.set_cons_zero, List.set_cons_succ, i64_w, i32_w]
              rfl
            refine pure_ (i := 8) (N := some 36) (v := ?_) (a' := ?_) #[true, true, false, true, true, true, true, false, true, false, false, false, false, false, false, false, false] rfl rfl (by kernel_rfl) (fun _ _ _ h => h) (Or.inl ⟨by rfl, ?_⟩) ?_ ?_
            rotate_left
            · intro w'
              go_simp
              with_reducible rfl
            rotate_left
            · simp only [Act.put, List.setIfInBounds_toArray, List.set_cons_zero, List.set_cons_succ, i64_w, i32_w]
              rfl
            refine pure_ (i := 9) (N := some 37) (v := ?_) (a' := ?_) #[true, true, false, true, true, true, true, false, true, true, false, false, false, false, false, false, false] rfl rfl (by kernel_rfl) (fun _ _ _ h => h) (Or.inl ⟨by rfl, ?_⟩) ?_ ?_
            rotate_left
            · intro w'
              go_simp
              with_reducible rfl
            rotate_left
            · simp only [Act.put, List.setIfInBounds_toArray, List.set_cons_zero, List.set_cons_succ, i64_w, i32_w]
              rfl
            refine pure_ (i := 10) (N := some 38) (v := ?_) (a' := ?_) #[true, true, false, true, true, true, true, false, true, true, true, false, false, false, false, false, false] rfl rfl (by kernel_rfl) (fun _ _ _ h => h) (Or.inl ⟨by rfl, ?_⟩) ?_ ?_
            rotate_left
            · intro w'
              go_simp
              with_reducible rfl
            rotate_left
            · simp only [Act.put, List.setIfInBounds_toArray, List.set_cons_zero, List.set_cons_succ, i64_w, i32_w]
              rfl
            refine pure_ (i := 11) (N := some 39) (v := ?_) (a' := ?_) #[true, true, false, true, true, true, true, false, true, true, true, true, false, false, false, false, false] rfl rfl (by kernel_rfl) (fun _ _ _ h => h) (Or.inl ⟨by rfl, ?_⟩) ?_ ?_
            rotate_left
            · intro w'
              go_simp
              with_reducible rfl
            rotate_left
            · simp only [Act.put, List.setIfInBounds_toArray, List.set_cons_zero, List.set_cons_succ, i64_w, i32_w]
              rfl
            refine pure_ (i := 12) (N := some 40) (v := ?_) (a' := ?_) #[true, true, false, true, true, true, true, false, true, true, true, true, true, false, false, false, false] rfl rfl (by kernel_rfl) (fun _ _ _ h => h) (Or.inl ⟨by rfl, ?_⟩) ?_ ?_
            rotate_left
            · intro w'
              go_simp
              with_reducible rfl
            rotate_left
            · simp only [Act.put, List.setIfInBounds_toArray, List.set_cons_zero, List.set_cons_succ, i64_w, i32_w]
              rfl
            refine take_ (i := 2) (N := some 30) (v := ?_) (a' := ?_) #[true, true, true, true, true, true, true, false, true, true, true, true, true, false, false, false, false] rfl rfl (by kernel_rfl) (fun _ _ _ h => h) (Or.inl ⟨by rfl, ?_⟩) hHeld ?_ ?_
            rotate_left
            · rintro w' ⟨s0, s1, s2, s3, s4⟩
              go_simp
              with_reducible rfl
            rotate_left
            · simp only [Act.put, List.setIfInBounds_toArray, List.set_cons_zero, List.set_cons_succ, i64_w, i32_w]
              rfl
            refine take_ (i := 7) (N := some 35) (v := ?_) (a' := ?_) #[true, true, true, true, true, true, true, true, true, true, true, true, true, false, false, false, false] rfl rfl (by kernel_rfl) (fun _ _ _ h => h) (Or.inl ⟨by rfl, ?_⟩) hHeld ?_ ?_
            rotate_left
            · rintro w' ⟨s0, s1, s2, s3, s4⟩
              go_simp
              with_reducible rfl
            rotate_left
            · simp only [Act.put, List.setIfInBounds_toArray, List.set_cons_zero, List.set_cons_succ, i64_w, i32_w]
              rfl
            refine take_ (i := 13) (N := some 41) (v := ?_) (a' := ?_) #[true, true, true, true, true, true, true, true, true, true, true, true, true, true, false, false, false] rfl rfl (by kernel_rfl) (fun _ _ _ h => h) (Or.inl ⟨by rfl, ?_⟩) hHeld ?_ ?_
            rotate_left
            · rintro w' ⟨s0, s1, s2, s3, s4⟩
              go_simp
              with_reducible rfl
            rotate_left
            · simp only [Act.put, List.setIfInBounds_toArray, List.set_cons_zero, List.set_cons_succ, i64_w, i32_w]
              rfl
            refine one_ (i := 14) (N := some 42) #[true, true, true, true, true, true, true, true, true, true, true, true, true, true, true, false, false] rfl rfl (by kernel_rfl) (by decide) (fun K hK => ?_)
            refine goes_ Tryd.func36 (by kernel_rfl) rfl #[.int .i64 f, .agg #[.int .u64 a0, .int .u64 a1], .agg #[.int .u64 b0, .int .u64 b1]] (by rfl) rfl rfl (by (try simp only [List.map_toArray, List.map_cons, List.map_nil]); first | done | rfl | (go_simp; done)) ?_
            with_reducible refine (sponge_Node.calls 200 f a0 a1 b0 b1 n0 n1 _ (GL.below HRG.out (below_step BH.out HBN.out)) A1.out).mono ?_
            rintro e w8 ⟨rfl, hb⟩
            refine ⟨_, rfl, ?_⟩
            replace HN := aj (Kd.R_below HN.out hb)
            replace HBN := aj (below_step HBN.out hb)
            refine hK.out _ _ ⟨pw_cell_below hb hHeld.1, pw_cell_below hb hHeld.2.1, pw_cell_below hb hHeld.2.2.1, pw_cell_below hb hHeld.2.2.2.1, pw_cell_below hb hHeld.2.2.2.2⟩ (fun hHeld => ?_)
            clear hK K hb
            refine norm_ (a' := ?_) ?_ ?_
            rotate_left
            · show Act.put _ (some 42) _ = _
              simp only [Act.put, List.setIfInBounds_toArray, List.set_cons_zero, List.set_cons_succ, i64_w, i32_w]
              rfl
            refine pure_ (i := 15) (N := some 43) (v := ?_) (a' := ?_) #[true, true, true, true, true, true, true, true, true, true, true, true, true, true, true, true, false] rfl rfl (by kernel_rfl) (fun _ _ _ h => h) (Or.inl ⟨by rfl, ?_⟩) ?_ ?_
            rotate_left
            · intro w'
              go_simp
              with_reducible rfl
            rotate_left
            · simp only [Act.put, List.setIfInBounds_toArray, List.set_cons_zero, List.set_cons_succ, i64_w, i32_w]
              rfl
            obtain ⟨ce, hcl, hMe, hcc, hfr⟩ := Kd.R_elem HN.out z36 (i : Int) (by omega) (by omega)
            obtain rfl := k36_openM hMe
            have HP := Kd.R_seg HN.out (i : Int) (by omega) (by omega) (seg := [.int .u64 n0, .int .u64 n1]) (j := 0) hcl hcc (show 2 ≤ 2 from by decide) (x' := (⟨n0, n1⟩ : S36)) (k36_mkM _ _ _ (⟨n0, n1⟩ : S36)) (fun _ hk => hk)
            have hz0 := hcc 0 _ rfl
            have hz1 := hcc 1 _ rfl
            have hf0 := hfr 0
            have hf1 := hfr 1
            simp only [show (k36).sz = 2 from rfl, Nat.mul_one, Nat.add_zero, Int.toNat_natCast] at hz0 hz1 hf0 hf1 HP
            refine one_ (i := 16) (N := none) #[true, true, true, true, true, true, true, true, true, true, true, true, true, true, true, true, true] rfl rfl (by kernel_rfl) (by decide) (fun K hK => ?_)
            have ep := add_plain g6 (i * 2)
            refine skip_ (w1 := ?_) (by rfl) rfl ?_ ?_
            rotate_left
            · go_simp
              rfl
            have HP2 := aj (show Kd.R k36 36 ((w8.setCell ⟨g6, i * 2, none⟩ (.int .u64 n0)).setCell ⟨g6, i * 2 + 1, none⟩ (.int .u64 n1)) W3.heap.size (fun _ => True) (.slice (some ⟨g6, 0, none⟩) m c6) ((dn ++ [(⟨n0, n1⟩ : S36)]) ++ List.replicate (m - (i + 1)) z36) from by have hs_ := set_mid dn m ⟨n0, n1⟩ (by have := hdl.out; omega); rw [hdl.out] at hs_; have e_ := HP.1; rw [hs_] at e_; exact e_)
            have HB2 := aj (show Below W3.heap.size W3 ((w8.setCell ⟨g6, i * 2, none⟩ (.int .u64 n0)).setCell ⟨g6, i * 2 + 1, none⟩ (.int .u64 n1)) from below_set (below_set HBN.out HG6.out) HG6.out)
            have hne : ∀ {b : Nat}, b < W3.heap.size → b ≠ g6 := fun h_ => by have := HG6.out; omega
            have hl := HL.out
            refine hK.out _ _ ⟨(cell_far (p := ⟨g6, _, none⟩) (hne hl.2.2.2.2) _).trans ((cell_far (p := ⟨g6, _, none⟩) (hne hl.2.2.2.2) _).trans hHeld.1), (cell_far (p := ⟨g6, _, none⟩) (hne hl.1) _).trans ((cell_far (p := ⟨g6, _, none⟩) (hne hl.1) _).trans hHeld.2.1), (cell_far (p := ⟨g6, _, none⟩) (hne hl.2.1) _).trans ((cell_far (p := ⟨g6, _, none⟩) (hne hl.2.1) _).trans hHeld.2.2.1), (cell_far (p := ⟨g6, _, none⟩) (hne hl.2.2.1) _).trans ((cell_far (p := ⟨g6, _, none⟩) (hne hl.2.2.1) _).trans hHeld.2.2.2.1), (cell_far (p := ⟨g6, _, none⟩) (hne hl.2.2.2.1) _).trans ((cell_far (p := ⟨g6, _, none⟩) (hne hl.2.2.2.1) _).trans hHeld.2.2.2.2)⟩ (fun hHeld => ?_)
            clear hK hHeld hz0 hz1 hf0 hf1 hcc hfr hcl hMe HP
            refine done_ (by kernel_rfl) ?_
            try go_wp2
            go_roundg k2
            case measure => omega
            case rel => exact ⟨i + 1, dn ++ [(⟨n0, n1⟩ : S36)], r2, by first | rw [hadd] | rfl, ⟨by have := HK.out; omega⟩, HD2, HP2, HB2⟩
          · have ax : decide (i < m) = false := decide_eq_false hi
            obtain ⟨hd0, hd1, hd2⟩ := HD.out
            have hmd : m ≤ dn.length := by rw [hd0]; omega
            have hlu := congrArg List.length hd1
            rw [List.length_append, HUM.out] at hlu
            obtain rfl : r_ = [] := List.eq_nil_of_length_eq_zero (by omega)
            rw [List.append_nil] at hd1
            subst hd1
            have HN2 := aj (show RowD u (.slice A6 m c6) W3.heap.size wr from (by have e_ := HN.out; rw [show m - i = 0 by omega, List.replicate_zero, List.append_nil] at e_; exact e_))
            have HNs2 := aj (⟨HBN.out.size, Nat.le_trans (Nat.le_trans HNs.out.2.1 HNs.out.1) HW3.out, BH.out.size⟩ : W3.heap.size ≤ wr.heap.size ∧ w.heap.size ≤ W3.heap.size ∧ wb.heap.size ≤ W3.heap.size)
            clear hd0 hd2 hmd hlu hi HN
            go_wp2
            go_roundg k1
            case measure => omega
            case rel => exact ⟨pre ++ [lev], u, r, W3.heap.size, H', ⟨by rw [HX.out]; simp⟩, ⟨by have := HMB.out; have := HUM.out; omega⟩, HN2, ⟨blk_below BK_f.out HBN.out⟩, ⟨blk_below BK_t.out HBN.out⟩, ⟨below_step BH.out HBN.out⟩, ⟨HJ.out _ _ _ _ ak.out HBN.out⟩, HNs2⟩
      · have H := HH.out
        clear HH
        rw [if_neg ht] at H
        obtain rfl := Option.some.inj H
        have ht0 : decide (top < (lev.length : Int)) = false := decide_eq_false ht
        clear ht H
        refine (wpIn_wide (n := 6)).1 ?_
        gi_wp2
        refine HRn.out.mono ?_
        rintro e W3 ⟨rfl, hJ3, hk3⟩
        have BK_t := aj (hk3.2 _ _ _ _ aa.out (by decide) (by decide))
        have ak := aj hJ3
        clear ab aa HB HO hJ3 hk3 hy HRn HJp
        have aq := bq_ BK_t 0
        gi_wp2
        go_wp2
        go_end0
        exact ⟨⟨_, rfl⟩, _, by rw [HX.out]; exact ak.out⟩
end Go.Proofs.YtpnpmeogffodgaaDoor.Q
end
section
namespace Go.Proofs.YtpnpmeogffodgaaDoor.Q
open Go.RowKit Go.Proofs.YtpnpmeogffodgaaDoorW.PrintWords Go.Proofs.YtpnpmeogffodgaaDoorW.PrintLast Go.Proofs.YtpnpmeogffodgaaDoorW.PrintMore
set_option linter.unusedVariables false
set_option linter.unusedSimpArgs false
set_option maxHeartbeats 2000000 in
theorem rising_calls (f top : Int) (A : Option Addr) (c : Nat) (l : List S36) (w : World) : Calls Tryd.prog 40 #[.int .i64 f, .slice A l.length c, .int .i64 top] w fun e w' => ∃ gf gl gt : Nat, e = .returned (.func (.func 61) #[] #[.pointer (some ⟨gl, 0, none⟩), .pointer (some ⟨gt, 0, none⟩), .pointer (some ⟨gf, 0, none⟩)]) ∧ w.heap.size ≤ gf ∧ w.heap.size ≤ gl ∧ w.heap.size ≤ gt ∧ gf ≠ gt
    ∧ w'.heap[gf]? = some (.cells #[.int .i64 f] 3 (0, 0)) ∧ w'.heap[gl]? = some (.cells #[.slice A l.length c] 22 (0, 0)) ∧ w'.heap[gt]? = some (.cells #[.int .i64 top] 3 (0, 0)) ∧ Below w.heap.size w w' := by
  have hmf : ∀ (fn : Fn) (first cap : Array Value) (w : World), (Instr.makeFunc fn first cap).run Tryd.prog w = .ok (.func fn first cap) w := fun _ _ _ _ => rfl
  obtain ⟨w0, aq⟩ : ∃ w0, w0 = w := ⟨_, rfl⟩
  generalize hSS : (fun _ : Nat => False) = S
  have HS : Aside0 (Stp w0 w S w) := ⟨by rw [aq]; exact Below.refl _ _, Kept.refl _ _⟩
  have HW := aj aq
  clear hSS aq
  go_enter Tryd.func40, Tryd.ntmps40
  go_wp2_with (first
    | ((with_reducible refine gate_dst (N := 3) rfl ?_); refine box_event ?hg (N := 3) ?hd (cs := #[.int .i64 f]) (t := 3) ?hr ?_; (case hd => rfl); (case hg => rfl); (case hr => first | (go_simp; done) | (go_simp; rfl)); intro gf xg w1 y_ hb; skip; have aX := aj (stp_new HS.out xg); replace HS := aj (show Stp w0 w S w1 from stp_below HS.out hb); have au := aj y_; clear xg y_ hb; have ay := bq_ au 0; have az := blk_frozen au.out 0)
    | ((with_reducible refine gate_dst (N := 4) rfl ?_); refine box_event ?hg (N := 4) ?hd (cs := #[.slice A l.length c]) (t := 22) ?hr ?_; (case hd => rfl); (case hg => rfl); (case hr => first | (go_simp; done) | (go_simp; rfl)); intro gl xg w2 y_ hb; clear ay az; have aY := aj (stp_new HS.out xg); replace au := aj (show w2.heap[gf]? = some (.cells #[.int .i64 f] 3 (0, 0)) from blk_below au.out hb); replace HS := aj (show Stp w0 w S w2 from stp_below HS.out hb); have ax := aj y_; clear xg y_ hb; obtain ⟨ay, az⟩ := bc1 au; have aT := bq_ ax 0; have aU := blk_frozen ax.out 0)
    | ((with_reducible refine gate_dst (N := 5) rfl ?_); refine box_event ?hg (N := 5) ?hd (cs := #[.int .i64 top]) (t := 3) ?hr ?_; (case hd => rfl); (case hg => rfl); (case hr => first | (go_simp; done) | (go_simp; rfl)); intro gt xg w3 y_ hb; clear ay az aT aU; have aV := aj (new_ne au.out xg); have aZ := aj (stp_new HS.out xg); replace au := aj (show w3.heap[gf]? = some (.cells #[.int .i64 f] 3 (0, 0)) from blk_below au.out hb); replace ax := aj (show w3.heap[gl]? = some (.cells #[.slice A l.length c] 22 (0, 0)) from blk_below ax.out hb); replace HS := aj (show Stp w0 w S w3 from stp_below HS.out hb); have aE := aj y_; clear xg y_ hb; obtain ⟨ay, az⟩ := bc1 au; obtain ⟨aT, aU⟩ := bc1 ax; have a1 := bq_ aE 0; have a3 := blk_frozen aE.out 0))
  obtain rfl := HW.out
  go_ret
  exact ⟨gf, gl, gt, rfl, aX.out.1, aY.out.1, aZ.out.1, aV.out, au.out, ax.out, aE.out, stp_b HS.out⟩
def tree_Build.f (k : Nat) (a0 : Int) (l1 : List S36) (a2 : Int) : Option (Int × Int × Int × List (List S36) × Int) :=
  (tree_height.f (l1.length : Int)).bind fun h => (field_Valid.f a0).bind fun v => if v = true then (if h < 0 then some (0, 0, 0, [], 1) else if a2 < 0 then some (0, 0, 0, [], 1) else if h < a2 then some (0, 0, 0, [], 1) else (tree_proper.f a0 l1).bind fun p => if p = true then (riseL a0 (shl .i64 1 a2) k l1).bind fun ls => some (a0, h, a2, ls, 0) else some (0, 0, 0, [], 2)) else some (0, 0, 0, [], 1)
theorem riseL.mono (f top : Int) : ∀ k l, LeO (riseL f top k l) (riseL f top (k + 1) l)
  | 0, l => fun r h => by simp [riseL] at h
  | k + 1, l => by
    unfold riseL
    refine LeO.ite ?_ (LeO.refl _)
    refine LeO.bind (LeO.refl _) (fun u => LeO.bind (riseL.mono f top k u) (fun _ => LeO.refl _))
theorem tree_Build.mono : ∀ a0 l1 a2 k, LeO (tree_Build.f k a0 l1 a2) (tree_Build.f (k + 1) a0 l1 a2) := by
  intro a0 l1 a2 k
  unfold tree_Build.f
  repeat' first
  | (with_reducible exact riseL.mono _ _ _ _)
  | (with_reducible exact LeO.refl _)
  | (with_reducible refine LeO.ite ?_ ?_)
  | (with_reducible refine LeO.bind ?_ (fun _ => ?_))
theorem valid_calls (f : Int) (v : Bool) (w : World) (h : field_Valid.f f = some v) : Calls Tryd.prog 38 #[.int .i64 f] w fun e w' => e = .returned (.bool v) ∧ Below w.heap.size w w' := by
  refine (field_Valid.calls f v w h).mono ?_
  rintro e w' ⟨rfl, ⟨n, rfl⟩⟩
  exact ⟨rfl, pw_below_drewN (Below.refl _ _) n⟩
set_option maxHeartbeats 4000000 in
set_option maxRecDepth 100000 in
theorem build_v (a0 a2 h : Int) (A1 : Option Addr) (c1 : Nat) (l1 : List S36) (w : World) (ao : Kd.C k36 w A1 l1.length l1) (ar : l1.length ≤ c1) (hrG : GL w) (hh : tree_height.f (l1.length : Int) = some h) (hv : field_Valid.f a0 = some false) : Calls Tryd.prog 13 #[.int .i64 a0, .slice A1 l1.length c1, .int .i64 a2] w fun e w' => e = .returned (.tuple #[.agg #[.int .i64 0, .int .i64 0, .int .i64 0, .slice none 0 0], .int .i64 1]) ∧ Below w.heap.size w w' := by
  have AV := aj hv
  clear hv
  have hu26 := Tryd.underlying26
  have aA := aj ao
  have aC := aj ar
  have HRG := aj hrG
  have AH := aj hh
  clear ao ar hrG hh
  obtain ⟨w0, aq⟩ : ∃ w0, w0 = w := ⟨_, rfl⟩
  generalize hSS : (fun _ : Nat => False) = S
  have HS : Aside0 (Stp w0 w S w) := ⟨by rw [aq]; exact Below.refl _ _, Kept.refl _ _⟩
  have HW := aj aq
  clear hSS aq
  go_enter Tryd.func13, Tryd.ntmps13
  go_wp2_with (first
    | ((with_reducible refine gate_dst (N := 6) rfl ?_); refine box_event ?hg (N := 6) ?hd (cs := #[.int .i64 0, .int .i64 0, .int .i64 0, .slice none 0 0]) (t := 26) ?hr ?_; (case hd => rfl); (case hg => rfl); (case hr => first | (go_simp; done) | (go_simp; rfl)); intro g6 xg w1 y_ hb; skip; have al := aj (stp_new HS.out xg); replace HS := aj (show Stp w0 w S w1 from stp_below HS.out hb); have aa := aj y_; clear xg y_ hb; have ab := bq_ aa 0; have ac := blk_frozen aa.out 0; have ad := bq_ aa 1; have ae := blk_frozen aa.out 1; have af := bq_ aa 2; have ag := blk_frozen aa.out 2; have ai := bq_ aa 3; have ak := blk_frozen aa.out 3)
    | (go_at_call 37; (with_reducible refine (tree_height.calls _ h _ (GL.below (HW.out ▸ HRG.out) (stp_b HS.out)) AH.out).mono ?_); rintro e w2 ⟨rfl, hb⟩; clear ab ac ad ae af ag ai ak; replace aa := aj (show w2.heap[g6]? = some (.cells #[.int .i64 0, .int .i64 0, .int .i64 0, .slice none 0 0] 26 (0, 0)) from blk_below aa.out hb); replace HS := aj (show Stp w0 w S w2 from stp_below HS.out hb); have ab := bq_ aa 0; have ac := blk_frozen aa.out 0; have ad := bq_ aa 1; have ae := blk_frozen aa.out 1; have af := bq_ aa 2; have ag := blk_frozen aa.out 2; have ai := bq_ aa 3; have ak := blk_frozen aa.out 3)
    | (go_at_call 38; (with_reducible refine (valid_calls a0 _ _ AV.out).mono ?_); rintro e w3 ⟨rfl, hb⟩; clear ab ac ad ae af ag ai ak; replace aa := aj (show w3.heap[g6]? = some (.cells #[.int .i64 0, .int .i64 0, .int .i64 0, .slice none 0 0] 26 (0, 0)) from blk_below aa.out hb); replace HS := aj (show Stp w0 w S w3 from stp_below HS.out hb); have ab := bq_ aa 0; have ac := blk_frozen aa.out 0; have ad := bq_ aa 1; have ae := blk_frozen aa.out 1; have af := bq_ aa 2; have ag := blk_frozen aa.out 2; have ai := bq_ aa 3; have ak := blk_frozen aa.out 3)
    | ((with_reducible refine gate_store (t := 26) (p := 6) rfl ?_); refine store_event (t := 26) (p := 6) (v := .tmp 31) (w1 := ((((w3.setCell ⟨g6, 0, none⟩ (.int .i64 0)).setCell ⟨g6, 1, none⟩ (.int .i64 0)).setCell ⟨g6, 2, none⟩ (.int .i64 0)).setCell ⟨g6, 3, none⟩ (.slice none 0 0))) ?hg ?ho ?hn ?hr ?_; (case ho => rfl); (case hg => rfl); (case hn => rfl); (case hr => first | (go_simp; done) | (go_simp; rfl)); intro w9 hw; clear ab ac ad ae af ag ai ak; replace aa := aj (show w9.heap[g6]? = some (.cells #[.int .i64 0, .int .i64 0, .int .i64 0, .slice none 0 0] 26 (0, 0)) from (by rw [hw]; exact (blk_put (cs := #[.int .i64 0, .int .i64 0, .int .i64 0, .slice none 0 0]) (blk_put (cs := #[.int .i64 0, .int .i64 0, .int .i64 0, .slice none 0 0]) (blk_put (cs := #[.int .i64 0, .int .i64 0, .int .i64 0, .slice none 0 0]) (blk_put (cs := #[.int .i64 0, .int .i64 0, .int .i64 0, .slice none 0 0]) aa.out 0 (.int .i64 0) rfl) 1 (.int .i64 0) rfl) 2 (.int .i64 0) rfl) 3 (.slice none 0 0) rfl))); replace HS := aj (show Stp w0 w S w9 from (by rw [hw]; exact (stp_set (stp_set (stp_set (stp_set HS.out al.out 0 (.int .i64 0)) al.out 1 (.int .i64 0)) al.out 2 (.int .i64 0)) al.out 3 (.slice none 0 0)))); have ab := bq_ aa 0; have ac := blk_frozen aa.out 0; have ad := bq_ aa 1; have ae := blk_frozen aa.out 1; have af := bq_ aa 2; have ag := blk_frozen aa.out 2; have ai := bq_ aa 3; have ak := blk_frozen aa.out 3))
  refine bodyPost_ret (results_ct rfl _ _ g6 26 #[.int .i64 0, .int .i64 0, .int .i64 0, .slice none 0 0] (0, 0) _ rfl aa.out Tryd.underlying26 rfl (by kernel_rfl)) rfl ?_
  obtain rfl := HW.out
  exact ⟨rfl, stp_b HS.out⟩
set_option maxHeartbeats 4000000 in
set_option maxRecDepth 100000 in
theorem build_h (a0 a2 h : Int) (A1 : Option Addr) (c1 : Nat) (l1 : List S36) (w : World) (ao : Kd.C k36 w A1 l1.length l1) (ar : l1.length ≤ c1) (hrG : GL w) (hh : tree_height.f (l1.length : Int) = some h) (hv : field_Valid.f a0 = some true) (d0 : decide (h < 0) = true) : Calls Tryd.prog 13 #[.int .i64 a0, .slice A1 l1.length c1, .int .i64 a2] w fun e w' => e = .returned (.tuple #[.agg #[.int .i64 0, .int .i64 0, .int .i64 0, .slice none 0 0], .int .i64 1]) ∧ Below w.heap.size w w' := by
  have AV := aj hv
  clear hv
  have hu26 := Tryd.underlying26
  have aA := aj ao
  have aC := aj ar
  have HRG := aj hrG
  have AH := aj hh
  clear ao ar hrG hh
  obtain ⟨w0, aq⟩ : ∃ w0, w0 = w := ⟨_, rfl⟩
  generalize hSS : (fun _ : Nat => False) = S
  have HS : Aside0 (Stp w0 w S w) := ⟨by rw [aq]; exact Below.refl _ _, Kept.refl _ _⟩
  have HW := aj aq
  clear hSS aq
  go_enter Tryd.func13, Tryd.ntmps13
  go_wp2_with (first
    | ((with_reducible refine gate_dst (N := 6) rfl ?_); refine box_event ?hg (N := 6) ?hd (cs := #[.int .i64 0, .int .i64 0, .int .i64 0, .slice none 0 0]) (t := 26) ?hr ?_; (case hd => rfl); (case hg => rfl); (case hr => first | (go_simp; done) | (go_simp; rfl)); intro g6 xg w1 y_ hb; skip; have al := aj (stp_new HS.out xg); replace HS := aj (show Stp w0 w S w1 from stp_below HS.out hb); have aa := aj y_; clear xg y_ hb; have ab := bq_ aa 0; have ac := blk_frozen aa.out 0; have ad := bq_ aa 1; have ae := blk_frozen aa.out 1; have af := bq_ aa 2; have ag := blk_frozen aa.out 2; have ai := bq_ aa 3; have ak := blk_frozen aa.out 3)
    | (go_at_call 37; (with_reducible refine (tree_height.calls _ h _ (GL.below (HW.out ▸ HRG.out) (stp_b HS.out)) AH.out).mono ?_); rintro e w2 ⟨rfl, hb⟩; clear ab ac ad ae af ag ai ak; replace aa := aj (show w2.heap[g6]? = some (.cells #[.int .i64 0, .int .i64 0, .int .i64 0, .slice none 0 0] 26 (0, 0)) from blk_below aa.out hb); replace HS := aj (show Stp w0 w S w2 from stp_below HS.out hb); have ab := bq_ aa 0; have ac := blk_frozen aa.out 0; have ad := bq_ aa 1; have ae := blk_frozen aa.out 1; have af := bq_ aa 2; have ag := blk_frozen aa.out 2; have ai := bq_ aa 3; have ak := blk_frozen aa.out 3)
    | (go_at_call 38; (with_reducible refine (valid_calls a0 _ _ AV.out).mono ?_); rintro e w3 ⟨rfl, hb⟩; clear ab ac ad ae af ag ai ak; replace aa := aj (show w3.heap[g6]? = some (.cells #[.int .i64 0, .int .i64 0, .int .i64 0, .slice none 0 0] 26 (0, 0)) from blk_below aa.out hb); replace HS := aj (show Stp w0 w S w3 from stp_below HS.out hb); have ab := bq_ aa 0; have ac := blk_frozen aa.out 0; have ad := bq_ aa 1; have ae := blk_frozen aa.out 1; have af := bq_ aa 2; have ag := blk_frozen aa.out 2; have ai := bq_ aa 3; have ak := blk_frozen aa.out 3)
    | ((with_reducible refine gate_store (t := 26) (p := 6) rfl ?_); refine store_event (t := 26) (p := 6) (v := .tmp 31) (w1 := ((((w3.setCell ⟨g6, 0, none⟩ (.int .i64 0)).setCell ⟨g6, 1, none⟩ (.int .i64 0)).setCell ⟨g6, 2, none⟩ (.int .i64 0)).setCell ⟨g6, 3, none⟩ (.slice none 0 0))) ?hg ?ho ?hn ?hr ?_; (case ho => rfl); (case hg => rfl); (case hn => rfl); (case hr => first | (go_simp; done) | (go_simp; rfl)); intro w9 hw; clear ab ac ad ae af ag ai ak; replace aa := aj (show w9.heap[g6]? = some (.cells #[.int .i64 0, .int .i64 0, .int .i64 0, .slice none 0 0] 26 (0, 0)) from (by rw [hw]; exact (blk_put (cs := #[.int .i64 0, .int .i64 0, .int .i64 0, .slice none 0 0]) (blk_put (cs := #[.int .i64 0, .int .i64 0, .int .i64 0, .slice none 0 0]) (blk_put (cs := #[.int .i64 0, .int .i64 0, .int .i64 0, .slice none 0 0]) (blk_put (cs := #[.int .i64 0, .int .i64 0, .int .i64 0, .slice none 0 0]) aa.out 0 (.int .i64 0) rfl) 1 (.int .i64 0) rfl) 2 (.int .i64 0) rfl) 3 (.slice none 0 0) rfl))); replace HS := aj (show Stp w0 w S w9 from (by rw [hw]; exact (stp_set (stp_set (stp_set (stp_set HS.out al.out 0 (.int .i64 0)) al.out 1 (.int .i64 0)) al.out 2 (.int .i64 0)) al.out 3 (.slice none 0 0)))); have ab := bq_ aa 0; have ac := blk_frozen aa.out 0; have ad := bq_ aa 1; have ae := blk_frozen aa.out 1; have af := bq_ aa 2; have ag := blk_frozen aa.out 2; have ai := bq_ aa 3; have ak := blk_frozen aa.out 3))
  refine bodyPost_ret (results_ct rfl _ _ g6 26 #[.int .i64 0, .int .i64 0, .int .i64 0, .slice none 0 0] (0, 0) _ rfl aa.out Tryd.underlying26 rfl (by kernel_rfl)) rfl ?_
  obtain rfl := HW.out
  exact ⟨rfl, stp_b HS.out⟩
set_option maxHeartbeats 4000000 in
set_option maxRecDepth 100000 in
theorem build_c (a0 a2 h : Int) (A1 : Option Addr) (c1 : Nat) (l1 : List S36) (w : World) (ao : Kd.C k36 w A1 l1.length l1) (ar : l1.length ≤ c1) (hrG : GL w) (hh : tree_height.f (l1.length : Int) = some h) (hv : field_Valid.f a0 = some true) (d0 : decide (h < 0) = false) (d1 : decide (a2 < 0) = true) : Calls Tryd.prog 13 #[.int .i64 a0, .slice A1 l1.length c1, .int .i64 a2] w fun e w' => e = .returned (.tuple #[.agg #[.int .i64 0, .int .i64 0, .int .i64 0, .slice none 0 0], .int .i64 1]) ∧ Below w.heap.size w w' := by
  have AV := aj hv
  clear hv
  have hu26 := Tryd.underlying26
  have aA := aj ao
  have aC := aj ar
  have HRG := aj hrG
  have AH := aj hh
  clear ao ar hrG hh
  obtain ⟨w0, aq⟩ : ∃ w0, w0 = w := ⟨_, rfl⟩
  generalize hSS : (fun _ : Nat => False) = S
  have HS : Aside0 (Stp w0 w S w) := ⟨by rw [aq]; exact Below.refl _ _, Kept.refl _ _⟩
  have HW := aj aq
  clear hSS aq
  go_enter Tryd.func13, Tryd.ntmps13
  go_wp2_with (first
    | ((with_reducible refine gate_dst (N := 6) rfl ?_); refine box_event ?hg (N := 6) ?hd (cs := #[.int .i64 0, .int .i64 0, .int .i64 0, .slice none 0 0]) (t := 26) ?hr ?_; (case hd => rfl); (case hg => rfl); (case hr => first | (go_simp; done) | (go_simp; rfl)); intro g6 xg w1 y_ hb; skip; have al := aj (stp_new HS.out xg); replace HS := aj (show Stp w0 w S w1 from stp_below HS.out hb); have aa := aj y_; clear xg y_ hb; have ab := bq_ aa 0; have ac := blk_frozen aa.out 0; have ad := bq_ aa 1; have ae := blk_frozen aa.out 1; have af := bq_ aa 2; have ag := blk_frozen aa.out 2; have ai := bq_ aa 3; have ak := blk_frozen aa.out 3)
    | (go_at_call 37; (with_reducible refine (tree_height.calls _ h _ (GL.below (HW.out ▸ HRG.out) (stp_b HS.out)) AH.out).mono ?_); rintro e w2 ⟨rfl, hb⟩; clear ab ac ad ae af ag ai ak; replace aa := aj (show w2.heap[g6]? = some (.cells #[.int .i64 0, .int .i64 0, .int .i64 0, .slice none 0 0] 26 (0, 0)) from blk_below aa.out hb); replace HS := aj (show Stp w0 w S w2 from stp_below HS.out hb); have ab := bq_ aa 0; have ac := blk_frozen aa.out 0; have ad := bq_ aa 1; have ae := blk_frozen aa.out 1; have af := bq_ aa 2; have ag := blk_frozen aa.out 2; have ai := bq_ aa 3; have ak := blk_frozen aa.out 3)
    | (go_at_call 38; (with_reducible refine (valid_calls a0 _ _ AV.out).mono ?_); rintro e w3 ⟨rfl, hb⟩; clear ab ac ad ae af ag ai ak; replace aa := aj (show w3.heap[g6]? = some (.cells #[.int .i64 0, .int .i64 0, .int .i64 0, .slice none 0 0] 26 (0, 0)) from blk_below aa.out hb); replace HS := aj (show Stp w0 w S w3 from stp_below HS.out hb); have ab := bq_ aa 0; have ac := blk_frozen aa.out 0; have ad := bq_ aa 1; have ae := blk_frozen aa.out 1; have af := bq_ aa 2; have ag := blk_frozen aa.out 2; have ai := bq_ aa 3; have ak := blk_frozen aa.out 3)
    | ((with_reducible refine gate_store (t := 26) (p := 6) rfl ?_); refine store_event (t := 26) (p := 6) (v := .tmp 31) (w1 := ((((w3.setCell ⟨g6, 0, none⟩ (.int .i64 0)).setCell ⟨g6, 1, none⟩ (.int .i64 0)).setCell ⟨g6, 2, none⟩ (.int .i64 0)).setCell ⟨g6, 3, none⟩ (.slice none 0 0))) ?hg ?ho ?hn ?hr ?_; (case ho => rfl); (case hg => rfl); (case hn => rfl); (case hr => first | (go_simp; done) | (go_simp; rfl)); intro w9 hw; clear ab ac ad ae af ag ai ak; replace aa := aj (show w9.heap[g6]? = some (.cells #[.int .i64 0, .int .i64 0, .int .i64 0, .slice none 0 0] 26 (0, 0)) from (by rw [hw]; exact (blk_put (cs := #[.int .i64 0, .int .i64 0, .int .i64 0, .slice none 0 0]) (blk_put (cs := #[.int .i64 0, .int .i64 0, .int .i64 0, .slice none 0 0]) (blk_put (cs := #[.int .i64 0, .int .i64 0, .int .i64 0, .slice none 0 0]) (blk_put (cs := #[.int .i64 0, .int .i64 0, .int .i64 0, .slice none 0 0]) aa.out 0 (.int .i64 0) rfl) 1 (.int .i64 0) rfl) 2 (.int .i64 0) rfl) 3 (.slice none 0 0) rfl))); replace HS := aj (show Stp w0 w S w9 from (by rw [hw]; exact (stp_set (stp_set (stp_set (stp_set HS.out al.out 0 (.int .i64 0)) al.out 1 (.int .i64 0)) al.out 2 (.int .i64 0)) al.out 3 (.slice none 0 0)))); have ab := bq_ aa 0; have ac := blk_frozen aa.out 0; have ad := bq_ aa 1; have ae := blk_frozen aa.out 1; have af := bq_ aa 2; have ag := blk_frozen aa.out 2; have ai := bq_ aa 3; have ak := blk_frozen aa.out 3))
  refine bodyPost_ret (results_ct rfl _ _ g6 26 #[.int .i64 0, .int .i64 0, .int .i64 0, .slice none 0 0] (0, 0) _ rfl aa.out Tryd.underlying26 rfl (by kernel_rfl)) rfl ?_
  obtain rfl := HW.out
  exact ⟨rfl, stp_b HS.out⟩
set_option maxHeartbeats 4000000 in
set_option maxRecDepth 100000 in
theorem build_k (a0 a2 h : Int) (A1 : Option Addr) (c1 : Nat) (l1 : List S36) (w : World) (ao : Kd.C k36 w A1 l1.length l1) (ar : l1.length ≤ c1) (hrG : GL w) (hh : tree_height.f (l1.length : Int) = some h) (hv : field_Valid.f a0 = some true) (d0 : decide (h < 0) = false) (d1 : decide (a2 < 0) = false) (d2 : decide (h < a2) = true) : Calls Tryd.prog 13 #[.int .i64 a0, .slice A1 l1.length c1, .int .i64 a2] w fun e w' => e = .returned (.tuple #[.agg #[.int .i64 0, .int .i64 0, .int .i64 0, .slice none 0 0], .int .i64 1]) ∧ Below w.heap.size w w' := by
  have AV := aj hv
  clear hv
  have hu26 := Tryd.underlying26
  have aA := aj ao
  have aC := aj ar
  have HRG := aj hrG
  have AH := aj hh
  clear ao ar hrG hh
  obtain ⟨w0, aq⟩ : ∃ w0, w0 = w := ⟨_, rfl⟩
  generalize hSS : (fun _ : Nat => False) = S
  have HS : Aside0 (Stp w0 w S w) := ⟨by rw [aq]; exact Below.refl _ _, Kept.refl _ _⟩
  have HW := aj aq
  clear hSS aq
  go_enter Tryd.func13, Tryd.ntmps13
  go_wp2_with (first
    | ((with_reducible refine gate_dst (N := 6) rfl ?_); refine box_event ?hg (N := 6) ?hd (cs := #[.int .i64 0, .int .i64 0, .int .i64 0, .slice none 0 0]) (t := 26) ?hr ?_; (case hd => rfl); (case hg => rfl); (case hr => first | (go_simp; done) | (go_simp; rfl)); intro g6 xg w1 y_ hb; skip; have al := aj (stp_new HS.out xg); replace HS := aj (show Stp w0 w S w1 from stp_below HS.out hb); have aa := aj y_; clear xg y_ hb; have ab := bq_ aa 0; have ac := blk_frozen aa.out 0; have ad := bq_ aa 1; have ae := blk_frozen aa.out 1; have af := bq_ aa 2; have ag := blk_frozen aa.out 2; have ai := bq_ aa 3; have ak := blk_frozen aa.out 3)
    | (go_at_call 37; (with_reducible refine (tree_height.calls _ h _ (GL.below (HW.out ▸ HRG.out) (stp_b HS.out)) AH.out).mono ?_); rintro e w2 ⟨rfl, hb⟩; clear ab ac ad ae af ag ai ak; replace aa := aj (show w2.heap[g6]? = some (.cells #[.int .i64 0, .int .i64 0, .int .i64 0, .slice none 0 0] 26 (0, 0)) from blk_below aa.out hb); replace HS := aj (show Stp w0 w S w2 from stp_below HS.out hb); have ab := bq_ aa 0; have ac := blk_frozen aa.out 0; have ad := bq_ aa 1; have ae := blk_frozen aa.out 1; have af := bq_ aa 2; have ag := blk_frozen aa.out 2; have ai := bq_ aa 3; have ak := blk_frozen aa.out 3)
    | (go_at_call 38; (with_reducible refine (valid_calls a0 _ _ AV.out).mono ?_); rintro e w3 ⟨rfl, hb⟩; clear ab ac ad ae af ag ai ak; replace aa := aj (show w3.heap[g6]? = some (.cells #[.int .i64 0, .int .i64 0, .int .i64 0, .slice none 0 0] 26 (0, 0)) from blk_below aa.out hb); replace HS := aj (show Stp w0 w S w3 from stp_below HS.out hb); have ab := bq_ aa 0; have ac := blk_frozen aa.out 0; have ad := bq_ aa 1; have ae := blk_frozen aa.out 1; have af := bq_ aa 2; have ag := blk_frozen aa.out 2; have ai := bq_ aa 3; have ak := blk_frozen aa.out 3)
    | ((with_reducible refine gate_store (t := 26) (p := 6) rfl ?_); refine store_event (t := 26) (p := 6) (v := .tmp 31) (w1 := ((((w3.setCell ⟨g6, 0, none⟩ (.int .i64 0)).setCell ⟨g6, 1, none⟩ (.int .i64 0)).setCell ⟨g6, 2, none⟩ (.int .i64 0)).setCell ⟨g6, 3, none⟩ (.slice none 0 0))) ?hg ?ho ?hn ?hr ?_; (case ho => rfl); (case hg => rfl); (case hn => rfl); (case hr => first | (go_simp; done) | (go_simp; rfl)); intro w9 hw; clear ab ac ad ae af ag ai ak; replace aa := aj (show w9.heap[g6]? = some (.cells #[.int .i64 0, .int .i64 0, .int .i64 0, .slice none 0 0] 26 (0, 0)) from (by rw [hw]; exact (blk_put (cs := #[.int .i64 0, .int .i64 0, .int .i64 0, .slice none 0 0]) (blk_put (cs := #[.int .i64 0, .int .i64 0, .int .i64 0, .slice none 0 0]) (blk_put (cs := #[.int .i64 0, .int .i64 0, .int .i64 0, .slice none 0 0]) (blk_put (cs := #[.int .i64 0, .int .i64 0, .int .i64 0, .slice none 0 0]) aa.out 0 (.int .i64 0) rfl) 1 (.int .i64 0) rfl) 2 (.int .i64 0) rfl) 3 (.slice none 0 0) rfl))); replace HS := aj (show Stp w0 w S w9 from (by rw [hw]; exact (stp_set (stp_set (stp_set (stp_set HS.out al.out 0 (.int .i64 0)) al.out 1 (.int .i64 0)) al.out 2 (.int .i64 0)) al.out 3 (.slice none 0 0)))); have ab := bq_ aa 0; have ac := blk_frozen aa.out 0; have ad := bq_ aa 1; have ae := blk_frozen aa.out 1; have af := bq_ aa 2; have ag := blk_frozen aa.out 2; have ai := bq_ aa 3; have ak := blk_frozen aa.out 3))
  refine bodyPost_ret (results_ct rfl _ _ g6 26 #[.int .i64 0, .int .i64 0, .int .i64 0, .slice none 0 0] (0, 0) _ rfl aa.out Tryd.underlying26 rfl (by kernel_rfl)) rfl ?_
  obtain rfl := HW.out
  exact ⟨rfl, stp_b HS.out⟩
set_option maxHeartbeats 4000000 in
set_option maxRecDepth 100000 in
theorem build_p (a0 a2 h : Int) (A1 : Option Addr) (c1 : Nat) (l1 : List S36) (w : World) (ao : Kd.C k36 w A1 l1.length l1) (ar : l1.length ≤ c1) (hrG : GL w) (hh : tree_height.f (l1.length : Int) = some h) (hv : field_Valid.f a0 = some true) (d0 : decide (h < 0) = false) (d1 : decide (a2 < 0) = false) (d2 : decide (h < a2) = false) (hp : tree_proper.f a0 l1 = some false) : Calls Tryd.prog 13 #[.int .i64 a0, .slice A1 l1.length c1, .int .i64 a2] w fun e w' => e = .returned (.tuple #[.agg #[.int .i64 0, .int .i64 0, .int .i64 0, .slice none 0 0], .int .i64 2]) ∧ Below w.heap.size w w' := by
  have AV := aj hv
  clear hv
  have AP := aj hp
  clear hp
  have hu26 := Tryd.underlying26
  have aA := aj ao
  have aC := aj ar
  have HRG := aj hrG
  have AH := aj hh
  clear ao ar hrG hh
  obtain ⟨w0, aq⟩ : ∃ w0, w0 = w := ⟨_, rfl⟩
  generalize hSS : (fun _ : Nat => False) = S
  have HS : Aside0 (Stp w0 w S w) := ⟨by rw [aq]; exact Below.refl _ _, Kept.refl _ _⟩
  have HW := aj aq
  clear hSS aq
  go_enter Tryd.func13, Tryd.ntmps13
  go_wp2_with (first
    | ((with_reducible refine gate_dst (N := 6) rfl ?_); refine box_event ?hg (N := 6) ?hd (cs := #[.int .i64 0, .int .i64 0, .int .i64 0, .slice none 0 0]) (t := 26) ?hr ?_; (case hd => rfl); (case hg => rfl); (case hr => first | (go_simp; done) | (go_simp; rfl)); intro g6 xg w1 y_ hb; skip; have al := aj (stp_new HS.out xg); replace HS := aj (show Stp w0 w S w1 from stp_below HS.out hb); have aa := aj y_; clear xg y_ hb; have ab := bq_ aa 0; have ac := blk_frozen aa.out 0; have ad := bq_ aa 1; have ae := blk_frozen aa.out 1; have af := bq_ aa 2; have ag := blk_frozen aa.out 2; have ai := bq_ aa 3; have ak := blk_frozen aa.out 3)
    | (go_at_call 37; (with_reducible refine (tree_height.calls _ h _ (GL.below (HW.out ▸ HRG.out) (stp_b HS.out)) AH.out).mono ?_); rintro e w2 ⟨rfl, hb⟩; clear ab ac ad ae af ag ai ak; replace aa := aj (show w2.heap[g6]? = some (.cells #[.int .i64 0, .int .i64 0, .int .i64 0, .slice none 0 0] 26 (0, 0)) from blk_below aa.out hb); replace HS := aj (show Stp w0 w S w2 from stp_below HS.out hb); have ab := bq_ aa 0; have ac := blk_frozen aa.out 0; have ad := bq_ aa 1; have ae := blk_frozen aa.out 1; have af := bq_ aa 2; have ag := blk_frozen aa.out 2; have ai := bq_ aa 3; have ak := blk_frozen aa.out 3)
    | (go_at_call 38; (with_reducible refine (valid_calls a0 _ _ AV.out).mono ?_); rintro e w3 ⟨rfl, hb⟩; clear ab ac ad ae af ag ai ak; replace aa := aj (show w3.heap[g6]? = some (.cells #[.int .i64 0, .int .i64 0, .int .i64 0, .slice none 0 0] 26 (0, 0)) from blk_below aa.out hb); replace HS := aj (show Stp w0 w S w3 from stp_below HS.out hb); have ab := bq_ aa 0; have ac := blk_frozen aa.out 0; have ad := bq_ aa 1; have ae := blk_frozen aa.out 1; have af := bq_ aa 2; have ag := blk_frozen aa.out 2; have ai := bq_ aa 3; have ak := blk_frozen aa.out 3)
    | (go_at_call 39; (with_reducible refine (tree_proper.calls a0 _ _ l1 false _ (Kd.C_below aA.out (HW.out ▸ stp_b HS.out)) aC.out (GL.below (HW.out ▸ HRG.out) (stp_b HS.out)) AP.out).mono ?_); rintro e w4 ⟨rfl, hb⟩; clear ab ac ad ae af ag ai ak; replace aa := aj (show w4.heap[g6]? = some (.cells #[.int .i64 0, .int .i64 0, .int .i64 0, .slice none 0 0] 26 (0, 0)) from blk_below aa.out hb); replace HS := aj (show Stp w0 w S w4 from stp_below HS.out hb); have ab := bq_ aa 0; have ac := blk_frozen aa.out 0; have ad := bq_ aa 1; have ae := blk_frozen aa.out 1; have af := bq_ aa 2; have ag := blk_frozen aa.out 2; have ai := bq_ aa 3; have ak := blk_frozen aa.out 3)
    | ((with_reducible refine gate_store (t := 26) (p := 6) rfl ?_); refine store_event (t := 26) (p := 6) (v := .tmp 37) (w1 := ((((w4.setCell ⟨g6, 0, none⟩ (.int .i64 0)).setCell ⟨g6, 1, none⟩ (.int .i64 0)).setCell ⟨g6, 2, none⟩ (.int .i64 0)).setCell ⟨g6, 3, none⟩ (.slice none 0 0))) ?hg ?ho ?hn ?hr ?_; (case ho => rfl); (case hg => rfl); (case hn => rfl); (case hr => first | (go_simp; done) | (go_simp; rfl)); intro w9 hw; clear ab ac ad ae af ag ai ak; replace aa := aj (show w9.heap[g6]? = some (.cells #[.int .i64 0, .int .i64 0, .int .i64 0, .slice none 0 0] 26 (0, 0)) from (by rw [hw]; exact (blk_put (cs := #[.int .i64 0, .int .i64 0, .int .i64 0, .slice none 0 0]) (blk_put (cs := #[.int .i64 0, .int .i64 0, .int .i64 0, .slice none 0 0]) (blk_put (cs := #[.int .i64 0, .int .i64 0, .int .i64 0, .slice none 0 0]) (blk_put (cs := #[.int .i64 0, .int .i64 0, .int .i64 0, .slice none 0 0]) aa.out 0 (.int .i64 0) rfl) 1 (.int .i64 0) rfl) 2 (.int .i64 0) rfl) 3 (.slice none 0 0) rfl))); replace HS := aj (show Stp w0 w S w9 from (by rw [hw]; exact (stp_set (stp_set (stp_set (stp_set HS.out al.out 0 (.int .i64 0)) al.out 1 (.int .i64 0)) al.out 2 (.int .i64 0)) al.out 3 (.slice none 0 0)))); have ab := bq_ aa 0; have ac := blk_frozen aa.out 0; have ad := bq_ aa 1; have ae := blk_frozen aa.out 1; have af := bq_ aa 2; have ag := blk_frozen aa.out 2; have ai := bq_ aa 3; have ak := blk_frozen aa.out 3))
  refine bodyPost_ret (results_ct rfl _ _ g6 26 #[.int .i64 0, .int .i64 0, .int .i64 0, .slice none 0 0] (0, 0) _ rfl aa.out Tryd.underlying26 rfl (by kernel_rfl)) rfl ?_
  obtain rfl := HW.out
  exact ⟨rfl, stp_b HS.out⟩
theorem cells_grown {W W' : World} {row : Option Nat} {B : Nat} (hg : W.grownBy W' row) (hr : ∀ r, row = some r → B ≤ r ∧ ∃ o : Obj, W.heap[r]? = some o ∧ o.isCells = false) {k : Nat} {cs : Array Value} {t : TypeId} {fr : Nat × Nat} (hc : W.heap[k]? = some (Obj.cells cs t fr)) : W'.heap[k]? = some (Obj.cells cs t fr) :=
  (hg.block k (Array.getElem?_eq_some_iff.1 hc).1 (fun e => by
    obtain ⟨_, o, ho, hn⟩ := hr k e.symm
    rw [hc] at ho
    obtain rfl := Option.some.inj ho
    exact absurd hn (by simp [Obj.isCells]))).trans hc
theorem s_cells {base : Nat} {ok : Nat → Prop} {W W' : World} {v : Value} {xs : List (List S36)} (h : Kd.S (Kd.slice 36 k36) 22 W base ok v xs) (hm : ∀ (k : Nat) (cs : Array Value) (t : TypeId) (fr : Nat × Nat), W.heap[k]? = some (Obj.cells cs t fr) → W'.heap[k]? = W.heap[k]?) : Kd.S (Kd.slice 36 k36) 22 W' base ok v xs :=
  Kd.S_mono (Kd.S_step (Kd.S_bound h) (fun k hk _ => by
    obtain ⟨_, _, _, q, _, cs, hc⟩ := hk
    exact hm k cs q _ hc)) (fun _ hk => hk.1)
/-- What the loop keeps between two rounds. -/
def LvI (w0 : World) (g6 g9 : Nat) (a0 h a2 : Int) (pre : List (List S36)) (N : Nat) (W : World) : Prop :=
  ∃ v, W.heap[g9]? = some (Obj.cells #[.int .i64 a0, .int .i64 h, .int .i64 a2, v] 26 (0, 0)) ∧ Kd.S (Kd.slice 36 k36) 22 W w0.heap.size (fun k => k < N) v pre ∧ W.heap[g6]? = some (Obj.cells #[.int .i64 0, .int .i64 0, .int .i64 0, .slice none 0 0] 26 (0, 0)) ∧ Below w0.heap.size w0 W
theorem lvI_own (w0 : World) (g6 g9 : Nat) (a0 h a2 : Int) (B : Nat) (hB : w0.heap.size ≤ B) (N : Nat) : OwnFrom B (fun s W => LvI w0 g6 g9 a0 h a2 s N W) := by
  rintro s W W' row ⟨v, h9, hS, h6, hb⟩ hg hr
  exact ⟨v, cells_grown hg hr h9, s_cells hS (fun k cs t fr hc => (cells_grown hg hr hc).trans hc.symm), cells_grown hg hr h6, hb.grown hg hb.size (fun k e => Nat.le_trans hB (hr k e).1)⟩
theorem rowD_own (x : List S36) (B N : Nat) : OwnFrom B (fun v W => RowD x v N W) := by
  rintro v W W' row h hg hr
  exact rowD_cells h (fun k cs hc => (cells_grown hg hr hc).trans hc.symm)
theorem kpT_t {wb A B C : World} (h : KpT wb A B) (k : KpT wb B C) : KpT wb A C := ⟨h.1.trans k.1, fun i cs t fr hc h1 h2 => k.2 i cs t fr (h.2 i cs t fr hc h1 h2) h1 h2⟩
theorem kpT_b {wb : World} (B : Nat) (hB : wb.heap.size ≤ B) (W : World) (l : Nat) (o o' : Obj) (hl : B ≤ l) (ho : W.heap[l]? = some o) (hn : o.isCells = false) : KpT wb W (W.putObj l o') :=
  ⟨(Below.refl _ W).grown (grownBy_putObj' W l o') (Nat.le_trans (Nat.le_trans hB hl) (Nat.le_of_lt (Array.getElem?_eq_some_iff.1 ho).1)) (fun k e => by cases e; omega), fun k cs t fr hc _ _ => cells_grown (grownBy_putObj' W l o') (B := B) (fun r e => by cases e; exact ⟨hl, o, ho, hn⟩) hc⟩
set_option maxHeartbeats 8000000 in
set_option maxRecDepth 100000 in
theorem build_ok (k : Nat) (a0 a2 h : Int) (A1 : Option Addr) (c1 : Nat) (l1 : List S36) (w : World) (ao : Kd.C k36 w A1 l1.length l1) (ar : l1.length ≤ c1) (hrG : GL w) (hh : tree_height.f (l1.length : Int) = some h) (hv : field_Valid.f a0 = some true) (d0 : decide (h < 0) = false) (d1 : decide (a2 < 0) = false) (d2 : decide (h < a2) = false) (hp : tree_proper.f a0 l1 = some true) (hln : l1.length ≤ 1048576) (top : Int) (htop : shl .i64 1 a2 = top) (ht0 : 0 ≤ top) (xs : List (List S36)) (hx : riseL a0 top k l1 = some xs) (hxl : xs.length ≤ 1048577) :
    Calls Tryd.prog 13 #[.int .i64 a0, .slice A1 l1.length c1, .int .i64 a2] w fun e w' => ∃ aD : Value, e = .returned (.tuple #[.agg #[.int .i64 a0, .int .i64 h, .int .i64 a2, aD], .int .i64 0]) ∧ Kd.S (Kd.slice 36 k36) 22 w' w.heap.size (fun _ => True) aD xs ∧ Below w.heap.size w w' := by
  have AV := aj hv
  have AP := aj hp
  have HLN := aj hln
  have HX := aj hx
  have HXL := aj hxl
  have ha2 : 0 ≤ a2 := by have := of_decide_eq_false d1; omega
  have hji : shl .i64 1 a2 = top := htop
  have hji_ : (IntKind.i64.wrap (1 * 2 ^ min a2.toNat 64)) = top := hji
  have hjiz : a2 ≤ 64 → (IntKind.i64.wrap (1 * 2 ^ a2.toNat)) = top := shl_small hji
  have hjiu : (IntKind.i64.wrap (2 ^ min a2.toNat 64)) = top := by have h_ := hji_; rw [Int.one_mul] at h_; exact h_
  have hjiv : a2 ≤ 64 → (IntKind.i64.wrap (2 ^ a2.toNat)) = top := fun hle_ => by have h_ := hjiz hle_; rw [Int.one_mul] at h_; exact h_
  have hjiy : (wrap64 (1 * 2 ^ min a2.toNat 64)) = top := (i64_w _).symm.trans hji_
  have hjix : a2 ≤ 64 → (wrap64 (1 * 2 ^ a2.toNat)) = top := fun h_ => (i64_w _).symm.trans (hjiz h_)
  have dd : decide (0 ≤ a2) = true := decide_eq_true ha2
  have ddp : (0 ≤ a2) = True := eq_true ha2
  clear hv hp hln hx hxl htop ht0 ha2
  have hu26 := Tryd.underlying26
  have aA := aj ao
  have aC := aj ar
  have HRG := aj hrG
  have AH := aj hh
  clear ao ar hrG hh
  obtain ⟨w0, aq⟩ : ∃ w0, w0 = w := ⟨_, rfl⟩
  generalize hSS : (fun _ : Nat => False) = S
  have HS : Aside0 (Stp w0 w S w) := ⟨by rw [aq]; exact Below.refl _ _, Kept.refl _ _⟩
  have HW := aj aq
  clear hSS aq
  refine (callsIn_wide (n := 9)).1 (callsIn_of_wp_marks Tryd.func13 rfl trivial ?_ rfl)
  simp only [Tryd.ntmps13, List.size_toArray, List.length_cons, List.length_nil, Nat.reduceAdd, Nat.reduceSub, Array.replicate_succ, Array.replicate_zero, List.push_toArray, List.append_toArray, List.nil_append, List.cons_append]
  refine wpIn_wide.2 ?_
  go_wp2_with (first
    | ((with_reducible refine gate_dst (N := 6) rfl ?_); refine box_event ?hg (N := 6) ?hd (cs := #[.int .i64 0, .int .i64 0, .int .i64 0, .slice none 0 0]) (t := 26) ?hr ?_; (case hd => rfl); (case hg => rfl); (case hr => first | (go_simp; done) | (go_simp; rfl)); intro g6 xg w1 y_ hb; skip; have al := aj (stp_new HS.out xg); replace HS := aj (show Stp w0 w S w1 from stp_below HS.out hb); have aa := aj y_; clear xg y_ hb; have ab := bq_ aa 0; have ac := blk_frozen aa.out 0; have ad := bq_ aa 1; have ae := blk_frozen aa.out 1; have af := bq_ aa 2; have ag := blk_frozen aa.out 2; have ai := bq_ aa 3; have ak := blk_frozen aa.out 3)
    | (go_at_call 37; (with_reducible refine (tree_height.calls _ h _ (GL.below (HW.out ▸ HRG.out) (stp_b HS.out)) AH.out).mono ?_); rintro e w2 ⟨rfl, hb⟩; clear ab ac ad ae af ag ai ak; replace aa := aj (show w2.heap[g6]? = some (.cells #[.int .i64 0, .int .i64 0, .int .i64 0, .slice none 0 0] 26 (0, 0)) from blk_below aa.out hb); replace HS := aj (show Stp w0 w S w2 from stp_below HS.out hb); have ab := bq_ aa 0; have ac := blk_frozen aa.out 0; have ad := bq_ aa 1; have ae := blk_frozen aa.out 1; have af := bq_ aa 2; have ag := blk_frozen aa.out 2; have ai := bq_ aa 3; have ak := blk_frozen aa.out 3)
    | (go_at_call 38; (with_reducible refine (valid_calls a0 _ _ AV.out).mono ?_); rintro e w3 ⟨rfl, hb⟩; clear ab ac ad ae af ag ai ak; replace aa := aj (show w3.heap[g6]? = some (.cells #[.int .i64 0, .int .i64 0, .int .i64 0, .slice none 0 0] 26 (0, 0)) from blk_below aa.out hb); replace HS := aj (show Stp w0 w S w3 from stp_below HS.out hb); have ab := bq_ aa 0; have ac := blk_frozen aa.out 0; have ad := bq_ aa 1; have ae := blk_frozen aa.out 1; have af := bq_ aa 2; have ag := blk_frozen aa.out 2; have ai := bq_ aa 3; have ak := blk_frozen aa.out 3)
    | (go_at_call 39; (with_reducible refine (tree_proper.calls a0 _ _ l1 true _ (Kd.C_below aA.out (HW.out ▸ stp_b HS.out)) aC.out (GL.below (HW.out ▸ HRG.out) (stp_b HS.out)) AP.out).mono ?_); rintro e w4 ⟨rfl, hb⟩; clear ab ac ad ae af ag ai ak; replace aa := aj (show w4.heap[g6]? = some (.cells #[.int .i64 0, .int .i64 0, .int .i64 0, .slice none 0 0] 26 (0, 0)) from blk_below aa.out hb); replace HS := aj (show Stp w0 w S w4 from stp_below HS.out hb); have ab := bq_ aa 0; have ac := blk_frozen aa.out 0; have ad := bq_ aa 1; have ae := blk_frozen aa.out 1; have af := bq_ aa 2; have ag := blk_frozen aa.out 2; have ai := bq_ aa 3; have ak := blk_frozen aa.out 3)
    | ((with_reducible refine gate_dst (N := 9) rfl ?_); refine box_event ?hg (N := 9) ?hd (cs := #[.int .i64 0, .int .i64 0, .int .i64 0, .slice none 0 0]) (t := 26) ?hr ?_; (case hd => rfl); (case hg => rfl); (case hr => first | (go_simp; done) | (go_simp; rfl)); intro g9 xg w5 y_ hb; clear ab ac ad ae af ag ai ak; have aw := aj (new_ne aa.out xg); have aW := aj aw.out.symm; have aG := aj (stp_new HS.out xg); replace aa := aj (show w5.heap[g6]? = some (.cells #[.int .i64 0, .int .i64 0, .int .i64 0, .slice none 0 0] 26 (0, 0)) from blk_below aa.out hb); replace HS := aj (show Stp w0 w S w5 from stp_below HS.out hb); have am := aj y_; clear xg y_ hb; have ab := bq_ aa 0; have ac := blk_frozen aa.out 0; have ad := bq_ aa 1; have ae := blk_frozen aa.out 1; have af := bq_ aa 2; have ag := blk_frozen aa.out 2; have ai := bq_ aa 3; have ak := blk_frozen aa.out 3; have aH := bq_ am 0; have aI := blk_frozen am.out 0; have aJ := bq_ am 1; have aK := blk_frozen am.out 1; have aM := bq_ am 2; have aN := blk_frozen am.out 2; have aQ := bq_ am 3; have aR := blk_frozen am.out 3)
    | ((with_reducible refine gate_store (t := 26) (p := 9) rfl ?_); refine store_event (t := 26) (p := 9) (v := .tmp 41) (w1 := ((((w5.setCell ⟨g9, 0, none⟩ (.int .i64 a0)).setCell ⟨g9, 1, none⟩ (.int .i64 h)).setCell ⟨g9, 2, none⟩ (.int .i64 a2)).setCell ⟨g9, 3, none⟩ (.slice none 0 0))) ?hg ?ho ?hn ?hr ?_; (case ho => rfl); (case hg => rfl); (case hn => rfl); (case hr => first | (go_simp; done) | (go_simp; rfl)); intro w6 hw; clear ab ac ad ae af ag ai ak aH aI aJ aK aM aN aQ aR; replace aa := aj (show w6.heap[g6]? = some (.cells #[.int .i64 0, .int .i64 0, .int .i64 0, .slice none 0 0] 26 (0, 0)) from (by rw [hw]; (repeat (refine blk_far ?_ aw.out _)); exact aa.out)); replace am := aj (show w6.heap[g9]? = some (.cells #[.int .i64 a0, .int .i64 h, .int .i64 a2, .slice none 0 0] 26 (0, 0)) from (by rw [hw]; exact (blk_put (cs := #[.int .i64 a0, .int .i64 h, .int .i64 a2, .slice none 0 0]) (blk_put (cs := #[.int .i64 a0, .int .i64 h, .int .i64 0, .slice none 0 0]) (blk_put (cs := #[.int .i64 a0, .int .i64 0, .int .i64 0, .slice none 0 0]) (blk_put (cs := #[.int .i64 0, .int .i64 0, .int .i64 0, .slice none 0 0]) am.out 0 (.int .i64 a0) rfl) 1 (.int .i64 h) rfl) 2 (.int .i64 a2) rfl) 3 (.slice none 0 0) rfl))); replace HS := aj (show Stp w0 w S w6 from (by rw [hw]; exact (stp_set (stp_set (stp_set (stp_set HS.out aG.out 0 (.int .i64 a0)) aG.out 1 (.int .i64 h)) aG.out 2 (.int .i64 a2)) aG.out 3 (.slice none 0 0)))); clear hw; have ab := bq_ aa 0; have ac := blk_frozen aa.out 0; have ad := bq_ aa 1; have ae := blk_frozen aa.out 1; have af := bq_ aa 2; have ag := blk_frozen aa.out 2; have ai := bq_ aa 3; have ak := blk_frozen aa.out 3; have aH := bq_ am 0; have aI := blk_frozen am.out 0; have aJ := bq_ am 1; have aK := blk_frozen am.out 1; have aM := bq_ am 2; have aN := blk_frozen am.out 2; have aQ := bq_ am 3; have aR := blk_frozen am.out 3)
    | (go_at_call 40; (with_reducible refine (rising_calls a0 top A1 c1 l1 _).mono ?_); rintro e w7 ⟨gf, gl, gt, rfl, lf, ll, lt, nft, bf, bl, bt, hb⟩; clear ab ac ad ae af ag ai ak aH aI aJ aK aM aN aQ aR; replace aa := aj (show w7.heap[g6]? = some (.cells #[.int .i64 0, .int .i64 0, .int .i64 0, .slice none 0 0] 26 (0, 0)) from blk_below aa.out hb); replace am := aj (show w7.heap[g9]? = some (.cells #[.int .i64 a0, .int .i64 h, .int .i64 a2, .slice none 0 0] 26 (0, 0)) from blk_below am.out hb); replace HS := aj (show Stp w0 w S w7 from stp_below HS.out hb); have au := aj bf; have ax := aj bl; have aE := aj bt; clear hb bf bl bt lf ll lt nft))
  have hb7 := stp_b HS.out
  have ao : Kd.C k36 w0 A1 l1.length l1 := by rw [HW.out]; exact aA.out
  have hG0 : GL w0 := by rw [HW.out]; exact HRG.out
  refine rangeFunc_rows (gf := 61) (lb := #[.pointer (some ⟨gl, 0, none⟩), .pointer (some ⟨gt, 0, none⟩), .pointer (some ⟨gf, 0, none⟩)]) rfl (enters_of Tryd.func61 (by kernel_rfl) rfl) (Row := RowD) (Kp := KpT w0) (xs := xs)
    (rise_iter k a0 top gf gt gl w0 w7 hG0 hb7 A1 c1 l1 ao aC.out HLN.out au.out aE.out ax.out xs HX.out) kpT_t (kpT_b w7.heap.size hb7.size)
    (LvI w0 g6 g9 a0 h a2) (lvI_own w0 g6 g9 a0 h a2 _ hb7.size) (fun x N => rowD_own x _ N) (fun N hN => ⟨_, am.out, Kd.S_nil _ _ _ _ _, aa.out, hb7⟩) 10 ?assign ?body ?done
  case assign =>
    intro l v W K hK
    dsimp only at hK ⊢
    simp only [List.setIfInBounds_toArray, List.set_cons_zero, List.set_cons_succ] at hK ⊢
    gi_wp2
    exact hK
  case body =>
    intro l pre v x N W hI hBN hNW hpre hrow
    obtain ⟨vL, h9, hS, h6, hb⟩ := hI
    obtain ⟨Av, cv, rfl, _, _⟩ := Kd.R_reads hrow
    have hpl : pre.length ≤ 1048576 := by have := hpre.length_le; have := HXL.out; simp at *; omega
    dsimp only
    simp only [List.setIfInBounds_toArray, List.set_cons_zero, List.set_cons_succ]
    refine wpIn_block ?_
    refine wpIn_region_lit (listIn_of_list l 5 ?hq _ _ _ ?hd ?_)
    case hq => rintro ⟨a, w, h⟩; exact absurd h.1 (by simp)
    case hd => simp
    have HNE := aj (aw.out)
    have H9 := aj h9
    have H6 := aj h6
    have HSL := aj hS
    have HRW := aj hrow
    have HBB := aj hb
    have HNN := aj (⟨hBN, hNW, hpl, hb7.size, aG.out.1⟩ : w7.heap.size ≤ N ∧ N ≤ W.heap.size ∧ pre.length ≤ 1048576 ∧ w0.heap.size ≤ w7.heap.size ∧ w0.heap.size ≤ g9)
    have kv_ : W.cell? ⟨g9, 3, none⟩ = some vL := (blk_cell h9 3).trans rfl
    clear h9 h6 hS hrow hb hBN hNW hpl hb7 ao hG0 hpre
    go_wp2_with (first
      | ((with_reducible refine gate_builtin (b := .append) (xs := #[.tmp 49, .tmp 51]) rfl ?_); at_builtin; refine Kd.S_append (Kd.slice 36 k36) (w0 := w0) w0.heap.size rfl (.tmp 49) (.tmp 51) 24 22 (.slice none 0 0) 24 rfl Tryd.underlying24 info22 rfl (by decide) (by omega) vL pre x [.slice Av x.length cv] (fun _ => True) (fun k_ => some k_ = (.slice Av x.length cv : Value).ownBlock) rfl rfl ?aP (fun k_ hk_ => ((Kd.R_mono (ok' := fun k_ => ((fun _ => True)) k_ ∧ some k_ ≠ (vL : Value).ownBlock) (Kd.R_apart' HRW.out (Kd.S_typed HSL.out) (by decide)) (fun k_ hk => ⟨trivial, hk.2⟩))).1 k_ hk_.symm) ?aF ?aO ?aB ?aS ?aL ?_; (case aP => exact Kd.M_row (Kd.R_lower (Kd.R_mono (Kd.R_tight rfl HRW.out) (fun _ h_ => h_)) (by have := HNN.out; omega))); (case aF => exact (fun _ _ => trivial)); (case aO => exact Kd.S_mono HSL.out (fun k_ hk => ⟨trivial, fun e_ => by have h1_ := Kd.R_base HRW.out k_ e_.symm; omega⟩)); (case aB => exact HBB.out); (case aS => exact HBB.out.size); (case aL => have := HNN.out; omega); intro vM w8 ho hb hg hat; have M9 := aj (blk_grown H9.out hg (Kd.S_ne HSL.out H9.out (by decide))); have M6 := aj (blk_grown H6.out hg (Kd.S_ne HSL.out H6.out (by decide))); have MS := aj ho; have MB := aj hb; have MG := aj hg; clear ho hb hg hat kv_; obtain ⟨AM, cM, eM⟩ := Kd.S_slice MS.out; subst eM; have k3_ : w8.cell? ⟨g9, 3, none⟩ = some vL := (blk_cell M9.out 3).trans rfl; have f3_ := blk_frozen M9.out 3)
      | ((with_reducible refine gate_store (t := 24) (p := 53) rfl ?_); refine store_event (t := 24) (p := 53) (v := .tmp 52) (w1 := (w8.setCell ⟨g9, 3, none⟩ (.slice AM (pre ++ [x]).length cM))) ?hg ?ho ?hn ?hr ?_; (case ho => rfl); (case hg => rfl); (case hn => rfl); (case hr => first | (go_simp; done) | (go_simp; rfl)); intro w9 hw))
    have hnv : ∀ i, some i = (vL : Value).ownBlock → ∃ cs, W.heap[i]? = some (Obj.cells cs 22 (0, 0)) := fun i e => Kd.S_typed HSL.out i e.symm
    have hfar : ∀ i, i ≠ g9 → w9.heap[i]? = w8.heap[i]? := fun i hi => by rw [hw]; exact Below.heap_setCell w8 ⟨g9, 3, none⟩ _ i hi
    refine ⟨(by first | trivial | rfl), ⟨?_, ?_⟩, ⟨?_, ?_⟩, ⟨.slice AM (pre ++ [x]).length cM, ?_, ?_, ?_, ?_⟩⟩
    · rw [hw]; simpa [World.setCell] using MG.out.size
    · intro i o hBi hi hn
      have h1 : i ≠ g9 := fun e => by subst e; rw [H9.out] at hi; obtain rfl := Option.some.inj hi; exact absurd hn (by simp [Obj.isCells])
      rw [hfar i h1]
      exact (MG.out.block i (Array.getElem?_eq_some_iff.1 hi).1 (fun e => by obtain ⟨cs, hc⟩ := hnv i e; rw [hc] at hi; obtain rfl := Option.some.inj hi; exact absurd hn (by simp [Obj.isCells]))).trans hi
    · rw [hw]
      exact ((Below.refl w0.heap.size W).grown MG.out HBB.out.size (fun i e => Kd.S_base HSL.out i e)).setCell (p := ⟨g9, 3, none⟩) HNN.out.2.2.2.2 _
    · intro i cs t fr hc h1 h2
      have h3 : i ≠ g9 := fun e => by subst e; rw [H9.out] at hc; injection hc with hc; injection hc with _ hc; exact h2 hc.symm
      rw [hfar i h3]
      exact (MG.out.block i (Array.getElem?_eq_some_iff.1 hc).1 (fun e => by obtain ⟨cs2, a4⟩ := hnv i e; rw [a4] at hc; injection hc with hc; injection hc with _ hc; exact h1 hc.symm)).trans hc
    · rw [hw]; exact blk_put M9.out 3 _ rfl
    · exact Kd.S_mono (Kd.S_bound (show Kd.S (Kd.slice 36 k36) 22 w9 w0.heap.size (fun _ => True) _ _ from by rw [hw]; exact Kd.S_set MS.out M9.out (by decide) 3 _)) (fun k hk => hk.2.2.1)
    · rw [hw]; exact blk_far M6.out HNE.out _
    · rw [hw]; exact (MB.out).setCell (p := ⟨g9, 3, none⟩) HNN.out.2.2.2.2 _
  case done =>
    rintro Dd N W hD ⟨vL, h9, hS, h6, hb⟩ hK
    obtain ⟨AL, cL, eL⟩ := Kd.S_slice hS
    subst eL
    have HNE := aj (aw.out)
    have H9 := aj h9
    have H6 := aj h6
    have HSL := aj hS
    have HBB := aj hb
    have HKK := aj hK
    have HG := aj al.out.1
    have HDD := aj (Nat.le_trans hb7.size hD)
    have a5 : W.cell? ⟨g6, 0, none⟩ = some (.int .i64 0) := (blk_cell h6 0).trans rfl
    have a6 : W.cell? ⟨g6, 1, none⟩ = some (.int .i64 0) := (blk_cell h6 1).trans rfl
    have a7 : W.cell? ⟨g6, 2, none⟩ = some (.int .i64 0) := (blk_cell h6 2).trans rfl
    have a8 : W.cell? ⟨g6, 3, none⟩ = some (.slice none 0 0) := (blk_cell h6 3).trans rfl
    have a9 : W.cell? ⟨g9, 0, none⟩ = some (.int .i64 a0) := (blk_cell h9 0).trans rfl
    have ba : W.cell? ⟨g9, 1, none⟩ = some (.int .i64 h) := (blk_cell h9 1).trans rfl
    have bb : W.cell? ⟨g9, 2, none⟩ = some (.int .i64 a2) := (blk_cell h9 2).trans rfl
    have bc : W.cell? ⟨g9, 3, none⟩ = some (.slice AL xs.length cL) := (blk_cell h9 3).trans rfl
    have f60 := blk_frozen h6 0
    have f61 := blk_frozen h6 1
    have f62 := blk_frozen h6 2
    have f63 := blk_frozen h6 3
    have bd := aw.out
    have be := aW.out
    clear h9 h6 hS hb hK hb7 ao hG0
    go_wp2_with ((with_reducible refine gate_store (t := 26) (p := 6) rfl ?_); refine store_event (t := 26) (p := 6) (v := .tmp 54) (w1 := ((((W.setCell ⟨g6, 0, none⟩ (.int .i64 a0)).setCell ⟨g6, 1, none⟩ (.int .i64 h)).setCell ⟨g6, 2, none⟩ (.int .i64 a2)).setCell ⟨g6, 3, none⟩ (.slice AL xs.length cL))) ?hg ?ho ?hn ?hr ?_; (case ho => rfl); (case hg => rfl); (case hn => rfl); (case hr => first | (go_simp; done) | (go_simp; rfl)); intro w9 hw)
    have hne : Dd ≠ g6 := fun e => by have h1_ := HKK.out; rw [e, H6.out] at h1_; cases h1_
    have hKD : w9.heap[Dd]? = some (.deferred (some [])) := by
      rw [hw]
      exact (Below.heap_setCell _ ⟨g6, 3, none⟩ _ Dd hne).trans ((Below.heap_setCell _ ⟨g6, 2, none⟩ _ Dd hne).trans ((Below.heap_setCell _ ⟨g6, 1, none⟩ _ Dd hne).trans ((Below.heap_setCell _ ⟨g6, 0, none⟩ _ Dd hne).trans HKK.out)))
    have hS9 : Kd.S (Kd.slice 36 k36) 22 w9 w0.heap.size (fun _ => True) (.slice AL xs.length cL) xs := by
      rw [hw]
      exact Kd.S_mono (Kd.S_far (p := ⟨g6, 3, none⟩) (Kd.S_far (p := ⟨g6, 2, none⟩) (Kd.S_far (p := ⟨g6, 1, none⟩) (Kd.S_far (p := ⟨g6, 0, none⟩) (Kd.S_types HSL.out H6.out (by decide)) (fun k hk => hk.2) _) (fun k hk => hk.2) _) (fun k hk => hk.2) _) (fun k hk => hk.2) _) (fun _ _ => trivial)
    have h69 : w9.heap[g6]? = some (Obj.cells #[.int .i64 a0, .int .i64 h, .int .i64 a2, .slice AL xs.length cL] 26 (0, 0)) := by
      rw [hw]
      exact blk_put (blk_put (blk_put (blk_put H6.out 0 _ rfl) 1 _ rfl) 2 _ rfl) 3 _ rfl
    have hb9 : Below w0.heap.size w0 w9 := by
      rw [hw]
      exact (((HBB.out.setCell (p := ⟨g6, 0, none⟩) HG.out _).setCell (p := ⟨g6, 1, none⟩) HG.out _).setCell (p := ⟨g6, 2, none⟩) HG.out _).setCell (p := ⟨g6, 3, none⟩) HG.out _
    refine ⟨by simp, .inl ⟨Dd, _, rfl, run_takeDeferred hKD, ?_⟩⟩
    refine ⟨_, results_ct rfl _ _ g6 26 #[.int .i64 a0, .int .i64 h, .int .i64 a2, .slice AL xs.length cL] (0, 0) _ rfl ((World.putObj_heap_other hne.symm).trans h69) Tryd.underlying26 rfl (by kernel_rfl), ?_⟩
    obtain rfl := HW.out
    refine ⟨_, rfl, s_cells hS9 (fun k cs t fr hc => World.putObj_heap_other (fun e => by rw [e, hKD] at hc; cases hc)), hb9.grown (grownBy_putObj' _ _ _) hb9.size (fun k e => by cases e; exact HDD.out)⟩
theorem lgI_le (n : Int) : lgI n ≤ 18 := by
  unfold lgI
  repeat' split
  all_goals omega
theorem lgI_big (n : Int) (h : 262144 < n) : lgI n = -1 := by
  refine lgI_none n fun k hk e => ?_
  have hq : 2 ^ k ≤ 2 ^ 18 := Nat.pow_le_pow_right (by decide) (by omega)
  omega
theorem shl_nonneg : ∀ j : Fin 19, 0 ≤ shl .i64 1 ((j : Nat) : Int) := by decide +kernel
theorem riseL_len (f top : Int) (ht : 0 ≤ top) : ∀ k l xs, riseL f top k l = some xs → xs.length ≤ l.length + 1
  | 0, l, xs, h => by simp [riseL] at h
  | k + 1, l, xs, h => by
    simp only [riseL] at h
    by_cases h1 : top < (l.length : Int)
    · rw [if_pos h1] at h
      obtain ⟨u, hu, h⟩ := Option.bind_eq_some_iff.mp h
      obtain ⟨r, hr, h⟩ := Option.bind_eq_some_iff.mp h
      obtain rfl := Option.some.inj h
      have e1 := upL_len f l.length l u (Nat.le_refl _) hu
      have e2 := riseL_len f top ht k u r hr
      simp only [List.length_cons]
      omega
    · rw [if_neg h1] at h
      obtain rfl := Option.some.inj h
      simp
theorem tree_Build.calls (k : Nat) (a0 : Int) (A1 : Option Addr) (c1 : Nat) (l1 : List (S36)) (a2 : Int) (r1 : Int) (r2 : Int) (r3 : Int) (r4 : List (List (S36))) (r5 : Int) (w : World) (ao : Kd.C k36 w A1 l1.length l1) (ar : l1.length ≤ c1) (hrG : GL w) (h : tree_Build.f k a0 l1 a2 = some (r1, r2, r3, r4, r5)) :
  Calls Tryd.prog 13 #[.int .i64 a0, .slice A1 l1.length c1, .int .i64 a2] w fun e w' => ∃ aD : Value, e = .returned (.tuple #[.agg #[.int .i64 r1, .int .i64 r2, .int .i64 r3, aD], .int .i64 r5]) ∧ Kd.S (Kd.slice 36 k36) 22 w' w.heap.size (fun _ => True) aD r4 ∧ Below w.heap.size w w' := by
 have bad : ∀ {q : Int}, some ((0 : Int), (0 : Int), (0 : Int), ([] : List (List S36)), q) = some (r1, r2, r3, r4, r5) → (Calls Tryd.prog 13 #[.int .i64 a0, .slice A1 l1.length c1, .int .i64 a2] w fun e w' => e = .returned (.tuple #[.agg #[.int .i64 0, .int .i64 0, .int .i64 0, .slice none 0 0], .int .i64 q]) ∧ Below w.heap.size w w') → Calls Tryd.prog 13 #[.int .i64 a0, .slice A1 l1.length c1, .int .i64 a2] w fun e w' => ∃ aD : Value, e = .returned (.tuple #[.agg #[.int .i64 r1, .int .i64 r2, .int .i64 r3, aD], .int .i64 r5]) ∧ Kd.S (Kd.slice 36 k36) 22 w' w.heap.size (fun _ => True) aD r4 ∧ Below w.heap.size w w' := by
  intro q e c
  simp only [Option.some.injEq, Prod.mk.injEq] at e
  obtain ⟨rfl, rfl, rfl, rfl, rfl⟩ := e
  refine c.mono ?_
  rintro e w' ⟨rfl, hb⟩
  exact ⟨_, rfl, Kd.S_nil _ _ _ _ _, hb⟩
 unfold tree_Build.f at h
 obtain ⟨hh, ah, h⟩ := Option.bind_eq_some_iff.mp h
 obtain ⟨v, av, h⟩ := Option.bind_eq_some_iff.mp h
 cases v with
 | false =>
  rw [if_neg (by decide)] at h
  exact bad h (build_v a0 a2 hh A1 c1 l1 w ao ar hrG ah av)
 | true =>
  rw [if_pos rfl] at h
  by_cases e0 : hh < 0
  ·rw [if_pos e0] at h
   exact bad h (build_h a0 a2 hh A1 c1 l1 w ao ar hrG ah av (decide_eq_true e0))
  ·rw [if_neg e0] at h
   by_cases e1 : a2 < 0
   ·rw [if_pos e1] at h
    exact bad h (build_c a0 a2 hh A1 c1 l1 w ao ar hrG ah av (decide_eq_false e0) (decide_eq_true e1))
   ·rw [if_neg e1] at h
    by_cases e2 : hh < a2
    ·rw [if_pos e2] at h
     exact bad h (build_k a0 a2 hh A1 c1 l1 w ao ar hrG ah av (decide_eq_false e0) (decide_eq_false e1) (decide_eq_true e2))
    ·rw [if_neg e2] at h
     obtain ⟨p, ap, h⟩ := Option.bind_eq_some_iff.mp h
     cases p with
     | false =>
      rw [if_neg (by decide)] at h
      exact bad h (build_p a0 a2 hh A1 c1 l1 w ao ar hrG ah av (decide_eq_false e0) (decide_eq_false e1) (decide_eq_false e2) ap)
     | true =>
      rw [if_pos rfl] at h
      obtain ⟨ls, hl, h⟩ := Option.bind_eq_some_iff.mp h
      simp only [Option.some.injEq, Prod.mk.injEq] at h
      obtain ⟨rfl, rfl, rfl, rfl, rfl⟩ := h
      have eh := Option.some.inj ah
      have hle : (l1.length : Int) ≤ 262144 := by
       rcases Int.lt_or_le 262144 (l1.length : Int) with hg | hg
       ·rw [if_neg (by omega), lgI_big _ hg] at eh; omega
       ·exact hg
      have h18 : hh ≤ 18 := by
       have := lgI_le (l1.length : Int)
       by_cases h1 : (l1.length : Int) < 1
       ·rw [if_pos h1] at eh; omega
       ·rw [if_neg h1] at eh; omega
      have ht0 : 0 ≤ shl .i64 1 a2 := by
       have := shl_nonneg ⟨a2.toNat, by omega⟩
       rwa [show (((⟨a2.toNat, by omega⟩ : Fin 19) : Nat) : Int) = a2 by simp; omega] at this
      have hxl := riseL_len _ _ ht0 k l1 ls hl
      exact build_ok k a0 a2 hh A1 c1 l1 w ao ar hrG ah av (decide_eq_false e0) (decide_eq_false e1) (decide_eq_false e2) ap (by omega) _ rfl ht0 ls hl (by omega)
end Go.Proofs.YtpnpmeogffodgaaDoor.Q
end
section
namespace Go.Proofs.YtpnpmeogffodgaaDoor.Q
open Go.RowKit Go.Proofs.YtpnpmeogffodgaaDoorW.PrintWords Go.Proofs.YtpnpmeogffodgaaDoorW.PrintLast Go.Proofs.YtpnpmeogffodgaaDoorW.PrintMore
attribute [local go_sem] max2_int min2_int max_two min_two max_three min_three max_four min_four run_store_fnV run_store_fnc run_store_nfn   -- for this text's walks alone
set_option linter.unusedVariables false
set_option linter.unusedSimpArgs false

/-! ### attestorlaw07_lives: function 21 -/
def attestorlaw07_lives.f (k : Nat)  : Option (Bool) := (tree_Build.f k 0 (([(⟨0, 0⟩ : S36), (⟨0, 0⟩ : S36)] : List (S36))) 0).bind fun ay => ((tree_Path.f k ay.1 ay.2.1 ay.2.2.1 ay.2.2.2.1 1).bind fun aG => (if ay.2.2.2.2 = 0 then (if aG.2 = 0 then (if ay.2.1 = 1 then ((tree_Cap.f k ay.1 ay.2.1 ay.2.2.1 ay.2.2.2.1).bind fun aK => ((attestorref07_Equal.f k aK (([(⟨19, 58⟩ : S36)] : List (S36)))).bind fun aN => (if aN = true then ((attestorref07_Equal.f k aG.1 (([(⟨0, 0⟩ : S36)] : List (S36)))).bind fun aL => (if aL = true then ((tree_Check.f 0 (([(⟨19, 58⟩ : S36)] : List (S36))) 1 0 0 aG.1).bind fun aF => (some aF)) else (some false))) else (some false)))) else (some false)) else (some false)) else (some false)))
theorem attestorlaw07_lives.mono : ∀ k, LeO (attestorlaw07_lives.f k ) (attestorlaw07_lives.f (k + 1) ) := by
  intro  k
  unfold attestorlaw07_lives.f
  repeat' first
      | (with_reducible exact attestorref07_Equal.mono _ _ _)
      | (with_reducible exact tree_Build.mono _ _ _ _)
      | (with_reducible exact tree_Cap.mono _ _ _ _ _)
      | (with_reducible exact tree_Path.mono _ _ _ _ _ _)
      | (with_reducible exact LeO.refl _)
      | (with_reducible exact LeO.none _)
      | (with_reducible refine LeO.ite ?_ ?_)
      | (with_reducible refine LeO.bind ?_ (fun _ => ?_))
      | exact attestorref07_Equal.mono _ _ _
      | exact tree_Build.mono _ _ _ _
      | exact tree_Cap.mono _ _ _ _ _
      | exact tree_Path.mono _ _ _ _ _ _
      | exact LeO.none _
      | refine LeO.ite ?_ ?_
      | refine LeO.bind ?_ (fun _ => ?_)
theorem attestorlaw07_lives.only {k : Nat} {r : Bool} (h : attestorlaw07_lives.f k = some r) : r = true := by
  have h1 := at_rounds (g := fun k => attestorlaw07_lives.f k) attestorlaw07_lives.mono (Nat.le_max_left k 80) h
  have h2 : attestorlaw07_lives.f (max k 80) = some true := at_rounds (g := fun k => attestorlaw07_lives.f k) attestorlaw07_lives.mono (Nat.le_max_right k 80) (by decide +kernel)
  exact Option.some.inj (h1.symm.trans h2)
set_option maxHeartbeats 8000000 in
set_option maxRecDepth 100000 in
theorem attestorlaw07_lives.calls (k : Nat)  (r : Bool) (w : World) (hrG : GL w) (h : attestorlaw07_lives.f k  = some r) :
  Calls Tryd.prog 21 #[] w fun e w' => e = .returned (.bool r) ∧ Below w.heap.size w w' := by
 have hu36 := Tryd.underlying36
 have hu26 := Tryd.underlying26
 have HRG := aj hrG
 clear hrG
 have HB := aj (Below.refl w.heap.size w)
 have H : ((tree_Build.f k 0 (([(⟨0, 0⟩ : S36), (⟨0, 0⟩ : S36)] : List (S36))) 0).bind fun ay => ((tree_Path.f k ay.1 ay.2.1 ay.2.2.1 ay.2.2.2.1 1).bind fun aG => (if ay.2.2.2.2 = 0 then (if aG.2 = 0 then (if ay.2.1 = 1 then ((tree_Cap.f k ay.1 ay.2.1 ay.2.2.1 ay.2.2.2.1).bind fun aK => ((attestorref07_Equal.f k aK (([(⟨19, 58⟩ : S36)] : List (S36)))).bind fun aN => (if aN = true then ((attestorref07_Equal.f k aG.1 (([(⟨0, 0⟩ : S36)] : List (S36)))).bind fun aL => (if aL = true then ((tree_Check.f 0 (([(⟨19, 58⟩ : S36)] : List (S36))) 1 0 0 aG.1).bind fun aF => (some aF)) else (some false))) else (some false)))) else (some false)) else (some false)) else (some false)))) = some r := h
 have HLR := Aside0.mk (attestorlaw07_lives.only h)
 clear h
 obtain ⟨aH, a4⟩ : ∃ y_ : List (S36), y_ = (([(⟨0, 0⟩ : S36), (⟨0, 0⟩ : S36)] : List (S36))) := ⟨_, rfl⟩
 (first | rw [← a4] at H | simp only [← a4] at H)
 have aM := aj a4
 clear a4
 replace H := Option.bind_eq_some_iff.mp H
 obtain ⟨⟨am, al, aq, ar, aO⟩, bM, H⟩ := H
 replace H : ((tree_Path.f k am al aq ar 1).bind fun aG => (if aO = 0 then (if aG.2 = 0 then (if al = 1 then ((tree_Cap.f k am al aq ar).bind fun aK => ((attestorref07_Equal.f k aK (([(⟨19, 58⟩ : S36)] : List (S36)))).bind fun aN => (if aN = true then ((attestorref07_Equal.f k aG.1 (([(⟨0, 0⟩ : S36)] : List (S36)))).bind fun aL => (if aL = true then ((tree_Check.f 0 (([(⟨19, 58⟩ : S36)] : List (S36))) 1 0 0 aG.1).bind fun aF => (some aF)) else (some false))) else (some false)))) else (some false)) else (some false)) else (some false))) = some r := H
 have A1 := aj bM
 clear bM
 replace H := Option.bind_eq_some_iff.mp H
 obtain ⟨⟨aI, aQ⟩, bN, H⟩ := H
 replace H : (if aO = 0 then (if aQ = 0 then (if al = 1 then ((tree_Cap.f k am al aq ar).bind fun aK => ((attestorref07_Equal.f k aK (([(⟨19, 58⟩ : S36)] : List (S36)))).bind fun aN => (if aN = true then ((attestorref07_Equal.f k aI (([(⟨0, 0⟩ : S36)] : List (S36)))).bind fun aL => (if aL = true then ((tree_Check.f 0 (([(⟨19, 58⟩ : S36)] : List (S36))) 1 0 0 aI).bind fun aF => (some aF)) else (some false))) else (some false)))) else (some false)) else (some false)) else (some false)) = some r := H
 have A2 := aj bN
 clear bN
 by_cases c3 : aO = 0
 ·rw [if_pos c3] at H
  have c3b0 : (aO == 0) = true := beq_iff_eq.mpr c3
  have c3b1 : (aO != 0) = false := bne_eq_false_iff_eq.mpr c3
  clear c3
  by_cases c4 : aQ = 0
  ·rw [if_pos c4] at H
   have c4b0 : (aQ == 0) = true := beq_iff_eq.mpr c4
   have c4b1 : (aQ != 0) = false := bne_eq_false_iff_eq.mpr c4
   clear c4
   by_cases c5 : al = 1
   ·rw [if_pos c5] at H
    have c5b0 : (al == 1) = true := beq_iff_eq.mpr c5
    have c5b1 : (al != 1) = false := bne_eq_false_iff_eq.mpr c5
    clear c5
    replace H := Option.bind_eq_some_iff.mp H
    obtain ⟨aK, bO, H⟩ := H
    have A6 := aj bO
    clear bO
    obtain ⟨bd, a5⟩ : ∃ y_ : List (S36), y_ = (([(⟨19, 58⟩ : S36)] : List (S36))) := ⟨_, rfl⟩
    replace H : ((attestorref07_Equal.f k aK bd).bind fun aN => (if aN = true then ((attestorref07_Equal.f k aI (([(⟨0, 0⟩ : S36)] : List (S36)))).bind fun aL => (if aL = true then ((tree_Check.f 0 (([(⟨19, 58⟩ : S36)] : List (S36))) 1 0 0 aI).bind fun aF => (some aF)) else (some false))) else (some false))) = some r := by first | (rw [a5]; with_reducible exact H) | (have aS := (Option.bind_some _ _).symm.trans H; rw [a5]; with_reducible exact aS) | (have aS := (Option.bind_some _ _).symm.trans H; with_reducible exact aS) | with_reducible exact H | (rw [a5]; exact H) | exact H
    have aZ := aj a5
    clear a5
    replace H := Option.bind_eq_some_iff.mp H
    obtain ⟨aN, bP, H⟩ := H
    have A7 := aj bP
    clear bP
    by_cases c8 : aN = true
    ·subst c8
     have H1 : ((attestorref07_Equal.f k aI (([(⟨0, 0⟩ : S36)] : List (S36)))).bind fun aL => (if aL = true then ((tree_Check.f 0 (([(⟨19, 58⟩ : S36)] : List (S36))) 1 0 0 aI).bind fun aF => (some aF)) else (some false))) = some r := by rw [if_pos rfl] at H; exact H
     clear H
     have H := H1
     clear H1
     obtain ⟨bg, a6⟩ : ∃ y_ : List (S36), y_ = (([(⟨0, 0⟩ : S36)] : List (S36))) := ⟨_, rfl⟩
     (first | rw [← a6] at H | simp only [← a6] at H)
     have a9 := aj a6
     clear a6
     replace H := Option.bind_eq_some_iff.mp H
     obtain ⟨aL, bQ, H⟩ := H
     have A9 := aj bQ
     clear bQ
     by_cases c10 : aL = true
     ·subst c10
      have H1 : ((tree_Check.f 0 (([(⟨19, 58⟩ : S36)] : List (S36))) 1 0 0 aI).bind fun aF => (some aF)) = some r := by rw [if_pos rfl] at H; exact H
      clear H
      have H := H1
      clear H1
      obtain ⟨bu, a7⟩ : ∃ y_ : List (S36), y_ = (([(⟨19, 58⟩ : S36)] : List (S36))) := ⟨_, rfl⟩
      (first | rw [← a7] at H | simp only [← a7] at H)
      have bh := aj a7
      clear a7
      replace H := Option.bind_eq_some_iff.mp H
      obtain ⟨aF, bv, H⟩ := H
      have eo := aj bv
      clear bv
      obtain rfl := Option.some.inj H
      go_enter Tryd.func21, Tryd.ntmps21
      go_wp2_with (first | ((with_reducible refine gate_dst (N := 1) rfl ?_); (try (refine gate_guard (by rfl) ?_; dsimp only)); refine box_event ?hg (N := 1) ?hd (cs := #[.int .u64 0, .int .u64 0]) (t := 36) ?hr ?_; (case hd => rfl); (case hg => rfl); (case hr => first | (go_simp; done) | (go_simp; rfl)); intro af hg bR hbox hb; have ai := aj (below_step (by repeat (first | (with_reducible first | exact HB.out | apply below_alloc | apply pw_below_drewN | apply below_drew1) | exact HB.out)) hb); have ak := aj (hbox); have ao := aj ((by rw [hg]; exact (below_size (by repeat (first | (with_reducible first | exact HB.out | apply below_alloc | apply pw_below_drewN | apply below_drew1) | exact HB.out))) : w.heap.size ≤ af)); clear HB; have HB := ai; have aa := ak; have ah := ao; clear ai ak ao; clear hb hbox hg; have cz : bR.cell? ⟨af, 0, none⟩ = some (.int .u64 0) := bq_ aa 0; have cA : bR.cell? ⟨af, 1, none⟩ = some (.int .u64 0) := bq_ aa 1; have cB := blk_frozen aa.out 0; have cC := blk_frozen aa.out 1) | ((with_reducible refine gate_dst (N := 9) rfl ?_); (try (refine gate_guard (by rfl) ?_; dsimp only)); refine Kd.R_lit k36 _ 36 ?hg (N := 9) ?hd (xs := ([(⟨0, 0⟩ : S36), (⟨0, 0⟩ : S36)] : List (S36))) (inner := [.int .u64 0, .int .u64 0, .int .u64 0, .int .u64 0]) (ok := fun _ => True) (okp := fun _ => True) ?hr ?hp (fun _ hk => hk) trivial (Below.refl _ _) (Nat.le_refl _) (by simp) ?_; (case hd => rfl); (case hg => rfl); (case hr => first | (go_simp; done) | (go_simp; rfl)); (case hp => exact (Reps.c2 (show Kd.M k36 _ _ _ (⟨0, 0⟩ : S36) [.int .u64 0, .int .u64 0] from (k36_mkM _ _ _ (⟨0, 0⟩ : S36) )) (Reps.c2 (show Kd.M k36 _ _ _ (⟨0, 0⟩ : S36) [.int .u64 0, .int .u64 0] from (k36_mkM _ _ _ (⟨0, 0⟩ : S36) )) (Reps.none _ _)))); intro ba e4 ho15 hb hg_ hnew_; clear hg_ hnew_; (first | rw [← aM.out] at ho15 | (simp only [Int.reduceToNat] at ho15; rw [← aM.out] at ho15)); have ai := aj (Kd.R_lower (Kd.R_newB ho15 (g := af) (o := .cells #[.int .u64 0, .int .u64 0] 36 (0, 0)) (by exact aa.out)) (below_size (by repeat (first | (with_reducible first | exact HB.out | apply below_alloc | apply pw_below_drewN | apply below_drew1 | refine below_set ?_ ah.out) | exact HB.out)))); have ak := aj (blk_below (g := af) (o := .cells #[.int .u64 0, .int .u64 0] 36 (0, 0)) (by exact aa.out) hb); have ap := aj (below_step (by repeat (first | (with_reducible first | exact HB.out | apply below_alloc | apply pw_below_drewN | apply below_drew1 | refine below_set ?_ ah.out) | exact HB.out)) hb); clear aa; clear HB; have ac := ai; have aa := ak; have HB := ap; clear ai ak ap; clear hb ho15; obtain ⟨bw, bx, bZ⟩ := Kd.R_slice ac.out; subst bZ) | ((with_reducible refine gate_callee (f := 13) rfl ?_); refine goesL_ (some 10) rfl rfl Tryd.func13 (by kernel_rfl) rfl #[.int .i64 0, .slice bw aH.length bx, .int .i64 0] rfl (by (try simp only [List.map_toArray, List.map_cons, List.map_nil]); first | done | rfl | (go_simp; done)) ?_; (with_reducible refine (tree_Build.calls k 0 _ _ aH 0 am al aq ar aO _ ?side1 ?side2 ?side3 A1.out).mono ?_); (case side1 => exact (Kd.R_reads' ac.out).2.2); (case side2 => exact (Kd.R_reads' ac.out).2.1); (case side3 => repeat (first | exact (GL.below HRG.out HB.out) | (with_reducible refine GL.alloc ?_ _) | (with_reducible refine GL.drewN ?_ _) | (with_reducible refine GL.drew ?_))); rintro e e5 ⟨bb, rfl, ho0, hb⟩; refine ⟨_, rfl, ?_⟩; have ai := aj (Kd.R_below (by (with_reducible repeat (first | apply Kd.R_alloc | apply Kd.R_drewN | apply Kd.R_drew)); exact ac.out) hb); have ak := aj (Kd.S_lower (Kd.S_newB (Kd.S_new' ho0 (Kd.R_lt (by (with_reducible repeat (first | apply Kd.R_alloc | apply Kd.R_drewN | apply Kd.R_drew)); exact ac.out))) (g := af) (o := .cells #[.int .u64 0, .int .u64 0] 36 (0, 0)) (by exact aa.out)) (below_size (by repeat (first | (with_reducible first | exact HB.out | apply below_alloc | apply pw_below_drewN | apply below_drew1 | refine below_set ?_ ah.out) | exact HB.out)))); have ap := aj (blk_below (g := af) (o := .cells #[.int .u64 0, .int .u64 0] 36 (0, 0)) (by exact aa.out) hb); have ao := aj (below_step (by repeat (first | (with_reducible first | exact HB.out | apply below_alloc | apply pw_below_drewN | apply below_drew1 | refine below_set ?_ ah.out) | exact HB.out)) hb); clear ac; clear aa; clear HB; have ac := ai; have ag := ak; have aa := ap; have HB := ao; clear ai ak ap ao; (try clear hb); (try clear hb2); (try clear hk); (try clear hi); (try clear ho0)) | ((with_reducible refine gate_dst (N := 2) rfl ?_); (try (refine gate_guard (by rfl) ?_; dsimp only)); refine box_event ?hg (N := 2) ?hd (cs := #[.int .i64 0, .int .i64 0, .int .i64 0, .slice none 0 0]) (t := 26) ?hr ?_; (case hd => rfl); (case hg => rfl); (case hr => first | (go_simp; done) | (go_simp; rfl)); intro ab hg bi hbox hb; have ai := aj (Kd.R_below (by (with_reducible repeat (first | apply Kd.R_alloc | apply Kd.R_drewN | apply Kd.R_drew)); exact ac.out) hb); have ak := aj (Kd.S_below (by (with_reducible repeat (first | apply Kd.S_alloc | apply Kd.S_drewN | apply Kd.S_drew)); exact ag.out) hb); have ap := aj (blk_below (g := af) (o := .cells #[.int .u64 0, .int .u64 0] 36 (0, 0)) (by exact aa.out) hb); have ao := aj (below_step (by repeat (first | (with_reducible first | exact HB.out | apply below_alloc | apply pw_below_drewN | apply below_drew1 | refine below_set ?_ ah.out) | exact HB.out)) hb); have aw := aj (hbox); have az := aj ((by rw [hg]; exact (below_size (by repeat (first | (with_reducible first | exact HB.out | apply below_alloc | apply pw_below_drewN | apply below_drew1 | refine below_set ?_ ah.out) | exact HB.out))) : w.heap.size ≤ ab)); have aC := aj ((by rw [hg]; exact Nat.ne_of_lt (blk_lt (g := af) (o := .cells #[.int .u64 0, .int .u64 0] 36 (0, 0)) (by exact aa.out)) : af ≠ ab)); have aE := aj ((by rw [hg]; exact Nat.ne_of_gt (blk_lt (g := af) (o := .cells #[.int .u64 0, .int .u64 0] 36 (0, 0)) (by exact aa.out)) : ab ≠ af)); clear ac; clear ag; clear aa; clear HB; have ac := ai; have ag := ak; have aa := ap; have HB := ao; have ad := aw; have av := az; have ae := aC; have aD := aE; clear ai ak ap ao aw az aC aE; clear hb hbox hg; have er := aD.out; have et := ae.out; have cD : bi.cell? ⟨ab, 0, none⟩ = some (.int .i64 0) := bq_ ad 0; have cE : bi.cell? ⟨ab, 1, none⟩ = some (.int .i64 0) := bq_ ad 1; have cF : bi.cell? ⟨ab, 2, none⟩ = some (.int .i64 0) := bq_ ad 2; have cG : bi.cell? ⟨ab, 3, none⟩ = some (.slice none 0 0) := bq_ ad 3; have cH := blk_frozen ad.out 0; have cI := blk_frozen ad.out 1; have cJ := blk_frozen ad.out 2; have cK := blk_frozen ad.out 3; obtain ⟨aR, aP, b0⟩ := Kd.S_slice ag.out; subst b0) | ((with_reducible refine gate_callee (f := 23) rfl ?_); refine goesL_ (some 15) rfl rfl Tryd.func23 (by kernel_rfl) rfl #[.agg #[.int .i64 am, .int .i64 al, .int .i64 aq, .slice aR ar.length aP], .int .i64 1] rfl (by (try simp only [List.map_toArray, List.map_cons, List.map_nil]); first | done | rfl | (go_simp; done)) ?_; (with_reducible refine (tree_Path.calls k am al aq _ _ ar 1 aI aQ _ ?side1 ?side2 ?side3 A2.out).mono ?_); (case side1 => refine (Kd.S_reads' (e := 22) (base := w.heap.size) (ok := fun k_ => ((True ∧ some k_ ≠ (.slice bw aH.length bx : Value).ownBlock) ∧ k_ ≠ af)) (n := ar.length) (c := aP) ?_).2.2; exact (by (with_reducible repeat (first | apply Kd.S_alloc | apply Kd.S_drewN | apply Kd.S_drew)); exact (Kd.S_mono (Kd.S_far (p := ⟨ab, 3, none⟩) (Kd.S_far (p := ⟨ab, 2, none⟩) (Kd.S_far (p := ⟨ab, 1, none⟩) (Kd.S_far (p := ⟨ab, 0, none⟩) (Kd.S_types ag.out ad.out (by decide)) (fun _ hk => hk.2) (.int .i64 am)) (fun _ hk => hk.2) (.int .i64 al)) (fun _ hk => hk.2) (.int .i64 aq)) (fun _ hk => hk.2) (.slice aR ar.length aP)) (fun _ h_ => h_.1)))); (case side2 => exact (Kd.S_reads' ag.out).2.1); (case side3 => exact GL.below HRG.out (by repeat (first | (with_reducible first | exact HB.out | apply below_alloc | apply pw_below_drewN | apply below_drew1 | refine below_set ?_ ah.out | refine below_set ?_ av.out) | exact HB.out))); rintro e bj ⟨bc, rfl, ho0, hb⟩; refine ⟨_, rfl, ?_⟩; have ai := aj (Kd.R_elder' (by (with_reducible repeat (first | apply Kd.R_alloc | apply Kd.R_drewN | apply Kd.R_drew)); exact (Kd.R_mono (Kd.R_far (p := ⟨ab, 3, none⟩) (Kd.R_far (p := ⟨ab, 2, none⟩) (Kd.R_far (p := ⟨ab, 1, none⟩) (Kd.R_far (p := ⟨ab, 0, none⟩) (Kd.R_types ac.out ad.out (by decide)) (fun _ hk => hk.2) (.int .i64 am)) (fun _ hk => hk.2) (.int .i64 al)) (fun _ hk => hk.2) (.int .i64 aq)) (fun _ hk => hk.2) (.slice aR ar.length aP)) (fun _ h_ => h_.1))) (Kd.R_base ho0) hb); have ak := aj (Kd.S_elder' (by (with_reducible repeat (first | apply Kd.S_alloc | apply Kd.S_drewN | apply Kd.S_drew)); exact (Kd.S_mono (Kd.S_far (p := ⟨ab, 3, none⟩) (Kd.S_far (p := ⟨ab, 2, none⟩) (Kd.S_far (p := ⟨ab, 1, none⟩) (Kd.S_far (p := ⟨ab, 0, none⟩) (Kd.S_types ag.out ad.out (by decide)) (fun _ hk => hk.2) (.int .i64 am)) (fun _ hk => hk.2) (.int .i64 al)) (fun _ hk => hk.2) (.int .i64 aq)) (fun _ hk => hk.2) (.slice aR ar.length aP)) (fun _ h_ => h_.1))) (Kd.R_base ho0) hb); have ap := aj (Kd.R_lower (Kd.R_newB (Kd.R_new' ho0 (Kd.R_lt (by (with_reducible repeat (first | apply Kd.R_alloc | apply Kd.R_drewN | apply Kd.R_drew)); exact (Kd.R_mono (Kd.R_far (p := ⟨ab, 3, none⟩) (Kd.R_far (p := ⟨ab, 2, none⟩) (Kd.R_far (p := ⟨ab, 1, none⟩) (Kd.R_far (p := ⟨ab, 0, none⟩) (Kd.R_types ac.out ad.out (by decide)) (fun _ hk => hk.2) (.int .i64 am)) (fun _ hk => hk.2) (.int .i64 al)) (fun _ hk => hk.2) (.int .i64 aq)) (fun _ hk => hk.2) (.slice aR ar.length aP)) (fun _ h_ => h_.1))))) (g := af) (o := .cells #[.int .u64 0, .int .u64 0] 36 (0, 0)) (by refine blk_far ?_ ae.out _; refine blk_far ?_ ae.out _; refine blk_far ?_ ae.out _; refine blk_far ?_ ae.out _; exact aa.out)) (below_size (by repeat (first | (with_reducible first | exact HB.out | apply below_alloc | apply pw_below_drewN | apply below_drew1 | refine below_set ?_ ah.out | refine below_set ?_ av.out) | exact HB.out)))); have ao := aj (blk_below (g := af) (o := .cells #[.int .u64 0, .int .u64 0] 36 (0, 0)) (by refine blk_far ?_ ae.out _; refine blk_far ?_ ae.out _; refine blk_far ?_ ae.out _; refine blk_far ?_ ae.out _; exact aa.out) hb); have aw := aj (blk_below (g := ab) (o := .cells #[.int .i64 am, .int .i64 al, .int .i64 aq, .slice aR ar.length aP] 26 (0, 0)) (by refine blk_put (cs := #[.int .i64 am, .int .i64 al, .int .i64 aq, .slice none 0 0]) ?_ 3 _ rfl; refine blk_put (cs := #[.int .i64 am, .int .i64 al, .int .i64 0, .slice none 0 0]) ?_ 2 _ rfl; refine blk_put (cs := #[.int .i64 am, .int .i64 0, .int .i64 0, .slice none 0 0]) ?_ 1 _ rfl; refine blk_put (cs := #[.int .i64 0, .int .i64 0, .int .i64 0, .slice none 0 0]) ?_ 0 _ rfl; exact ad.out) hb); have aA := aj (below_step (by repeat (first | (with_reducible first | exact HB.out | apply below_alloc | apply pw_below_drewN | apply below_drew1 | refine below_set ?_ ah.out | refine below_set ?_ av.out) | exact HB.out)) hb); clear ac; clear ag; clear aa; clear ad; clear HB; have ac := ai; have ag := ak; have au := ap; have aa := ao; have ad := aw; have HB := aA; clear ai ak ap ao aw aA; (try clear hb); (try clear hb2); (try clear hk); (try clear hi); (try clear ho0); have cL : bj.cell? ⟨ab, 0, none⟩ = some (.int .i64 am) := bq_ ad 0; have cM : bj.cell? ⟨ab, 1, none⟩ = some (.int .i64 al) := bq_ ad 1; have cN : bj.cell? ⟨ab, 2, none⟩ = some (.int .i64 aq) := bq_ ad 2; have cO : bj.cell? ⟨ab, 3, none⟩ = some (.slice aR ar.length aP) := bq_ ad 3; have cP := blk_frozen ad.out 0; have cQ := blk_frozen ad.out 1; have cR := blk_frozen ad.out 2; have cS := blk_frozen ad.out 3) | (go_at_call 19; (with_reducible refine (tree_Cap.calls k am al aq _ _ ar aK _ ?side1 ?side2 ?side3 A6.out).mono ?_); (case side1 => exact (Kd.S_reads' ag.out).2.2); (case side2 => exact (Kd.S_reads' ag.out).2.1); (case side3 => repeat (first | exact (GL.below HRG.out HB.out) | (with_reducible refine GL.alloc ?_ _) | (with_reducible refine GL.drewN ?_ _) | (with_reducible refine GL.drew ?_))); rintro e e6 ⟨bz, rfl, ho0, hb⟩; have ai := aj (Kd.R_elder' (by (with_reducible repeat (first | apply Kd.R_alloc | apply Kd.R_drewN | apply Kd.R_drew)); exact ac.out) (Kd.R_base ho0) hb); have ak := aj (Kd.S_elder' (by (with_reducible repeat (first | apply Kd.S_alloc | apply Kd.S_drewN | apply Kd.S_drew)); exact ag.out) (Kd.R_base ho0) hb); have ap := aj (Kd.R_elder' (by (with_reducible repeat (first | apply Kd.R_alloc | apply Kd.R_drewN | apply Kd.R_drew)); exact au.out) (Kd.R_base ho0) hb); have ao := aj (Kd.R_lower (Kd.R_newB (Kd.R_new' (Kd.R_new' ho0 (Kd.R_lt (by (with_reducible repeat (first | apply Kd.R_alloc | apply Kd.R_drewN | apply Kd.R_drew)); exact ac.out))) (Kd.R_lt (by (with_reducible repeat (first | apply Kd.R_alloc | apply Kd.R_drewN | apply Kd.R_drew)); exact au.out))) (g := af) (o := .cells #[.int .u64 0, .int .u64 0] 36 (0, 0)) (by exact aa.out)) (below_size (by repeat (first | (with_reducible first | exact HB.out | apply below_alloc | apply pw_below_drewN | apply below_drew1 | refine below_set ?_ ah.out | refine below_set ?_ av.out) | exact HB.out)))); have aw := aj (blk_below (g := af) (o := .cells #[.int .u64 0, .int .u64 0] 36 (0, 0)) (by exact aa.out) hb); have aA := aj (blk_below (g := ab) (o := .cells #[.int .i64 am, .int .i64 al, .int .i64 aq, .slice aR ar.length aP] 26 (0, 0)) (by exact ad.out) hb); have az := aj (below_step (by repeat (first | (with_reducible first | exact HB.out | apply below_alloc | apply pw_below_drewN | apply below_drew1 | refine below_set ?_ ah.out | refine below_set ?_ av.out) | exact HB.out)) hb); clear ac; clear ag; clear au; clear aa; clear ad; clear HB; have ac := ai; have ag := ak; have au := ap; have ax := ao; have aa := aw; have ad := aA; have HB := az; clear ai ak ap ao aw aA az; (try clear hb); (try clear hb2); (try clear hk); (try clear hi); (try clear ho0)) | ((with_reducible refine gate_dst (N := 33) rfl ?_); (try (refine gate_guard (by rfl) ?_; dsimp only)); refine Kd.R_lit k36 _ 36 ?hg (N := 33) ?hd (xs := ([(⟨19, 58⟩ : S36)] : List (S36))) (inner := [.int .u64 19, .int .u64 58]) (ok := fun _ => True) (okp := fun _ => True) ?hr ?hp (fun _ hk => hk) trivial (Below.refl _ _) (Nat.le_refl _) (by simp) ?_; (case hd => rfl); (case hg => rfl); (case hr => first | (go_simp; done) | (go_simp; rfl)); (case hp => exact (Reps.c2 (show Kd.M k36 _ _ _ (⟨19, 58⟩ : S36) [.int .u64 19, .int .u64 58] from (k36_mkM _ _ _ (⟨19, 58⟩ : S36) )) (Reps.none _ _))); intro bA bS ho26 hb hg_ hnew_; clear hg_ hnew_; (first | rw [← aZ.out] at ho26 | (simp only [Int.reduceToNat] at ho26; rw [← aZ.out] at ho26)); have ai := aj (Kd.R_elder' (by (with_reducible repeat (first | apply Kd.R_alloc | apply Kd.R_drewN | apply Kd.R_drew)); exact ac.out) (Kd.R_base ho26) hb); have ak := aj (Kd.S_elder' (by (with_reducible repeat (first | apply Kd.S_alloc | apply Kd.S_drewN | apply Kd.S_drew)); exact ag.out) (Kd.R_base ho26) hb); have ap := aj (Kd.R_elder' (by (with_reducible repeat (first | apply Kd.R_alloc | apply Kd.R_drewN | apply Kd.R_drew)); exact au.out) (Kd.R_base ho26) hb); have ao := aj (Kd.R_elder' (by (with_reducible repeat (first | apply Kd.R_alloc | apply Kd.R_drewN | apply Kd.R_drew)); exact ax.out) (Kd.R_base ho26) hb); have aw := aj (Kd.R_lower (Kd.R_newB (Kd.R_new' (Kd.R_new' (Kd.R_new' ho26 (Kd.R_lt (by (with_reducible repeat (first | apply Kd.R_alloc | apply Kd.R_drewN | apply Kd.R_drew)); exact ac.out))) (Kd.R_lt (by (with_reducible repeat (first | apply Kd.R_alloc | apply Kd.R_drewN | apply Kd.R_drew)); exact au.out))) (Kd.R_lt (by (with_reducible repeat (first | apply Kd.R_alloc | apply Kd.R_drewN | apply Kd.R_drew)); exact ax.out))) (g := af) (o := .cells #[.int .u64 0, .int .u64 0] 36 (0, 0)) (by exact aa.out)) (below_size (by repeat (first | (with_reducible first | exact HB.out | apply below_alloc | apply pw_below_drewN | apply below_drew1 | refine below_set ?_ ah.out | refine below_set ?_ av.out) | exact HB.out)))); have aA := aj (blk_below (g := af) (o := .cells #[.int .u64 0, .int .u64 0] 36 (0, 0)) (by exact aa.out) hb); have az := aj (blk_below (g := ab) (o := .cells #[.int .i64 am, .int .i64 al, .int .i64 aq, .slice aR ar.length aP] 26 (0, 0)) (by exact ad.out) hb); have aC := aj (below_step (by repeat (first | (with_reducible first | exact HB.out | apply below_alloc | apply pw_below_drewN | apply below_drew1 | refine below_set ?_ ah.out | refine below_set ?_ av.out) | exact HB.out)) hb); clear ac; clear ag; clear au; clear ax; clear aa; clear ad; clear HB; have ac := ai; have ag := ak; have au := ap; have ax := ao; have aB := aw; have aa := aA; have ad := az; have HB := aC; clear ai ak ap ao aw aA az aC; clear hb ho26; obtain ⟨eD, eE, b1⟩ := Kd.R_slice ax.out; subst b1; obtain ⟨eF, eG, b2⟩ := Kd.R_slice aB.out; subst b2) | (go_at_call 18; (with_reducible refine (attestorref07_Equal.calls k _ _ aK _ _ bd true _ ?side1 ?side2 ?side3 ?side4 A7.out).mono ?_); (case side1 => exact (Kd.R_reads' ax.out).2.2); (case side2 => exact (Kd.R_reads' ax.out).2.1); (case side3 => exact (Kd.R_reads' aB.out).2.2); (case side4 => exact (Kd.R_reads' aB.out).2.1); rintro e w' ⟨rfl, ⟨nd, rfl⟩⟩; have cT : bS.cell? ⟨af, 0, none⟩ = some (.int .u64 0) := bq_ aa 0; have cU : bS.cell? ⟨af, 1, none⟩ = some (.int .u64 0) := bq_ aa 1; have cV := blk_frozen aa.out 0; have cW := blk_frozen aa.out 1) | ((with_reducible refine gate_dst (N := 39) rfl ?_); (try (refine gate_guard (by rfl) ?_; dsimp only)); refine Kd.R_lit k36 _ 36 ?hg (N := 39) ?hd (xs := ([(⟨0, 0⟩ : S36)] : List (S36))) (inner := [.int .u64 0, .int .u64 0]) (ok := fun _ => True) (okp := fun _ => True) ?hr ?hp (fun _ hk => hk) trivial (Below.refl _ _) (Nat.le_refl _) (by simp) ?_; (case hd => rfl); (case hg => rfl); (case hr => first | (go_simp; done) | (go_simp; rfl)); (case hp => exact (Reps.c2 (show Kd.M k36 _ _ _ (⟨0, 0⟩ : S36) [.int .u64 0, .int .u64 0] from (k36_mkM _ _ _ (⟨0, 0⟩ : S36) )) (Reps.none _ _))); intro b3 e7 ho31 hb hg_ hnew_; clear hg_ hnew_; (first | rw [← a9.out] at ho31 | (simp only [Int.reduceToNat] at ho31; rw [← a9.out] at ho31)); have ai := aj (Kd.R_elder' (by (with_reducible repeat (first | apply Kd.R_alloc | apply Kd.R_drewN | apply Kd.R_drew)); exact ac.out) (Kd.R_base ho31) hb); have ak := aj (Kd.S_elder' (by (with_reducible repeat (first | apply Kd.S_alloc | apply Kd.S_drewN | apply Kd.S_drew)); exact ag.out) (Kd.R_base ho31) hb); have ap := aj (Kd.R_elder' (by (with_reducible repeat (first | apply Kd.R_alloc | apply Kd.R_drewN | apply Kd.R_drew)); exact au.out) (Kd.R_base ho31) hb); have ao := aj (Kd.R_elder' (by (with_reducible repeat (first | apply Kd.R_alloc | apply Kd.R_drewN | apply Kd.R_drew)); exact ax.out) (Kd.R_base ho31) hb); have aw := aj (Kd.R_elder' (by (with_reducible repeat (first | apply Kd.R_alloc | apply Kd.R_drewN | apply Kd.R_drew)); exact aB.out) (Kd.R_base ho31) hb); have aA := aj (Kd.R_lower (Kd.R_newB (Kd.R_new' (Kd.R_new' (Kd.R_new' (Kd.R_new' ho31 (Kd.R_lt (by (with_reducible repeat (first | apply Kd.R_alloc | apply Kd.R_drewN | apply Kd.R_drew)); exact ac.out))) (Kd.R_lt (by (with_reducible repeat (first | apply Kd.R_alloc | apply Kd.R_drewN | apply Kd.R_drew)); exact au.out))) (Kd.R_lt (by (with_reducible repeat (first | apply Kd.R_alloc | apply Kd.R_drewN | apply Kd.R_drew)); exact ax.out))) (Kd.R_lt (by (with_reducible repeat (first | apply Kd.R_alloc | apply Kd.R_drewN | apply Kd.R_drew)); exact aB.out))) (g := af) (o := .cells #[.int .u64 0, .int .u64 0] 36 (0, 0)) (by exact aa.out)) (below_size (by repeat (first | (with_reducible first | exact HB.out | apply below_alloc | apply pw_below_drewN | apply below_drew1 | refine below_set ?_ ah.out | refine below_set ?_ av.out) | exact HB.out)))); have az := aj (blk_below (g := af) (o := .cells #[.int .u64 0, .int .u64 0] 36 (0, 0)) (by exact aa.out) hb); have aC := aj (blk_below (g := ab) (o := .cells #[.int .i64 am, .int .i64 al, .int .i64 aq, .slice aR ar.length aP] 26 (0, 0)) (by exact ad.out) hb); have aE := aj (below_step (by repeat (first | (with_reducible first | exact HB.out | apply below_alloc | apply pw_below_drewN | apply below_drew1 | refine below_set ?_ ah.out | refine below_set ?_ av.out) | exact HB.out)) hb); clear ac; clear ag; clear au; clear ax; clear aB; clear aa; clear ad; clear HB; have ac := ai; have ag := ak; have au := ap; have ax := ao; have aB := aw; have aJ := aA; have aa := az; have ad := aC; have HB := aE; clear ai ak ap ao aw aA az aC aE; clear hb ho31; obtain ⟨eH, eI, b4⟩ := Kd.R_slice au.out; subst b4; obtain ⟨eJ, eK, b5⟩ := Kd.R_slice aJ.out; subst b5) | (go_at_call 18; (with_reducible refine (attestorref07_Equal.calls k _ _ aI _ _ bg true _ ?side1 ?side2 ?side3 ?side4 A9.out).mono ?_); (case side1 => exact (Kd.R_reads' au.out).2.2); (case side2 => exact (Kd.R_reads' au.out).2.1); (case side3 => exact (Kd.R_reads' aJ.out).2.2); (case side4 => exact (Kd.R_reads' aJ.out).2.1); rintro e w' ⟨rfl, ⟨nd, rfl⟩⟩) | ((with_reducible refine gate_dst (N := 44) rfl ?_); (try (refine gate_guard (by rfl) ?_; dsimp only)); refine Kd.R_lit k36 _ 36 ?hg (N := 44) ?hd (xs := ([(⟨19, 58⟩ : S36)] : List (S36))) (inner := [.int .u64 19, .int .u64 58]) (ok := fun _ => True) (okp := fun _ => True) ?hr ?hp (fun _ hk => hk) trivial (Below.refl _ _) (Nat.le_refl _) (by simp) ?_; (case hd => rfl); (case hg => rfl); (case hr => first | (go_simp; done) | (go_simp; rfl)); (case hp => exact (Reps.c2 (show Kd.M k36 _ _ _ (⟨19, 58⟩ : S36) [.int .u64 19, .int .u64 58] from (k36_mkM _ _ _ (⟨19, 58⟩ : S36) )) (Reps.none _ _))); intro eL bT ho35 hb hg_ hnew_; clear hg_ hnew_; (first | rw [← bh.out] at ho35 | (simp only [Int.reduceToNat] at ho35; rw [← bh.out] at ho35)); have ai := aj (Kd.R_elder' (by (with_reducible repeat (first | apply Kd.R_alloc | apply Kd.R_drewN | apply Kd.R_drew)); exact ac.out) (Kd.R_base ho35) hb); have ak := aj (Kd.S_elder' (by (with_reducible repeat (first | apply Kd.S_alloc | apply Kd.S_drewN | apply Kd.S_drew)); exact ag.out) (Kd.R_base ho35) hb); have ap := aj (Kd.R_elder' (by (with_reducible repeat (first | apply Kd.R_alloc | apply Kd.R_drewN | apply Kd.R_drew)); exact au.out) (Kd.R_base ho35) hb); have ao := aj (Kd.R_elder' (by (with_reducible repeat (first | apply Kd.R_alloc | apply Kd.R_drewN | apply Kd.R_drew)); exact ax.out) (Kd.R_base ho35) hb); have aw := aj (Kd.R_elder' (by (with_reducible repeat (first | apply Kd.R_alloc | apply Kd.R_drewN | apply Kd.R_drew)); exact aB.out) (Kd.R_base ho35) hb); have aA := aj (Kd.R_elder' (by (with_reducible repeat (first | apply Kd.R_alloc | apply Kd.R_drewN | apply Kd.R_drew)); exact aJ.out) (Kd.R_base ho35) hb); have az := aj (Kd.R_lower (Kd.R_newB (Kd.R_new' (Kd.R_new' (Kd.R_new' (Kd.R_new' (Kd.R_new' ho35 (Kd.R_lt (by (with_reducible repeat (first | apply Kd.R_alloc | apply Kd.R_drewN | apply Kd.R_drew)); exact ac.out))) (Kd.R_lt (by (with_reducible repeat (first | apply Kd.R_alloc | apply Kd.R_drewN | apply Kd.R_drew)); exact au.out))) (Kd.R_lt (by (with_reducible repeat (first | apply Kd.R_alloc | apply Kd.R_drewN | apply Kd.R_drew)); exact ax.out))) (Kd.R_lt (by (with_reducible repeat (first | apply Kd.R_alloc | apply Kd.R_drewN | apply Kd.R_drew)); exact aB.out))) (Kd.R_lt (by (with_reducible repeat (first | apply Kd.R_alloc | apply Kd.R_drewN | apply Kd.R_drew)); exact aJ.out))) (g := af) (o := .cells #[.int .u64 0, .int .u64 0] 36 (0, 0)) (by exact aa.out)) (below_size (by repeat (first | (with_reducible first | exact HB.out | apply below_alloc | apply pw_below_drewN | apply below_drew1 | refine below_set ?_ ah.out | refine below_set ?_ av.out) | exact HB.out)))); have aC := aj (blk_below (g := af) (o := .cells #[.int .u64 0, .int .u64 0] 36 (0, 0)) (by exact aa.out) hb); have aE := aj (blk_below (g := ab) (o := .cells #[.int .i64 am, .int .i64 al, .int .i64 aq, .slice aR ar.length aP] 26 (0, 0)) (by exact ad.out) hb); have bf := aj (below_step (by repeat (first | (with_reducible first | exact HB.out | apply below_alloc | apply pw_below_drewN | apply below_drew1 | refine below_set ?_ ah.out | refine below_set ?_ av.out) | exact HB.out)) hb); clear ac; clear ag; clear au; clear ax; clear aB; clear aJ; clear aa; clear ad; clear HB; have ac := ai; have ag := ak; have au := ap; have ax := ao; have aB := aw; have aJ := aA; have a0 := az; have aa := aC; have ad := aE; have HB := bf; clear ai ak ap ao aw aA az aC aE bf; clear hb ho35; have cX : bT.cell? ⟨af, 0, none⟩ = some (.int .u64 0) := bq_ aa 0; have cY : bT.cell? ⟨af, 1, none⟩ = some (.int .u64 0) := bq_ aa 1; have cZ := blk_frozen aa.out 0; have c0 := blk_frozen aa.out 1; obtain ⟨eM, eN, b6⟩ := Kd.R_slice a0.out; subst b6) | (go_at_call 26; (with_reducible refine (tree_Check.calls 0 _ _ bu 1 0 0 _ _ aI aF _ ?side1 ?side2 ?side3 ?side4 ?side5 eo.out).mono ?_); (case side1 => exact (Kd.R_reads' a0.out).2.2); (case side2 => exact (Kd.R_reads' a0.out).2.1); (case side3 => exact (Kd.R_reads' au.out).2.2); (case side4 => exact (Kd.R_reads' au.out).2.1); (case side5 => repeat (first | exact (GL.below HRG.out HB.out) | (with_reducible refine GL.alloc ?_ _) | (with_reducible refine GL.drewN ?_ _) | (with_reducible refine GL.drew ?_))); rintro e e8 ⟨rfl, hb⟩; have ai := aj (Kd.R_below (by (with_reducible repeat (first | apply Kd.R_alloc | apply Kd.R_drewN | apply Kd.R_drew)); exact ac.out) hb); have ak := aj (Kd.S_below (by (with_reducible repeat (first | apply Kd.S_alloc | apply Kd.S_drewN | apply Kd.S_drew)); exact ag.out) hb); have ap := aj (Kd.R_below (by (with_reducible repeat (first | apply Kd.R_alloc | apply Kd.R_drewN | apply Kd.R_drew)); exact au.out) hb); have ao := aj (Kd.R_below (by (with_reducible repeat (first | apply Kd.R_alloc | apply Kd.R_drewN | apply Kd.R_drew)); exact ax.out) hb); have aw := aj (Kd.R_below (by (with_reducible repeat (first | apply Kd.R_alloc | apply Kd.R_drewN | apply Kd.R_drew)); exact aB.out) hb); have aA := aj (Kd.R_below (by (with_reducible repeat (first | apply Kd.R_alloc | apply Kd.R_drewN | apply Kd.R_drew)); exact aJ.out) hb); have az := aj (Kd.R_below (by (with_reducible repeat (first | apply Kd.R_alloc | apply Kd.R_drewN | apply Kd.R_drew)); exact a0.out) hb); have aC := aj (blk_below (g := af) (o := .cells #[.int .u64 0, .int .u64 0] 36 (0, 0)) (by exact aa.out) hb); have aE := aj (blk_below (g := ab) (o := .cells #[.int .i64 am, .int .i64 al, .int .i64 aq, .slice aR ar.length aP] 26 (0, 0)) (by exact ad.out) hb); have bf := aj (below_step (by repeat (first | (with_reducible first | exact HB.out | apply below_alloc | apply pw_below_drewN | apply below_drew1 | refine below_set ?_ ah.out | refine below_set ?_ av.out) | exact HB.out)) hb); clear ac; clear ag; clear au; clear ax; clear aB; clear aJ; clear a0; clear aa; clear ad; clear HB; have ac := ai; have ag := ak; have au := ap; have ax := ao; have aB := aw; have aJ := aA; have a0 := az; have aa := aC; have ad := aE; have HB := bf; clear ai ak ap ao aw aA az aC aE bf; (try clear hb); (try clear hb2); (try clear hk); (try clear hi)))
      go_ret
      exact ⟨by first | rfl | (simp [errW_none, errW_some] <;> rfl) | (simp [*, errW_none, errW_some] <;> rfl), HB.out⟩
     ·replace c10 := Bool.eq_false_iff.mpr c10
      subst c10
      have H1 : (some false) = some r := by rw [if_neg (show ¬ (false = true) by decide)] at H; exact H
      clear H
      have H := H1
      clear H1
      cases (Option.some.inj H).trans HLR.out
    ·replace c8 := Bool.eq_false_iff.mpr c8
     subst c8
     have H1 : (some false) = some r := by rw [if_neg (show ¬ (false = true) by decide)] at H; exact H
     clear H
     have H := H1
     clear H1
     cases (Option.some.inj H).trans HLR.out
   ·rw [if_neg c5] at H
    have c5b0 : (al == 1) = false := beq_eq_false_iff_ne.mpr c5
    have c5b1 : (al != 1) = true := bne_iff_ne.mpr c5
    cases (Option.some.inj H).trans HLR.out
  ·rw [if_neg c4] at H
   have c4b0 : (aQ == 0) = false := beq_eq_false_iff_ne.mpr c4
   have c4b1 : (aQ != 0) = true := bne_iff_ne.mpr c4
   cases (Option.some.inj H).trans HLR.out
 ·rw [if_neg c3] at H
  have c3b0 : (aO == 0) = false := beq_eq_false_iff_ne.mpr c3
  have c3b1 : (aO != 0) = true := bne_iff_ne.mpr c3
  cases (Option.some.inj H).trans HLR.out
end Go.Proofs.YtpnpmeogffodgaaDoor.Q
end
section
namespace Go.Proofs.YtpnpmeogffodgaaDoor.Q
open Go.RowKit Go.Proofs.YtpnpmeogffodgaaDoorW.PrintWords Go.Proofs.YtpnpmeogffodgaaDoorW.PrintLast Go.Proofs.YtpnpmeogffodgaaDoorW.PrintMore
attribute [local go_sem] max2_int min2_int max_two min_two max_three min_three max_four min_four run_store_fnV run_store_fnc run_store_nfn   -- for this text's walks alone
set_option linter.unusedVariables false
set_option linter.unusedSimpArgs false

/-! ### attestorref07_Proper: function 49 -/
def attestorref07_Proper.f (a0 : Int) (a1_0 : Int) (a1_1 : Int) : Option (Bool) := (attestorref01_P.f a0).bind fun t231 => (if a1_0 < t231 then (some (decide (a1_1 < t231))) else (some false))
set_option maxHeartbeats 8000000 in
set_option maxRecDepth 100000 in
theorem attestorref07_Proper.calls (a0 : Int) (a1_0 : Int) (a1_1 : Int) (r : Bool) (w : World) (h : attestorref07_Proper.f a0 a1_0 a1_1 = some r) :
    Calls Tryd.prog 49 #[.int .i64 a0, .agg #[.int .u64 a1_0, .int .u64 a1_1]] w fun e w' => e = .returned (.bool r) ∧ Below w.heap.size w w' := by
  have hu36 := Tryd.underlying36
  have HB := Aside0.mk (Below.refl w.heap.size w)
  have H : ((attestorref01_P.f a0).bind fun t231 => (if a1_0 < t231 then (some (decide (a1_1 < t231))) else (some false))) = some r := h
  clear h
  replace H := Option.bind_eq_some_iff.mp H
  obtain ⟨t231, A30, H⟩ := H
  replace H : (if a1_0 < t231 then (some (decide (a1_1 < t231))) else (some false)) = some r := H
  have A3 := Aside0.mk A30
  clear A30
  by_cases c4 : a1_0 < t231
  · rw [if_pos c4] at H
    have c4b0 : decide (a1_0 < t231) = true := decide_eq_true c4
    clear c4
    obtain rfl := Option.some.inj H
    go_enter Tryd.func49, Tryd.ntmps49
    go_wp2_with (first | ((with_reducible refine gate_dst (N := 3) rfl ?_); refine box_event ?hg (N := 3) ?hd (cs := #[.int .u64 a1_0, .int .u64 a1_1]) (t := 36) ?hr ?_; (case hd => rfl); (case hg => rfl); (case hr => first | (go_simp; done) | (go_simp; rfl)); intro gb230 hg w5 hbox hb; have n0_ := Aside0.mk (below_step (by repeat (first | (with_reducible first | exact HB.out | apply below_alloc | apply pw_below_drewN | apply below_drew1) | exact HB.out)) hb); have n1_ := Aside0.mk (hbox); have n2_ := Aside0.mk ((by rw [hg]; exact (below_size (by repeat (first | (with_reducible first | exact HB.out | apply below_alloc | apply pw_below_drewN | apply below_drew1) | exact HB.out))) : w.heap.size ≤ gb230)); have n3_ := Aside0.mk ((by rw [hg]; exact (below_size (by repeat (first | (with_reducible first | exact HB.out | apply below_alloc | apply pw_below_drewN | apply below_drew1) | exact HB.out))) : w.heap.size ≤ gb230)); clear HB; have HB := n0_; have BK230 := n1_; have GW230 := n2_; have GE230 := n3_; clear n0_ n1_ n2_ n3_; clear hb hbox hg; have hcz6_0 : w5.cell? ⟨gb230, 0, none⟩ = some (.int .u64 a1_0) := (blk_cell BK230.out 0).trans rfl; have hcz6_1 : w5.cell? ⟨gb230, 1, none⟩ = some (.int .u64 a1_1) := (blk_cell BK230.out 1).trans rfl; have hfz6_0 := blk_frozen BK230.out 0; have hfz6_1 := blk_frozen BK230.out 1) | (go_at_call 34; (with_reducible refine (attestorref01_P.calls a0 t231 _ A3.out).mono ?_); rintro e w' ⟨rfl, ⟨nd, rfl⟩⟩; (try first | exact ⟨rfl, _, World.drewN_drewN _ _ _⟩ | exact ⟨rfl, _, Eq.trans (World.drewN_drewN _ _ _) (congrArg (World.drewN _) (Nat.add_assoc _ _ _))⟩)))
    repeat (go_quiet (first | ((with_reducible refine gate_dst (N := 3) rfl ?_); refine box_event ?hg (N := 3) ?hd (cs := #[.int .u64 a1_0, .int .u64 a1_1]) (t := 36) ?hr ?_; (case hd => rfl); (case hg => rfl); (case hr => first | (go_simp; done) | (go_simp; rfl)); intro gb230 hg w5 hbox hb; have n0_ := Aside0.mk (below_step (by repeat (first | (with_reducible first | exact HB.out | apply below_alloc | apply pw_below_drewN | apply below_drew1) | exact HB.out)) hb); have n1_ := Aside0.mk (hbox); have n2_ := Aside0.mk ((by rw [hg]; exact (below_size (by repeat (first | (with_reducible first | exact HB.out | apply below_alloc | apply pw_below_drewN | apply below_drew1) | exact HB.out))) : w.heap.size ≤ gb230)); have n3_ := Aside0.mk ((by rw [hg]; exact (below_size (by repeat (first | (with_reducible first | exact HB.out | apply below_alloc | apply pw_below_drewN | apply below_drew1) | exact HB.out))) : w.heap.size ≤ gb230)); clear HB; have HB := n0_; have BK230 := n1_; have GW230 := n2_; have GE230 := n3_; clear n0_ n1_ n2_ n3_; clear hb hbox hg; have hcz6_0 : w5.cell? ⟨gb230, 0, none⟩ = some (.int .u64 a1_0) := (blk_cell BK230.out 0).trans rfl; have hcz6_1 : w5.cell? ⟨gb230, 1, none⟩ = some (.int .u64 a1_1) := (blk_cell BK230.out 1).trans rfl; have hfz6_0 := blk_frozen BK230.out 0; have hfz6_1 := blk_frozen BK230.out 1) | (go_at_call 34; (with_reducible refine (attestorref01_P.calls a0 t231 _ A3.out).mono ?_); rintro e w' ⟨rfl, ⟨nd, rfl⟩⟩; (try first | exact ⟨rfl, _, World.drewN_drewN _ _ _⟩ | exact ⟨rfl, _, Eq.trans (World.drewN_drewN _ _ _) (congrArg (World.drewN _) (Nat.add_assoc _ _ _))⟩))); try go_wp2_with (first | ((with_reducible refine gate_dst (N := 3) rfl ?_); refine box_event ?hg (N := 3) ?hd (cs := #[.int .u64 a1_0, .int .u64 a1_1]) (t := 36) ?hr ?_; (case hd => rfl); (case hg => rfl); (case hr => first | (go_simp; done) | (go_simp; rfl)); intro gb230 hg w5 hbox hb; have n0_ := Aside0.mk (below_step (by repeat (first | (with_reducible first | exact HB.out | apply below_alloc | apply pw_below_drewN | apply below_drew1) | exact HB.out)) hb); have n1_ := Aside0.mk (hbox); have n2_ := Aside0.mk ((by rw [hg]; exact (below_size (by repeat (first | (with_reducible first | exact HB.out | apply below_alloc | apply pw_below_drewN | apply below_drew1) | exact HB.out))) : w.heap.size ≤ gb230)); have n3_ := Aside0.mk ((by rw [hg]; exact (below_size (by repeat (first | (with_reducible first | exact HB.out | apply below_alloc | apply pw_below_drewN | apply below_drew1) | exact HB.out))) : w.heap.size ≤ gb230)); clear HB; have HB := n0_; have BK230 := n1_; have GW230 := n2_; have GE230 := n3_; clear n0_ n1_ n2_ n3_; clear hb hbox hg; have hcz6_0 : w5.cell? ⟨gb230, 0, none⟩ = some (.int .u64 a1_0) := (blk_cell BK230.out 0).trans rfl; have hcz6_1 : w5.cell? ⟨gb230, 1, none⟩ = some (.int .u64 a1_1) := (blk_cell BK230.out 1).trans rfl; have hfz6_0 := blk_frozen BK230.out 0; have hfz6_1 := blk_frozen BK230.out 1) | (go_at_call 34; (with_reducible refine (attestorref01_P.calls a0 t231 _ A3.out).mono ?_); rintro e w' ⟨rfl, ⟨nd, rfl⟩⟩; (try first | exact ⟨rfl, _, World.drewN_drewN _ _ _⟩ | exact ⟨rfl, _, Eq.trans (World.drewN_drewN _ _ _) (congrArg (World.drewN _) (Nat.add_assoc _ _ _))⟩))))
    go_ret
    exact ⟨by first | rfl | (simp [errW_none, errW_some] <;> rfl) | (simp [*, errW_none, errW_some] <;> rfl), by repeat (first | (with_reducible first | exact HB.out | apply below_alloc | apply pw_below_drewN | apply below_drew1 | refine below_set ?_ GE230.out) | exact HB.out)⟩
  · rw [if_neg c4] at H
    have c4b0 : decide (a1_0 < t231) = false := decide_eq_false c4
    clear c4
    obtain rfl := Option.some.inj H
    go_enter Tryd.func49, Tryd.ntmps49
    go_wp2_with (first | ((with_reducible refine gate_dst (N := 3) rfl ?_); refine box_event ?hg (N := 3) ?hd (cs := #[.int .u64 a1_0, .int .u64 a1_1]) (t := 36) ?hr ?_; (case hd => rfl); (case hg => rfl); (case hr => first | (go_simp; done) | (go_simp; rfl)); intro gb230 hg w7 hbox hb; have n0_ := Aside0.mk (below_step (by repeat (first | (with_reducible first | exact HB.out | apply below_alloc | apply pw_below_drewN | apply below_drew1) | exact HB.out)) hb); have n1_ := Aside0.mk (hbox); have n2_ := Aside0.mk ((by rw [hg]; exact (below_size (by repeat (first | (with_reducible first | exact HB.out | apply below_alloc | apply pw_below_drewN | apply below_drew1) | exact HB.out))) : w.heap.size ≤ gb230)); have n3_ := Aside0.mk ((by rw [hg]; exact (below_size (by repeat (first | (with_reducible first | exact HB.out | apply below_alloc | apply pw_below_drewN | apply below_drew1) | exact HB.out))) : w.heap.size ≤ gb230)); clear HB; have HB := n0_; have BK230 := n1_; have GW230 := n2_; have GE230 := n3_; clear n0_ n1_ n2_ n3_; clear hb hbox hg; have hcz8_0 : w7.cell? ⟨gb230, 0, none⟩ = some (.int .u64 a1_0) := (blk_cell BK230.out 0).trans rfl; have hcz8_1 : w7.cell? ⟨gb230, 1, none⟩ = some (.int .u64 a1_1) := (blk_cell BK230.out 1).trans rfl; have hfz8_0 := blk_frozen BK230.out 0; have hfz8_1 := blk_frozen BK230.out 1) | (go_at_call 34; (with_reducible refine (attestorref01_P.calls a0 t231 _ A3.out).mono ?_); rintro e w' ⟨rfl, ⟨nd, rfl⟩⟩; (try first | exact ⟨rfl, _, World.drewN_drewN _ _ _⟩ | exact ⟨rfl, _, Eq.trans (World.drewN_drewN _ _ _) (congrArg (World.drewN _) (Nat.add_assoc _ _ _))⟩)))
    repeat (go_quiet (first | ((with_reducible refine gate_dst (N := 3) rfl ?_); refine box_event ?hg (N := 3) ?hd (cs := #[.int .u64 a1_0, .int .u64 a1_1]) (t := 36) ?hr ?_; (case hd => rfl); (case hg => rfl); (case hr => first | (go_simp; done) | (go_simp; rfl)); intro gb230 hg w7 hbox hb; have n0_ := Aside0.mk (below_step (by repeat (first | (with_reducible first | exact HB.out | apply below_alloc | apply pw_below_drewN | apply below_drew1) | exact HB.out)) hb); have n1_ := Aside0.mk (hbox); have n2_ := Aside0.mk ((by rw [hg]; exact (below_size (by repeat (first | (with_reducible first | exact HB.out | apply below_alloc | apply pw_below_drewN | apply below_drew1) | exact HB.out))) : w.heap.size ≤ gb230)); have n3_ := Aside0.mk ((by rw [hg]; exact (below_size (by repeat (first | (with_reducible first | exact HB.out | apply below_alloc | apply pw_below_drewN | apply below_drew1) | exact HB.out))) : w.heap.size ≤ gb230)); clear HB; have HB := n0_; have BK230 := n1_; have GW230 := n2_; have GE230 := n3_; clear n0_ n1_ n2_ n3_; clear hb hbox hg; have hcz8_0 : w7.cell? ⟨gb230, 0, none⟩ = some (.int .u64 a1_0) := (blk_cell BK230.out 0).trans rfl; have hcz8_1 : w7.cell? ⟨gb230, 1, none⟩ = some (.int .u64 a1_1) := (blk_cell BK230.out 1).trans rfl; have hfz8_0 := blk_frozen BK230.out 0; have hfz8_1 := blk_frozen BK230.out 1) | (go_at_call 34; (with_reducible refine (attestorref01_P.calls a0 t231 _ A3.out).mono ?_); rintro e w' ⟨rfl, ⟨nd, rfl⟩⟩; (try first | exact ⟨rfl, _, World.drewN_drewN _ _ _⟩ | exact ⟨rfl, _, Eq.trans (World.drewN_drewN _ _ _) (congrArg (World.drewN _) (Nat.add_assoc _ _ _))⟩))); try go_wp2_with (first | ((with_reducible refine gate_dst (N := 3) rfl ?_); refine box_event ?hg (N := 3) ?hd (cs := #[.int .u64 a1_0, .int .u64 a1_1]) (t := 36) ?hr ?_; (case hd => rfl); (case hg => rfl); (case hr => first | (go_simp; done) | (go_simp; rfl)); intro gb230 hg w7 hbox hb; have n0_ := Aside0.mk (below_step (by repeat (first | (with_reducible first | exact HB.out | apply below_alloc | apply pw_below_drewN | apply below_drew1) | exact HB.out)) hb); have n1_ := Aside0.mk (hbox); have n2_ := Aside0.mk ((by rw [hg]; exact (below_size (by repeat (first | (with_reducible first | exact HB.out | apply below_alloc | apply pw_below_drewN | apply below_drew1) | exact HB.out))) : w.heap.size ≤ gb230)); have n3_ := Aside0.mk ((by rw [hg]; exact (below_size (by repeat (first | (with_reducible first | exact HB.out | apply below_alloc | apply pw_below_drewN | apply below_drew1) | exact HB.out))) : w.heap.size ≤ gb230)); clear HB; have HB := n0_; have BK230 := n1_; have GW230 := n2_; have GE230 := n3_; clear n0_ n1_ n2_ n3_; clear hb hbox hg; have hcz8_0 : w7.cell? ⟨gb230, 0, none⟩ = some (.int .u64 a1_0) := (blk_cell BK230.out 0).trans rfl; have hcz8_1 : w7.cell? ⟨gb230, 1, none⟩ = some (.int .u64 a1_1) := (blk_cell BK230.out 1).trans rfl; have hfz8_0 := blk_frozen BK230.out 0; have hfz8_1 := blk_frozen BK230.out 1) | (go_at_call 34; (with_reducible refine (attestorref01_P.calls a0 t231 _ A3.out).mono ?_); rintro e w' ⟨rfl, ⟨nd, rfl⟩⟩; (try first | exact ⟨rfl, _, World.drewN_drewN _ _ _⟩ | exact ⟨rfl, _, Eq.trans (World.drewN_drewN _ _ _) (congrArg (World.drewN _) (Nat.add_assoc _ _ _))⟩))))
    go_ret
    exact ⟨by first | rfl | (simp [errW_none, errW_some] <;> rfl) | (simp [*, errW_none, errW_some] <;> rfl), by repeat (first | (with_reducible first | exact HB.out | apply below_alloc | apply pw_below_drewN | apply below_drew1 | refine below_set ?_ GE230.out) | exact HB.out)⟩

end Go.Proofs.YtpnpmeogffodgaaDoor.Q
end
section
namespace Go.Proofs.YtpnpmeogffodgaaDoor.Q
open Go.RowKit Go.Proofs.YtpnpmeogffodgaaDoorW.PrintWords Go.Proofs.YtpnpmeogffodgaaDoorW.PrintLast Go.Proofs.YtpnpmeogffodgaaDoorW.PrintMore
attribute [local go_sem] max2_int min2_int max_two min_two max_three min_three max_four min_four run_store_fnV run_store_fnc run_store_nfn   -- for this text's walks alone
set_option linter.unusedVariables false
set_option linter.unusedSimpArgs false

/-! ### attestorref07_All: function 43 -/
def attestorref07_All.l0 : Nat → Int → List (S36) → Int → Option (Bool)
  | 0, _, _, _ => none
  | k + 1, x0, x1, x5 => if x5 < (x1.length : Int) then (if 0 ≤ x5 then ((attestorref07_Proper.f x0 ((rd_T36 x1 x5).f0) ((rd_T36 x1 x5).f1)).bind fun t233 => (if t233 = true then (attestorref07_All.l0 k x0 x1 (wrap64 (x5 + 1))) else (some false))) else (none)) else (some true)
def attestorref07_All.f (k : Nat) (a0 : Int) (l1 : List (S36)) : Option (Bool) := attestorref07_All.l0 k a0 l1 0
theorem attestorref07_All.mono_l : ∀ k, (∀ y0 y1 y2, LeO (attestorref07_All.l0 k y0 y1 y2) (attestorref07_All.l0 (k + 1) y0 y1 y2))
  | 0 => fun _ _ _ r h => by simp [attestorref07_All.l0] at h
  | k + 1 => by
    have ih0 := attestorref07_All.mono_l k
    · intro y0 y1 y2
      unfold attestorref07_All.l0
      repeat' first
      | (with_reducible exact ih0 _ _ _)
      | (with_reducible exact LeO.refl _)
      | (with_reducible exact LeO.none _)
      | (with_reducible refine LeO.ite ?_ ?_)
      | (with_reducible refine LeO.bind ?_ (fun _ => ?_))
      | exact ih0 _ _ _
      | exact LeO.none _
      | refine LeO.ite ?_ ?_
      | refine LeO.bind ?_ (fun _ => ?_)
theorem attestorref07_All.mono : ∀ a0 a1 k, LeO (attestorref07_All.f k a0 a1) (attestorref07_All.f (k + 1) a0 a1) := by
  intro a0 a1 k
  have ih0 := attestorref07_All.mono_l k
  unfold attestorref07_All.f
  repeat' first
      | (with_reducible exact ih0 _ _ _)
      | (with_reducible exact LeO.refl _)
      | (with_reducible exact LeO.none _)
      | (with_reducible refine LeO.ite ?_ ?_)
      | (with_reducible refine LeO.bind ?_ (fun _ => ?_))
      | exact ih0 _ _ _
      | exact LeO.none _
      | refine LeO.ite ?_ ?_
      | refine LeO.bind ?_ (fun _ => ?_)
set_option maxHeartbeats 8000000 in
set_option maxRecDepth 100000 in
theorem attestorref07_All.calls (k : Nat) (a0 : Int) (A1 : Option Addr) (c1 : Nat) (l1 : List (S36)) (r : Bool) (w : World) (hr1 : Kd.C k36 w A1 l1.length l1) (hc1 : l1.length ≤ c1) (h : attestorref07_All.f k a0 l1 = some r) :
    Calls Tryd.prog 43 #[.int .i64 a0, .slice A1 l1.length c1] w fun e w' => e = .returned (.bool r) ∧ Below w.heap.size w w' := by
  have hu36 := Tryd.underlying36
  have HR1 := Aside0.mk hr1
  have HC1 := Aside0.mk hc1
  clear hr1 hc1
  have HB := Aside0.mk (Below.refl w.heap.size w)
  have H : (attestorref07_All.l0 k a0 l1 0) = some r := h
  clear h
  have H' := Aside0.mk H
  clear H
  go_enter Tryd.func43, Tryd.ntmps43
  go_wp2
  go_loopg [5] k (fun kq v5 w' => ∃ (x5_1 : Int), v5 = .int .i64 x5_1 ∧ Aside0 (attestorref07_All.l0 kq a0 l1 x5_1 = some r) ∧ Aside0 (kq ≤ k) ∧ Aside0 (Below w.heap.size w w'))
  case atStart => exact ⟨(0), (by first | rfl | (simp; done) | (simp [*]; done) | (simp; rfl) | (simp; decide +kernel)), H', ⟨Nat.le_refl _⟩, ⟨by repeat (first | (with_reducible first | exact HB.out | apply below_alloc | apply pw_below_drewN | apply below_drew1) | exact HB.out)⟩⟩
  case round =>
    clear H'
    try clear c1
    try clear p2
    obtain ⟨x5_1, rfl, HA, HK1, HB⟩ := hrel
    cases gk with
    | zero => exact absurd HA.out (by simp [attestorref07_All.l0])
    | succ k1 =>
      have H := HA.out
      clear HA
      simp only [attestorref07_All.l0] at H
      by_cases c3 : x5_1 < (l1.length : Int)
      · rw [if_pos c3] at H
        have c3b0 : decide (x5_1 < (l1.length : Int)) = true := decide_eq_true c3
        clear c3
        by_cases c4 : 0 ≤ x5_1
        · rw [if_pos c4] at H
          have c4b0 : decide (0 ≤ x5_1) = true := decide_eq_true c4
          clear c4
          replace H := Option.bind_eq_some_iff.mp H
          obtain ⟨t233, A50, H⟩ := H
          replace H : (if t233 = true then (attestorref07_All.l0 k1 a0 l1 (wrap64 (x5_1 + 1))) else (some false)) = some r := H
          have A5 := Aside0.mk A50
          clear A50
          by_cases c6 : t233 = true
          · subst c6
            have H1 : (attestorref07_All.l0 k1 a0 l1 (wrap64 (x5_1 + 1))) = some r := by rw [if_pos rfl] at H; exact H
            clear H
            have H := H1
            clear H1
            have H' := Aside0.mk H
            clear H
            have p232 : 0 ≤ (x5_1 : Int) := of_decide_eq_true (by first | (with_reducible assumption) | assumption)
            have q232 : x5_1 < (l1.length : Int) := of_decide_eq_true (by first | (with_reducible assumption) | assumption)
            obtain ⟨ad232, e232, hx232_0, hx232_1⟩ := at_T36 HR1.out x5_1 p232 q232
            cases e232
            replace hx232_0 := (HB.out.cell (World.block_lt_of_cell? w _ hx232_0)).trans hx232_0
            replace hx232_1 := (HB.out.cell (World.block_lt_of_cell? w _ hx232_1)).trans hx232_1
            replace p232 := eq_true p232
            replace q232 := eq_true q232
            go_wp2_with (first | ((with_reducible refine gate_callee (f := 49) rfl ?_); refine goesL_ (some 17) rfl rfl Tryd.func49 (by kernel_rfl) rfl #[.int .i64 a0, .agg #[.int .u64 ((rd_T36 l1 x5_1).f0), .int .u64 ((rd_T36 l1 x5_1).f1)]] rfl (by (try simp only [List.map_toArray, List.map_cons, List.map_nil]); first | done | rfl | (simp only [List.length_drop, List.length_take]; rfl) | (go_simp; done) | (go_simp; rw [Int.tmod_eq_emod_of_nonneg (by omega)]; omega)) ?_; (with_reducible refine (attestorref07_Proper.calls a0 ((rd_T36 l1 x5_1).f0) ((rd_T36 l1 x5_1).f1) true _ A5.out).mono ?_); rintro e w7 ⟨rfl, hb⟩; refine ⟨_, rfl, ?_⟩; have n0_ := Aside0.mk (below_step (by repeat (first | (with_reducible first | exact HB.out | apply below_alloc | apply pw_below_drewN | apply below_drew1) | exact HB.out)) hb); clear HB; have HB := n0_; clear n0_; (try clear hb); (try clear hb2); (try clear hk); (try clear hi)))
            go_roundg k1
            case measure => have := HK1.out; omega
            case rel => exact ⟨(wrap64 (x5_1 + 1)), (by first | rfl | (simp; done) | (simp [*]; done) | (simp; rfl) | (simp; decide +kernel)), H', ⟨by have := HK1.out; omega⟩, ⟨by repeat (first | (with_reducible first | exact HB.out | apply below_alloc | apply pw_below_drewN | apply below_drew1) | exact HB.out)⟩⟩
          · replace c6 := Bool.eq_false_iff.mpr c6
            subst c6
            have H1 : (some false) = some r := by rw [if_neg (show ¬ (false = true) by decide)] at H; exact H
            clear H
            have H := H1
            clear H1
            obtain rfl := Option.some.inj H
            have p232 : 0 ≤ (x5_1 : Int) := of_decide_eq_true (by first | (with_reducible assumption) | assumption)
            have q232 : x5_1 < (l1.length : Int) := of_decide_eq_true (by first | (with_reducible assumption) | assumption)
            obtain ⟨ad232, e232, hx232_0, hx232_1⟩ := at_T36 HR1.out x5_1 p232 q232
            cases e232
            replace hx232_0 := (HB.out.cell (World.block_lt_of_cell? w _ hx232_0)).trans hx232_0
            replace hx232_1 := (HB.out.cell (World.block_lt_of_cell? w _ hx232_1)).trans hx232_1
            replace p232 := eq_true p232
            replace q232 := eq_true q232
            go_wp2_with (first | ((with_reducible refine gate_callee (f := 49) rfl ?_); refine goesL_ (some 17) rfl rfl Tryd.func49 (by kernel_rfl) rfl #[.int .i64 a0, .agg #[.int .u64 ((rd_T36 l1 x5_1).f0), .int .u64 ((rd_T36 l1 x5_1).f1)]] rfl (by (try simp only [List.map_toArray, List.map_cons, List.map_nil]); first | done | rfl | (simp only [List.length_drop, List.length_take]; rfl) | (go_simp; done) | (go_simp; rw [Int.tmod_eq_emod_of_nonneg (by omega)]; omega)) ?_; (with_reducible refine (attestorref07_Proper.calls a0 ((rd_T36 l1 x5_1).f0) ((rd_T36 l1 x5_1).f1) false _ A5.out).mono ?_); rintro e w8 ⟨rfl, hb⟩; refine ⟨_, rfl, ?_⟩; have n0_ := Aside0.mk (below_step (by repeat (first | (with_reducible first | exact HB.out | apply below_alloc | apply pw_below_drewN | apply below_drew1) | exact HB.out)) hb); clear HB; have HB := n0_; clear n0_; (try clear hb); (try clear hb2); (try clear hk); (try clear hi)))
            go_ret
            exact ⟨by first | rfl | (simp [errW_none, errW_some] <;> rfl) | (simp [*, errW_none, errW_some] <;> rfl), by repeat (first | (with_reducible first | exact HB.out | apply below_alloc | apply pw_below_drewN | apply below_drew1) | exact HB.out)⟩
        · rw [if_neg c4] at H
          exact absurd H (by simp)
      · rw [if_neg c3] at H
        have c3b0 : decide (x5_1 < (l1.length : Int)) = false := decide_eq_false c3
        clear c3
        obtain rfl := Option.some.inj H
        go_wp2
        go_ret
        exact ⟨by first | rfl | (simp [errW_none, errW_some] <;> rfl) | (simp [*, errW_none, errW_some] <;> rfl), by repeat (first | (with_reducible first | exact HB.out | apply below_alloc | apply pw_below_drewN | apply below_drew1) | exact HB.out)⟩

end Go.Proofs.YtpnpmeogffodgaaDoor.Q
end
section
namespace Go.Proofs.YtpnpmeogffodgaaDoor.Q
open Go.RowKit Go.Proofs.YtpnpmeogffodgaaDoorW.PrintWords Go.Proofs.YtpnpmeogffodgaaDoorW.PrintLast Go.Proofs.YtpnpmeogffodgaaDoorW.PrintMore
attribute [local go_sem] max2_int min2_int max_two min_two max_three min_three max_four min_four run_store_fnV run_store_fnc run_store_nfn   -- for this text's walks alone
set_option linter.unusedVariables false
set_option linter.unusedSimpArgs false

abbrev z44_0_ := zb 14 0
abbrev z44_1_ := zb 14 1
abbrev z44_2_ := zb 14 3
abbrev z44_3_ := zb 14 11
abbrev z44_4_ := zb 14 75
abbrev z44_5_ := zb 14 203
abbrev z44_6_ := zb 14 715
abbrev z44_7_ := zb 14 719
abbrev z44_8_ := zb 14 735
abbrev z44_9_ := zb 14 991
abbrev z44_10_ := zb 14 2015
abbrev z44_11_ := zb 14 2047
abbrev z44_12_ := zb 14 4095
abbrev z44_13_ := zb 14 8191
abbrev z44_14_ := zb 14 16383
/-! ### attestorref06_Node: function 44 -/
def attestorref06_Node.f (k : Nat) (a0 : Int) (ae : Int) (af : Int) (ao : Int) (ap : Int) : Option (Int × Int) := (attestorref01_Valid.f a0).bind fun aY => (if aY = true then ((attestorref06_Perm.f k a0 ae af ao ap).bind fun aI => ((attestorref01_Add.f a0 aI.1 ae).bind fun aG => ((attestorref01_Add.f a0 aI.2.1 af).bind fun aK => (some (aG, aK))))) else (some (0, 0)))
theorem attestorref06_Node.mono : ∀ a0 a1 a2 a3 a4 k, LeO (attestorref06_Node.f k a0 a1 a2 a3 a4) (attestorref06_Node.f (k + 1) a0 a1 a2 a3 a4) := by
  intro a0 a1 a2 a3 a4 k
  unfold attestorref06_Node.f
  repeat' first
      | (with_reducible exact attestorref06_Perm.mono _ _ _ _ _ _)
      | (with_reducible exact LeO.refl _)
      | (with_reducible exact LeO.none _)
      | (with_reducible refine LeO.ite ?_ ?_)
      | (with_reducible refine LeO.bind ?_ (fun _ => ?_))
      | exact attestorref06_Perm.mono _ _ _ _ _ _
      | exact LeO.none _
      | refine LeO.ite ?_ ?_
      | refine LeO.bind ?_ (fun _ => ?_)
def attestorref06_Node.T4 : Bool × List (List Nat × List Nat) := (true, [([], []), ([], []), ([1], [1]), ([], []), ([3], [3]), ([0, 2, 4], [0, 2, 4]), ([], []), ([], []), ([7], [7]), ([], []), ([9], [9]), ([6, 8, 10, 5], [6, 8, 10]), ([5, 11], [5, 11]), ([12, 11, 0, 1, 2, 3, 4, 5, 6, 7, 8, 9, 10, 11, 12], [12])])
def attestorref06_Node.B4 : List Nat := [0, 0, 2, 0, 8, 31, 0, 0, 128, 0, 512, 2047, 4095, 8191]
theorem attestorref06_Node.tab4 : rtab .any (opsOf Tryd.f44 4) = attestorref06_Node.T4 := by kernel_rfl
theorem attestorref06_Node.bits4 : waitsOk attestorref06_Node.T4.2 attestorref06_Node.B4 = true := by kernel_rfl
set_option maxHeartbeats 8000000 in
set_option maxRecDepth 100000 in
theorem attestorref06_Node.calls (k : Nat) (a0 : Int) (ae : Int) (af : Int) (ao : Int) (ap : Int) (r1 : Int) (r2 : Int) (w : World) (h : attestorref06_Node.f k a0 ae af ao ap = some (r1, r2)) :
  Calls Tryd.prog 44 #[.int .i64 a0, .agg #[.int .u64 ae, .int .u64 af], .agg #[.int .u64 ao, .int .u64 ap]] w fun e w' => e = .returned (.agg #[.int .u64 r1, .int .u64 r2]) ∧ Below w.heap.size w w' := by
 have hu36 := Tryd.underlying36
 have hu80 := Tryd.underlying80
 have HB := aj (Below.refl w.heap.size w)
 have H : ((attestorref01_Valid.f a0).bind fun aY => (if aY = true then ((attestorref06_Perm.f k a0 ae af ao ap).bind fun aI => ((attestorref01_Add.f a0 aI.1 ae).bind fun aG => ((attestorref01_Add.f a0 aI.2.1 af).bind fun aK => (some (aG, aK))))) else (some (0, 0)))) = some (r1, r2) := h
 clear h
 replace H := Option.bind_eq_some_iff.mp H
 obtain ⟨aY, ba, H⟩ := H
 have A4 := aj ba
 clear ba
 by_cases c5 : aY = true
 ·subst c5
  have H1 : ((attestorref06_Perm.f k a0 ae af ao ap).bind fun aI => ((attestorref01_Add.f a0 aI.1 ae).bind fun aG => ((attestorref01_Add.f a0 aI.2.1 af).bind fun aK => (some (aG, aK))))) = some (r1, r2) := by rw [if_pos rfl] at H; exact H
  clear H
  have H := H1
  clear H1
  replace H := Option.bind_eq_some_iff.mp H
  obtain ⟨⟨az, aA, aL, aM⟩, bb, H⟩ := H
  replace H : ((attestorref01_Add.f a0 az ae).bind fun aG => ((attestorref01_Add.f a0 aA af).bind fun aK => (some (aG, aK)))) = some (r1, r2) := H
  have A6 := aj bb
  clear bb
  replace H := Option.bind_eq_some_iff.mp H
  obtain ⟨aG, bc, H⟩ := H
  have A7 := aj bc
  clear bc
  replace H := Option.bind_eq_some_iff.mp H
  obtain ⟨aK, bd, H⟩ := H
  have A8 := aj bd
  clear bd
  simp only [Option.some.injEq, Prod.mk.injEq] at H
  obtain ⟨rfl, rfl⟩ := H
  go_enter Tryd.func44, Tryd.ntmps44
  try go_wp2_with (first | ((with_reducible refine gate_dst (N := 4) rfl ?_); refine box_event ?hg (N := 4) ?hd (cs := #[.int .u64 ae, .int .u64 af]) (t := 36) ?hr ?_; (case hd => rfl); (case hg => rfl); (case hr => first | (go_simp; done) | (go_simp; rfl)); intro ag hg w9 hbox hb; have al := aj (below_step (by first | exact HB.out | exact below_drew1 HB.out | exact pw_below_drewN HB.out _) hb); have am := aj (hbox); have aq := aj ((by rw [hg]; exact (below_size (by first | exact HB.out | exact below_drew1 HB.out | exact pw_below_drewN HB.out _)) : w.heap.size ≤ ag)); clear HB; have HB := al; have aa := am; have au := aq; clear al am aq; clear hb hbox hg) | ((with_reducible refine gate_dst (N := 5) rfl ?_); refine box_event ?hg (N := 5) ?hd (cs := #[.int .u64 ao, .int .u64 ap]) (t := 36) ?hr ?_; (case hd => rfl); (case hg => rfl); (case hr => first | (go_simp; done) | (go_simp; rfl)); intro ak hg bX hbox hb; have al := aj (blk_below aa.out hb); have am := aj (below_step (by first | exact HB.out | exact below_drew1 HB.out | exact pw_below_drewN HB.out _) hb); have ar := aj (hbox); have aH := aj ((by rw [hg]; exact (below_size (by first | exact HB.out | exact below_drew1 HB.out | exact pw_below_drewN HB.out _)) : w.heap.size ≤ ak)); have aN := aj ((by rw [hg]; exact Nat.ne_of_lt (blk_lt aa.out) : ag ≠ ak)); have aJ := aj ((by rw [hg]; exact Nat.ne_of_gt (blk_lt aa.out) : ak ≠ ag)); clear aa; clear HB; have aa := al; have HB := am; have ac := ar; have ay := aH; have aS := aN; have aT := aJ; clear al am ar aH aN aJ; clear hb hbox hg) | ((with_reducible refine gate_dst (N := 6) rfl ?_); refine box_event ?hg (N := 6) ?hd (cs := #[.int .u64 0, .int .u64 0]) (t := 36) ?hr ?_; (case hd => rfl); (case hg => rfl); (case hr => first | (go_simp; done) | (go_simp; rfl)); intro ad hg aO hbox hb; have al := aj (blk_below aa.out hb); have am := aj (blk_below ac.out hb); have ar := aj (below_step (by first | exact HB.out | exact below_drew1 HB.out | exact pw_below_drewN HB.out _) hb); have aq := aj (hbox); have aN := aj ((by rw [hg]; exact (below_size (by first | exact HB.out | exact below_drew1 HB.out | exact pw_below_drewN HB.out _)) : w.heap.size ≤ ad)); have aJ := aj ((by rw [hg]; exact Nat.ne_of_lt (blk_lt aa.out) : ag ≠ ad)); have aU := aj ((by rw [hg]; exact Nat.ne_of_gt (blk_lt aa.out) : ad ≠ ag)); have aV := aj ((by rw [hg]; exact Nat.ne_of_lt (blk_lt ac.out) : ak ≠ ad)); have aW := aj ((by rw [hg]; exact Nat.ne_of_gt (blk_lt ac.out) : ad ≠ ak)); clear aa; clear ac; clear HB; have aa := al; have ac := am; have HB := ar; have ah := aq; have aF := aN; have aw := aJ; have aB := aU; have aP := aV; have aC := aW; clear al am ar aq aN aJ aU aV aW; clear hb hbox hg) | ((with_reducible refine gate_callee (f := 42) rfl ?_); refine goesL_ (some 9) rfl rfl Tryd.func42 (by kernel_rfl) rfl #[.int .i64 a0] rfl (by (try simp only [List.map_toArray, List.map_cons, List.map_nil]); first | done | rfl | (go_simp; done)) ?_; (with_reducible refine (attestorref01_Valid.calls a0 true _ A4.out).mono ?_); rintro e w' ⟨rfl, ⟨nd, rfl⟩⟩; refine ⟨_, rfl, ?_⟩; (try (rw [drewN_self aO]; generalize q_ : World.drewN aO _ = aO; have al : Aside0 (aO.heap[ag]? = some (.cells #[.int .u64 ae, .int .u64 af] 36 (0, 0))) := ⟨by rw [← q_]; exact aa.out⟩; have am : Aside0 (aO.heap[ak]? = some (.cells #[.int .u64 ao, .int .u64 ap] 36 (0, 0))) := ⟨by rw [← q_]; exact ac.out⟩; have ar : Aside0 (aO.heap[ad]? = some (.cells #[.int .u64 0, .int .u64 0] 36 (0, 0))) := ⟨by rw [← q_]; exact ah.out⟩; have aq : Aside0 (Below w.heap.size w aO) := ⟨by rw [← q_]; exact (by first | exact HB.out | exact below_drew1 HB.out | exact pw_below_drewN HB.out _)⟩; clear aa ac ah HB q_; have aa := al; have ac := am; have ah := ar; have HB := aq; clear al am ar aq)); have bH := aS.out; have bI := aT.out; have bJ := aw.out; have bK := aB.out; have be : aO.cell? ⟨ag, 0, none⟩ = some (.int .u64 ae) := bq_ aa 0; have bf : aO.cell? ⟨ag, 1, none⟩ = some (.int .u64 af) := bq_ aa 1; have bg := blk_frozen aa.out 0; have bh := blk_frozen aa.out 1; have bL := aP.out; have bM := aC.out; have bi : aO.cell? ⟨ak, 0, none⟩ = some (.int .u64 ao) := bq_ ac 0; have bj : aO.cell? ⟨ak, 1, none⟩ = some (.int .u64 ap) := bq_ ac 1; have bk := blk_frozen ac.out 0; have bl := blk_frozen ac.out 1) | ((with_reducible refine gate_callee (f := 62) rfl ?_); refine goesL_ (some 22) rfl rfl Tryd.func62 (by kernel_rfl) rfl #[.int .i64 a0, .agg #[.int .u64 ae, .int .u64 af, .int .u64 ao, .int .u64 ap]] rfl (by (try simp only [List.map_toArray, List.map_cons, List.map_nil]); first | done | rfl | (go_simp; done)) ?_; (with_reducible refine (attestorref06_Perm.calls k a0 ae af ao ap az aA aL aM _ A6.out).mono ?_); rintro e bY ⟨rfl, hb⟩; refine ⟨_, rfl, ?_⟩; have al := aj (blk_below aa.out hb); have am := aj (blk_below ac.out hb); have ar := aj (blk_below ah.out hb); have aq := aj (below_step (by first | exact HB.out | exact below_drew1 HB.out | exact pw_below_drewN HB.out _) hb); clear aa; clear ac; clear ah; clear HB; have aa := al; have ac := am; have ah := ar; have HB := aq; clear al am ar aq; (try clear hb); (try clear hb2); (try clear hk); (try clear hi)) | ((with_reducible refine gate_dst (N := 7) rfl ?_); refine box_event ?hg (N := 7) ?hd (cs := #[.int .u64 0, .int .u64 0, .int .u64 0, .int .u64 0]) (t := 80) ?hr ?_; (case hd => rfl); (case hg => rfl); (case hr => first | (go_simp; done) | (go_simp; rfl)); intro ab hg aQ hbox hb; have al := aj (blk_below aa.out hb); have am := aj (blk_below ac.out hb); have ar := aj (blk_below ah.out hb); have aq := aj (below_step (by first | exact HB.out | exact below_drew1 HB.out | exact pw_below_drewN HB.out _) hb); have aH := aj (hbox); have aJ := aj ((by rw [hg]; exact (below_size (by first | exact HB.out | exact below_drew1 HB.out | exact pw_below_drewN HB.out _)) : w.heap.size ≤ ab)); have aU := aj ((by rw [hg]; exact Nat.ne_of_lt (blk_lt aa.out) : ag ≠ ab)); have aV := aj ((by rw [hg]; exact Nat.ne_of_gt (blk_lt aa.out) : ab ≠ ag)); have aW := aj ((by rw [hg]; exact Nat.ne_of_lt (blk_lt ac.out) : ak ≠ ab)); have a7 := aj ((by rw [hg]; exact Nat.ne_of_gt (blk_lt ac.out) : ab ≠ ak)); have a8 := aj ((by rw [hg]; exact Nat.ne_of_lt (blk_lt ah.out) : ad ≠ ab)); have a9 := aj ((by rw [hg]; exact Nat.ne_of_gt (blk_lt ah.out) : ab ≠ ad)); clear aa; clear ac; clear ah; clear HB; have aa := al; have ac := am; have ah := ar; have HB := aq; have ai := aH; have a6 := aJ; have aD := aU; have aZ := aV; have aE := aW; have a5 := a7; have ax := a8; have av := a9; clear al am ar aq aH aJ aU aV aW a7 a8 a9; clear hb hbox hg; have bN := aZ.out; have bO := aD.out; have bP := a5.out; have bQ := aE.out; have bR := av.out; have bS := ax.out; have bm : aQ.cell? ⟨ab, 0, none⟩ = some (.int .u64 0) := bq_ ai 0; have bn : aQ.cell? ⟨ab, 1, none⟩ = some (.int .u64 0) := bq_ ai 1; have bo : aQ.cell? ⟨ab, 2, none⟩ = some (.int .u64 0) := bq_ ai 2; have bp : aQ.cell? ⟨ab, 3, none⟩ = some (.int .u64 0) := bq_ ai 3; have bq := blk_frozen ai.out 0; have br := blk_frozen ai.out 1; have bs := blk_frozen ai.out 2; have bu := blk_frozen ai.out 3))
  have al : Aside0 (((((aQ.setCell ⟨ab, 0, none⟩ (.int .u64 az)).setCell ⟨ab, 1, none⟩ (.int .u64 aA)).setCell ⟨ab, 2, none⟩ (.int .u64 aL)).setCell ⟨ab, 3, none⟩ (.int .u64 aM)).heap[ag]? = some (.cells #[.int .u64 ae, .int .u64 af] 36 (0, 0))) := ⟨by refine blk_far ?_ aD.out _; refine blk_far ?_ aD.out _; refine blk_far ?_ aD.out _; refine blk_far ?_ aD.out _; exact aa.out⟩
  have am : Aside0 (((((aQ.setCell ⟨ab, 0, none⟩ (.int .u64 az)).setCell ⟨ab, 1, none⟩ (.int .u64 aA)).setCell ⟨ab, 2, none⟩ (.int .u64 aL)).setCell ⟨ab, 3, none⟩ (.int .u64 aM)).heap[ak]? = some (.cells #[.int .u64 ao, .int .u64 ap] 36 (0, 0))) := ⟨by refine blk_far ?_ aE.out _; refine blk_far ?_ aE.out _; refine blk_far ?_ aE.out _; refine blk_far ?_ aE.out _; exact ac.out⟩
  have ar : Aside0 (((((aQ.setCell ⟨ab, 0, none⟩ (.int .u64 az)).setCell ⟨ab, 1, none⟩ (.int .u64 aA)).setCell ⟨ab, 2, none⟩ (.int .u64 aL)).setCell ⟨ab, 3, none⟩ (.int .u64 aM)).heap[ad]? = some (.cells #[.int .u64 0, .int .u64 0] 36 (0, 0))) := ⟨by refine blk_far ?_ ax.out _; refine blk_far ?_ ax.out _; refine blk_far ?_ ax.out _; refine blk_far ?_ ax.out _; exact ah.out⟩
  have aq : Aside0 (((((aQ.setCell ⟨ab, 0, none⟩ (.int .u64 az)).setCell ⟨ab, 1, none⟩ (.int .u64 aA)).setCell ⟨ab, 2, none⟩ (.int .u64 aL)).setCell ⟨ab, 3, none⟩ (.int .u64 aM)).heap[ab]? = some (.cells #[.int .u64 az, .int .u64 aA, .int .u64 aL, .int .u64 aM] 80 (0, 0))) := ⟨by refine blk_put (cs := #[.int .u64 az, .int .u64 aA, .int .u64 aL, .int .u64 0]) ?_ 3 _ rfl; refine blk_put (cs := #[.int .u64 az, .int .u64 aA, .int .u64 0, .int .u64 0]) ?_ 2 _ rfl; refine blk_put (cs := #[.int .u64 az, .int .u64 0, .int .u64 0, .int .u64 0]) ?_ 1 _ rfl; refine blk_put (cs := #[.int .u64 0, .int .u64 0, .int .u64 0, .int .u64 0]) ?_ 0 _ rfl; exact ai.out⟩
  have aH : Aside0 (Below w.heap.size w ((((aQ.setCell ⟨ab, 0, none⟩ (.int .u64 az)).setCell ⟨ab, 1, none⟩ (.int .u64 aA)).setCell ⟨ab, 2, none⟩ (.int .u64 aL)).setCell ⟨ab, 3, none⟩ (.int .u64 aM))) := ⟨by repeat (first | (with_reducible first | exact HB.out | apply below_alloc | apply pw_below_drewN | apply below_drew1 | refine below_set ?_ au.out | refine below_set ?_ ay.out | refine below_set ?_ aF.out | refine below_set ?_ a6.out) | exact HB.out)⟩
  generalize ((((aQ.setCell ⟨ab, 0, none⟩ (.int .u64 az)).setCell ⟨ab, 1, none⟩ (.int .u64 aA)).setCell ⟨ab, 2, none⟩ (.int .u64 aL)).setCell ⟨ab, 3, none⟩ (.int .u64 aM)) = bG at al am ar aq aH ⊢
  have aa := al
  have ac := am
  have ah := ar
  have ai := aq
  have HB := aH
  clear al am ar aq aH
  have al := aj (blk_drew aa.out)
  have am := aj (blk_drew ac.out)
  have ar := aj (blk_drew ah.out)
  have aq := aj (blk_drew ai.out)
  have aH := aj (below_drew1 HB.out)
  clear aa
  clear ac
  clear ah
  clear ai
  clear HB
  have aa := al
  have ac := am
  have ah := ar
  have ai := aq
  have HB := aH
  clear al am ar aq aH
  refine start_ (n := 14) (S := fun w' => w'.cell? ⟨ab, 0, none⟩ = some (.int .u64 az) ∧ w'.cell? ⟨ab, 1, none⟩ = some (.int .u64 aA) ∧ w'.cell? ⟨ab, 2, none⟩ = some (.int .u64 aL) ∧ w'.cell? ⟨ab, 3, none⟩ = some (.int .u64 aM) ∧ w'.cell? ⟨ag, 0, none⟩ = some (.int .u64 ae) ∧ w'.cell? ⟨ag, 1, none⟩ = some (.int .u64 af)) (ds := []) z44_0_ (by kernel_rfl) rfl rfl ⟨bq_ ai 0, bq_ ai 1, bq_ ai 2, bq_ ai 3, bq_ aa 0, bq_ aa 1⟩ (fun hL => ?_); refine with_tabW attestorref06_Node.tab4 attestorref06_Node.bits4 (fun T_ W_ => ?_)
  generalize bG.drew = aX at aa ac ah ai HB hL ⊢
  refine pz_ 0 23 z44_1_ ?_
  refine pz_ 1 24 z44_2_ ?_
  refine pz_ 3 26 z44_3_ ?_
  refine pz_ 6 29 z44_4_ ?_
  refine pz_ 7 30 z44_5_ ?_
  refine pz_ 9 32 z44_6_ ?_
  refine tz_ 2 25 z44_7_ ?_
  refine tz_ 4 27 z44_8_ ?_
  refine tz_ 8 31 z44_9_ ?_
  refine tz_ 10 33 z44_10_ ?_
  refine one_ (i := 5) (N := some 28) z44_11_ rfl rfl (on_ T_) (by decide) (fun K hK => ?_)
  refine goes_ Tryd.func63 (by kernel_rfl) rfl #[.int .i64 a0, .int .u64 az, .int .u64 ae] (by rfl) rfl rfl (by (try simp only [List.map_toArray, List.map_cons, List.map_nil]); first | done | rfl | (go_simp; done)) ?_
  with_reducible refine (attestorref01_Add.calls a0 az ae aG _ A7.out).mono ?_
  rintro e w' ⟨rfl, ⟨nd, rfl⟩⟩
  refine ⟨_, rfl, ?_⟩
  (try (rw [drewN_self aX]; generalize q_ : World.drewN aX _ = aX; replace aa := ra_ q_ aa; replace ac := ra_ q_ ac; replace ah := ra_ q_ ah; replace ai := ra_ q_ ai; replace HB := rb_ q_ HB; clear q_))
  refine hK.out _ _ ⟨bq_ ai 0, bq_ ai 1, bq_ ai 2, bq_ ai 3, bq_ aa 0, bq_ aa 1⟩ (fun hL => ?_)
  clear hK K
  refine norm_ (a' := ?_) ?_ ?_
  rotate_left
  ·show Act.put _ (some 28) _ = _
   simp only [Act.put, sa_, sb_, sc_, i64_w, i32_w]
   rfl
  refine one_ (i := 11) (N := some 34) z44_12_ rfl rfl (on_ T_) (by decide) (fun K hK => ?_)
  refine goes_ Tryd.func63 (by kernel_rfl) rfl #[.int .i64 a0, .int .u64 aA, .int .u64 af] (by rfl) rfl rfl (by (try simp only [List.map_toArray, List.map_cons, List.map_nil]); first | done | rfl | (go_simp; done)) ?_
  with_reducible refine (attestorref01_Add.calls a0 aA af aK _ A8.out).mono ?_
  rintro e w' ⟨rfl, ⟨nd, rfl⟩⟩
  refine ⟨_, rfl, ?_⟩
  (try (rw [drewN_self aX]; generalize q_ : World.drewN aX _ = aX; replace aa := ra_ q_ aa; replace ac := ra_ q_ ac; replace ah := ra_ q_ ah; replace ai := ra_ q_ ai; replace HB := rb_ q_ HB; clear q_))
  refine hK.out _ _ ⟨bq_ ai 0, bq_ ai 1, bq_ ai 2, bq_ ai 3, bq_ aa 0, bq_ aa 1⟩ (fun hL => ?_)
  clear hK K
  refine norm_ (a' := ?_) ?_ ?_
  rotate_left
  ·show Act.put _ (some 34) _ = _
   simp only [Act.put, sa_, sb_, sc_, i64_w, i32_w]
   rfl
  refine pz_ 12 35 z44_13_ ?_
  refine one_ (i := 13) (N := none) z44_14_ rfl rfl (on_ T_) (by decide) (fun K hK => ?_)
  have hs25 : aX.cell? ⟨ad, 0, none⟩ = some (.int .u64 0) := bq_ ah 0
  have hfs25 := blk_frozen ah.out 0
  have bv := aB.out
  have bw := aC.out
  have bx := ax.out
  have hs26 : aX.cell? ⟨ad, 1, none⟩ = some (.int .u64 0) := bq_ ah 1
  have hfs26 := blk_frozen ah.out 1
  have bz := aB.out
  have bA := aC.out
  have bB := ax.out
  refine skip_ (w1 := ?_) (by rfl) rfl ?_ ?_
  rotate_left
  ·go_simp
   rfl
  refine hK.out _ _ ⟨((cell_far (p := ⟨ad, _, none⟩) av.out _).trans (((cell_far (p := ⟨ad, _, none⟩) av.out _).trans (hL.1)))), ((cell_far (p := ⟨ad, _, none⟩) av.out _).trans (((cell_far (p := ⟨ad, _, none⟩) av.out _).trans (hL.2.1)))), ((cell_far (p := ⟨ad, _, none⟩) av.out _).trans (((cell_far (p := ⟨ad, _, none⟩) av.out _).trans (hL.2.2.1)))), ((cell_far (p := ⟨ad, _, none⟩) av.out _).trans (((cell_far (p := ⟨ad, _, none⟩) av.out _).trans (hL.2.2.2.1)))), ((cell_far (p := ⟨ad, _, none⟩) aw.out _).trans (((cell_far (p := ⟨ad, _, none⟩) aw.out _).trans (hL.2.2.2.2.1)))), ((cell_far (p := ⟨ad, _, none⟩) aw.out _).trans (((cell_far (p := ⟨ad, _, none⟩) aw.out _).trans (hL.2.2.2.2.2))))⟩ (fun hL => ?_)
  clear hK K
  refine done_ (done_of T_.out (by kernel_rfl)) ?_
  try go_wp2
  refine bodyPost_ret (results_cell_row rfl _ _ ad 36 #[.int .u64 aG, .int .u64 aK] (0, 0) _ rfl (by refine blk_put (cs := #[.int .u64 aG, .int .u64 0]) ?_ 1 _ rfl; refine blk_put (cs := #[.int .u64 0, .int .u64 0]) ?_ 0 _ rfl; exact ah.out) Tryd.underlying36 rfl (by kernel_rfl)) rfl ?_
  exact ⟨by first | rfl | (simp [errW_none, errW_some] <;> rfl) | (simp [*, errW_none, errW_some] <;> rfl), by repeat (first | (with_reducible first | exact HB.out | apply below_alloc | apply pw_below_drewN | apply below_drew1 | refine below_set ?_ au.out | refine below_set ?_ ay.out | refine below_set ?_ aF.out | refine below_set ?_ a6.out) | exact HB.out)⟩
 ·replace c5 := Bool.eq_false_iff.mpr c5
  subst c5
  have H1 : (some (0, 0)) = some (r1, r2) := by rw [if_neg (show ¬ (false = true) by decide)] at H; exact H
  clear H
  have H := H1
  clear H1
  simp only [Option.some.injEq, Prod.mk.injEq] at H
  obtain ⟨rfl, rfl⟩ := H
  go_enter Tryd.func44, Tryd.ntmps44
  go_wp2_with (first | ((with_reducible refine gate_dst (N := 4) rfl ?_); refine box_event ?hg (N := 4) ?hd (cs := #[.int .u64 ae, .int .u64 af]) (t := 36) ?hr ?_; (case hd => rfl); (case hg => rfl); (case hr => first | (go_simp; done) | (go_simp; rfl)); intro ag hg bZ hbox hb; have al := aj (below_step HB.out hb); have am := aj (hbox); have aq := aj ((by rw [hg]; exact (below_size HB.out) : w.heap.size ≤ ag)); clear HB; have HB := al; have aa := am; have au := aq; clear al am aq; clear hb hbox hg) | ((with_reducible refine gate_dst (N := 5) rfl ?_); refine box_event ?hg (N := 5) ?hd (cs := #[.int .u64 ao, .int .u64 ap]) (t := 36) ?hr ?_; (case hd => rfl); (case hg => rfl); (case hr => first | (go_simp; done) | (go_simp; rfl)); intro ak hg b0 hbox hb; have al := aj (blk_below aa.out hb); have am := aj (below_step HB.out hb); have ar := aj (hbox); have aH := aj ((by rw [hg]; exact (below_size HB.out) : w.heap.size ≤ ak)); have aN := aj ((by rw [hg]; exact Nat.ne_of_lt (blk_lt aa.out) : ag ≠ ak)); have aJ := aj ((by rw [hg]; exact Nat.ne_of_gt (blk_lt aa.out) : ak ≠ ag)); clear aa; clear HB; have aa := al; have HB := am; have ac := ar; have ay := aH; have aS := aN; have aT := aJ; clear al am ar aH aN aJ; clear hb hbox hg) | ((with_reducible refine gate_dst (N := 6) rfl ?_); refine box_event ?hg (N := 6) ?hd (cs := #[.int .u64 0, .int .u64 0]) (t := 36) ?hr ?_; (case hd => rfl); (case hg => rfl); (case hr => first | (go_simp; done) | (go_simp; rfl)); intro ad hg aR hbox hb; have al := aj (blk_below aa.out hb); have am := aj (blk_below ac.out hb); have ar := aj (below_step HB.out hb); have aq := aj (hbox); have aN := aj ((by rw [hg]; exact (below_size HB.out) : w.heap.size ≤ ad)); have aJ := aj ((by rw [hg]; exact Nat.ne_of_lt (blk_lt aa.out) : ag ≠ ad)); have aU := aj ((by rw [hg]; exact Nat.ne_of_gt (blk_lt aa.out) : ad ≠ ag)); have aV := aj ((by rw [hg]; exact Nat.ne_of_lt (blk_lt ac.out) : ak ≠ ad)); have aW := aj ((by rw [hg]; exact Nat.ne_of_gt (blk_lt ac.out) : ad ≠ ak)); clear aa; clear ac; clear HB; have aa := al; have ac := am; have HB := ar; have ah := aq; have aF := aN; have aw := aJ; have aB := aU; have aP := aV; have aC := aW; clear al am ar aq aN aJ aU aV aW; clear hb hbox hg) | ((with_reducible refine gate_callee (f := 42) rfl ?_); refine goesL_ (some 9) rfl rfl Tryd.func42 (by kernel_rfl) rfl #[.int .i64 a0] rfl (by (try simp only [List.map_toArray, List.map_cons, List.map_nil]); first | done | rfl | (go_simp; done)) ?_; (with_reducible refine (attestorref01_Valid.calls a0 false _ A4.out).mono ?_); rintro e w' ⟨rfl, ⟨nd, rfl⟩⟩; refine ⟨_, rfl, ?_⟩; (try (rw [drewN_self aR]; generalize q_ : World.drewN aR _ = aR; have al : Aside0 (aR.heap[ag]? = some (.cells #[.int .u64 ae, .int .u64 af] 36 (0, 0))) := ⟨by rw [← q_]; exact aa.out⟩; have am : Aside0 (aR.heap[ak]? = some (.cells #[.int .u64 ao, .int .u64 ap] 36 (0, 0))) := ⟨by rw [← q_]; exact ac.out⟩; have ar : Aside0 (aR.heap[ad]? = some (.cells #[.int .u64 0, .int .u64 0] 36 (0, 0))) := ⟨by rw [← q_]; exact ah.out⟩; have aq : Aside0 (Below w.heap.size w aR) := ⟨by rw [← q_]; exact HB.out⟩; clear aa ac ah HB q_; have aa := al; have ac := am; have ah := ar; have HB := aq; clear al am ar aq)); have bT := aB.out; have bU := aw.out; have bV := aC.out; have bW := aP.out; have bC : aR.cell? ⟨ad, 0, none⟩ = some (.int .u64 0) := bq_ ah 0; have bD : aR.cell? ⟨ad, 1, none⟩ = some (.int .u64 0) := bq_ ah 1; have bE := blk_frozen ah.out 0; have bF := blk_frozen ah.out 1))
  refine bodyPost_ret (results_cell_row rfl _ _ ad 36 #[.int .u64 0, .int .u64 0] (0, 0) _ rfl (by refine blk_put (cs := #[.int .u64 0, .int .u64 0]) ?_ 1 _ rfl; refine blk_put (cs := #[.int .u64 0, .int .u64 0]) ?_ 0 _ rfl; exact ah.out) Tryd.underlying36 rfl (by kernel_rfl)) rfl ?_
  exact ⟨by first | rfl | (simp [errW_none, errW_some] <;> rfl) | (simp [*, errW_none, errW_some] <;> rfl), by repeat (first | (with_reducible first | exact HB.out | apply below_alloc | apply pw_below_drewN | apply below_drew1 | refine below_set ?_ au.out | refine below_set ?_ ay.out | refine below_set ?_ aF.out) | exact HB.out)⟩

end Go.Proofs.YtpnpmeogffodgaaDoor.Q
end
section
namespace Go.Proofs.YtpnpmeogffodgaaDoor.Q
open Go.RowKit Go.Proofs.YtpnpmeogffodgaaDoorW.PrintWords Go.Proofs.YtpnpmeogffodgaaDoorW.PrintLast Go.Proofs.YtpnpmeogffodgaaDoorW.PrintMore
attribute [local go_sem] max2_int min2_int max_two min_two max_three min_three max_four min_four run_store_fnV run_store_fnc run_store_nfn   -- for this text's walks alone
set_option linter.unusedVariables false
set_option linter.unusedSimpArgs false

/-! ### attestorref07_pair: function 50 -/
def attestorref07_pair.f (a0 : Int) (a1_0 : Int) (a1_1 : Int) (a2_0 : Int) (a2_1 : Int) : Option (Int × Int × Int × Int) := if (Int.tmod a0 2) = 1 then (some (a2_0, a2_1, a1_0, a1_1)) else (some (a1_0, a1_1, a2_0, a2_1))
set_option maxHeartbeats 8000000 in
set_option maxRecDepth 100000 in
theorem attestorref07_pair.calls (a0 : Int) (a1_0 : Int) (a1_1 : Int) (a2_0 : Int) (a2_1 : Int) (r1 : Int) (r2 : Int) (r3 : Int) (r4 : Int) (w : World) (h : attestorref07_pair.f a0 a1_0 a1_1 a2_0 a2_1 = some (r1, r2, r3, r4)) :
  Calls Tryd.prog 50 #[.int .i64 a0, .agg #[.int .u64 a1_0, .int .u64 a1_1], .agg #[.int .u64 a2_0, .int .u64 a2_1]] w fun e w' => e = .returned (.agg #[.int .u64 r1, .int .u64 r2, .int .u64 r3, .int .u64 r4]) ∧ Below w.heap.size w w' := by
 have hu36 := Tryd.underlying36
 have hu48 := Tryd.underlying48
 have HB := Aside0.mk (Below.refl w.heap.size w)
 have H : (if (Int.tmod a0 2) = 1 then (some (a2_0, a2_1, a1_0, a1_1)) else (some (a1_0, a1_1, a2_0, a2_1))) = some (r1, r2, r3, r4) := h
 clear h
 by_cases c4 : (Int.tmod a0 2) = 1
 ·rw [if_pos c4] at H
  have c4b0 : ((Int.tmod a0 2) == 1) = true := beq_iff_eq.mpr c4
  have c4b1 : ((Int.tmod a0 2) != 1) = false := bne_eq_false_iff_eq.mpr c4
  clear c4
  simp only [Option.some.injEq, Prod.mk.injEq] at H
  obtain ⟨rfl, rfl, rfl, rfl⟩ := H
  go_enter Tryd.func50, Tryd.ntmps50
  go_wp2_with (first | ((with_reducible refine gate_dst (N := 4) rfl ?_); refine box_event ?hg (N := 4) ?hd (cs := #[.int .u64 a1_0, .int .u64 a1_1]) (t := 36) ?hr ?_; (case hd => rfl); (case hg => rfl); (case hr => first | (go_simp; done) | (go_simp; rfl)); intro g281 hg w5 hbox hb; have n0_ := Aside0.mk (below_step (by repeat (first | (with_reducible first | exact HB.out | apply below_alloc | apply pw_below_drewN | apply below_drew1) | exact HB.out)) hb); have n1_ := Aside0.mk (hbox); have n2_ := Aside0.mk ((by rw [hg]; exact (below_size (by repeat (first | (with_reducible first | exact HB.out | apply below_alloc | apply pw_below_drewN | apply below_drew1) | exact HB.out))) : w.heap.size ≤ g281)); have n3_ := Aside0.mk ((by rw [hg]; exact (below_size (by repeat (first | (with_reducible first | exact HB.out | apply below_alloc | apply pw_below_drewN | apply below_drew1) | exact HB.out))) : w.heap.size ≤ g281)); clear HB; have HB := n0_; have B281 := n1_; have GW281 := n2_; have GE281 := n3_; clear n0_ n1_ n2_ n3_; clear hb hbox hg) | ((with_reducible refine gate_dst (N := 5) rfl ?_); refine box_event ?hg (N := 5) ?hd (cs := #[.int .u64 a2_0, .int .u64 a2_1]) (t := 36) ?hr ?_; (case hd => rfl); (case hg => rfl); (case hr => first | (go_simp; done) | (go_simp; rfl)); intro g282 hg w6 hbox hb; have n0_ := Aside0.mk (blk_below (g := g281) (o := .cells #[.int .u64 a1_0, .int .u64 a1_1] 36 (0, 0)) (by exact B281.out) hb); have n1_ := Aside0.mk (below_step (by repeat (first | (with_reducible first | exact HB.out | apply below_alloc | apply pw_below_drewN | apply below_drew1 | refine below_set ?_ GE281.out) | exact HB.out)) hb); have n2_ := Aside0.mk (hbox); have n3_ := Aside0.mk ((by rw [hg]; exact (below_size (by repeat (first | (with_reducible first | exact HB.out | apply below_alloc | apply pw_below_drewN | apply below_drew1 | refine below_set ?_ GE281.out) | exact HB.out))) : w.heap.size ≤ g282)); have n4_ := Aside0.mk ((by rw [hg]; exact (below_size (by repeat (first | (with_reducible first | exact HB.out | apply below_alloc | apply pw_below_drewN | apply below_drew1 | refine below_set ?_ GE281.out) | exact HB.out))) : w.heap.size ≤ g282)); have n5_ := Aside0.mk ((by rw [hg]; exact Nat.ne_of_lt (blk_lt (g := g281) (o := .cells #[.int .u64 a1_0, .int .u64 a1_1] 36 (0, 0)) (by exact B281.out)) : g281 ≠ g282)); have n6_ := Aside0.mk ((by rw [hg]; exact Nat.ne_of_gt (blk_lt (g := g281) (o := .cells #[.int .u64 a1_0, .int .u64 a1_1] 36 (0, 0)) (by exact B281.out)) : g282 ≠ g281)); clear B281; clear HB; have B281 := n0_; have HB := n1_; have B282 := n2_; have GW282 := n3_; have GE282 := n4_; have NB281_282 := n5_; have NB282_281 := n6_; clear n0_ n1_ n2_ n3_ n4_ n5_ n6_; clear hb hbox hg) | ((with_reducible refine gate_dst (N := 6) rfl ?_); refine box_event ?hg (N := 6) ?hd (cs := #[.int .u64 0, .int .u64 0, .int .u64 0, .int .u64 0]) (t := 48) ?hr ?_; (case hd => rfl); (case hg => rfl); (case hr => first | (go_simp; done) | (go_simp; rfl)); intro g283 hg w7 hbox hb; have n0_ := Aside0.mk (blk_below (g := g281) (o := .cells #[.int .u64 a1_0, .int .u64 a1_1] 36 (0, 0)) (by exact B281.out) hb); have n1_ := Aside0.mk (blk_below (g := g282) (o := .cells #[.int .u64 a2_0, .int .u64 a2_1] 36 (0, 0)) (by exact B282.out) hb); have n2_ := Aside0.mk (below_step (by repeat (first | (with_reducible first | exact HB.out | apply below_alloc | apply pw_below_drewN | apply below_drew1 | refine below_set ?_ GE281.out | refine below_set ?_ GE282.out) | exact HB.out)) hb); have n3_ := Aside0.mk (hbox); have n4_ := Aside0.mk ((by rw [hg]; exact (below_size (by repeat (first | (with_reducible first | exact HB.out | apply below_alloc | apply pw_below_drewN | apply below_drew1 | refine below_set ?_ GE281.out | refine below_set ?_ GE282.out) | exact HB.out))) : w.heap.size ≤ g283)); have n5_ := Aside0.mk ((by rw [hg]; exact (below_size (by repeat (first | (with_reducible first | exact HB.out | apply below_alloc | apply pw_below_drewN | apply below_drew1 | refine below_set ?_ GE281.out | refine below_set ?_ GE282.out) | exact HB.out))) : w.heap.size ≤ g283)); have n6_ := Aside0.mk ((by rw [hg]; exact Nat.ne_of_lt (blk_lt (g := g281) (o := .cells #[.int .u64 a1_0, .int .u64 a1_1] 36 (0, 0)) (by exact B281.out)) : g281 ≠ g283)); have n7_ := Aside0.mk ((by rw [hg]; exact Nat.ne_of_gt (blk_lt (g := g281) (o := .cells #[.int .u64 a1_0, .int .u64 a1_1] 36 (0, 0)) (by exact B281.out)) : g283 ≠ g281)); have n8_ := Aside0.mk ((by rw [hg]; exact Nat.ne_of_lt (blk_lt (g := g282) (o := .cells #[.int .u64 a2_0, .int .u64 a2_1] 36 (0, 0)) (by exact B282.out)) : g282 ≠ g283)); have n9_ := Aside0.mk ((by rw [hg]; exact Nat.ne_of_gt (blk_lt (g := g282) (o := .cells #[.int .u64 a2_0, .int .u64 a2_1] 36 (0, 0)) (by exact B282.out)) : g283 ≠ g282)); clear B281; clear B282; clear HB; have B281 := n0_; have B282 := n1_; have HB := n2_; have B283 := n3_; have GW283 := n4_; have GE283 := n5_; have NB281_283 := n6_; have NB283_281 := n7_; have NB282_283 := n8_; have NB283_282 := n9_; clear n0_ n1_ n2_ n3_ n4_ n5_ n6_ n7_ n8_ n9_; clear hb hbox hg; have hnb8 := NB282_281.out; have hnc8 := NB281_282.out; have hnb9 := NB282_283.out; have hnc9 := NB283_282.out; have hcz10_0 : w7.cell? ⟨g282, 0, none⟩ = some (.int .u64 a2_0) := bq_ B282 0; have hcz10_1 : w7.cell? ⟨g282, 1, none⟩ = some (.int .u64 a2_1) := bq_ B282 1; have hfz10_0 := blk_frozen B282.out 0; have hfz10_1 := blk_frozen B282.out 1; have hnb11 := NB281_283.out; have hnc11 := NB283_281.out; have hcz12_0 : w7.cell? ⟨g281, 0, none⟩ = some (.int .u64 a1_0) := bq_ B281 0; have hcz12_1 : w7.cell? ⟨g281, 1, none⟩ = some (.int .u64 a1_1) := bq_ B281 1; have hfz12_0 := blk_frozen B281.out 0; have hfz12_1 := blk_frozen B281.out 1; have hcz13_0 : w7.cell? ⟨g283, 0, none⟩ = some (.int .u64 0) := bq_ B283 0; have hcz13_1 : w7.cell? ⟨g283, 1, none⟩ = some (.int .u64 0) := bq_ B283 1; have hcz13_2 : w7.cell? ⟨g283, 2, none⟩ = some (.int .u64 0) := bq_ B283 2; have hcz13_3 : w7.cell? ⟨g283, 3, none⟩ = some (.int .u64 0) := bq_ B283 3; have hfz13_0 := blk_frozen B283.out 0; have hfz13_1 := blk_frozen B283.out 1; have hfz13_2 := blk_frozen B283.out 2; have hfz13_3 := blk_frozen B283.out 3))
  refine bodyPost_ret (results_cell_row rfl _ _ g283 48 #[.int .u64 a2_0, .int .u64 a2_1, .int .u64 a1_0, .int .u64 a1_1] (0, 0) _ rfl (by refine blk_put (cs := #[.int .u64 a2_0, .int .u64 a2_1, .int .u64 a1_0, .int .u64 0]) ?_ 3 _ rfl; refine blk_put (cs := #[.int .u64 a2_0, .int .u64 a2_1, .int .u64 0, .int .u64 0]) ?_ 2 _ rfl; refine blk_put (cs := #[.int .u64 a2_0, .int .u64 0, .int .u64 0, .int .u64 0]) ?_ 1 _ rfl; refine blk_put (cs := #[.int .u64 0, .int .u64 0, .int .u64 0, .int .u64 0]) ?_ 0 _ rfl; exact B283.out) Tryd.underlying48 rfl (by kernel_rfl)) rfl ?_
  exact ⟨by first | rfl | (simp [errW_none, errW_some] <;> rfl) | (simp [*, errW_none, errW_some] <;> rfl), by repeat (first | (with_reducible first | exact HB.out | apply below_alloc | apply pw_below_drewN | apply below_drew1 | refine below_set ?_ GE281.out | refine below_set ?_ GE282.out | refine below_set ?_ GE283.out) | exact HB.out)⟩
 ·rw [if_neg c4] at H
  have c4b0 : ((Int.tmod a0 2) == 1) = false := beq_eq_false_iff_ne.mpr c4
  have c4b1 : ((Int.tmod a0 2) != 1) = true := bne_iff_ne.mpr c4
  simp only [Option.some.injEq, Prod.mk.injEq] at H
  obtain ⟨rfl, rfl, rfl, rfl⟩ := H
  go_enter Tryd.func50, Tryd.ntmps50
  go_wp2_with (first | ((with_reducible refine gate_dst (N := 4) rfl ?_); refine box_event ?hg (N := 4) ?hd (cs := #[.int .u64 a1_0, .int .u64 a1_1]) (t := 36) ?hr ?_; (case hd => rfl); (case hg => rfl); (case hr => first | (go_simp; done) | (go_simp; rfl)); intro g281 hg w14 hbox hb; have n0_ := Aside0.mk (below_step (by repeat (first | (with_reducible first | exact HB.out | apply below_alloc | apply pw_below_drewN | apply below_drew1) | exact HB.out)) hb); have n1_ := Aside0.mk (hbox); have n2_ := Aside0.mk ((by rw [hg]; exact (below_size (by repeat (first | (with_reducible first | exact HB.out | apply below_alloc | apply pw_below_drewN | apply below_drew1) | exact HB.out))) : w.heap.size ≤ g281)); have n3_ := Aside0.mk ((by rw [hg]; exact (below_size (by repeat (first | (with_reducible first | exact HB.out | apply below_alloc | apply pw_below_drewN | apply below_drew1) | exact HB.out))) : w.heap.size ≤ g281)); clear HB; have HB := n0_; have B281 := n1_; have GW281 := n2_; have GE281 := n3_; clear n0_ n1_ n2_ n3_; clear hb hbox hg) | ((with_reducible refine gate_dst (N := 5) rfl ?_); refine box_event ?hg (N := 5) ?hd (cs := #[.int .u64 a2_0, .int .u64 a2_1]) (t := 36) ?hr ?_; (case hd => rfl); (case hg => rfl); (case hr => first | (go_simp; done) | (go_simp; rfl)); intro g282 hg w15 hbox hb; have n0_ := Aside0.mk (blk_below (g := g281) (o := .cells #[.int .u64 a1_0, .int .u64 a1_1] 36 (0, 0)) (by exact B281.out) hb); have n1_ := Aside0.mk (below_step (by repeat (first | (with_reducible first | exact HB.out | apply below_alloc | apply pw_below_drewN | apply below_drew1 | refine below_set ?_ GE281.out) | exact HB.out)) hb); have n2_ := Aside0.mk (hbox); have n3_ := Aside0.mk ((by rw [hg]; exact (below_size (by repeat (first | (with_reducible first | exact HB.out | apply below_alloc | apply pw_below_drewN | apply below_drew1 | refine below_set ?_ GE281.out) | exact HB.out))) : w.heap.size ≤ g282)); have n4_ := Aside0.mk ((by rw [hg]; exact (below_size (by repeat (first | (with_reducible first | exact HB.out | apply below_alloc | apply pw_below_drewN | apply below_drew1 | refine below_set ?_ GE281.out) | exact HB.out))) : w.heap.size ≤ g282)); have n5_ := Aside0.mk ((by rw [hg]; exact Nat.ne_of_lt (blk_lt (g := g281) (o := .cells #[.int .u64 a1_0, .int .u64 a1_1] 36 (0, 0)) (by exact B281.out)) : g281 ≠ g282)); have n6_ := Aside0.mk ((by rw [hg]; exact Nat.ne_of_gt (blk_lt (g := g281) (o := .cells #[.int .u64 a1_0, .int .u64 a1_1] 36 (0, 0)) (by exact B281.out)) : g282 ≠ g281)); clear B281; clear HB; have B281 := n0_; have HB := n1_; have B282 := n2_; have GW282 := n3_; have GE282 := n4_; have NB281_282 := n5_; have NB282_281 := n6_; clear n0_ n1_ n2_ n3_ n4_ n5_ n6_; clear hb hbox hg) | ((with_reducible refine gate_dst (N := 6) rfl ?_); refine box_event ?hg (N := 6) ?hd (cs := #[.int .u64 0, .int .u64 0, .int .u64 0, .int .u64 0]) (t := 48) ?hr ?_; (case hd => rfl); (case hg => rfl); (case hr => first | (go_simp; done) | (go_simp; rfl)); intro g283 hg w16 hbox hb; have n0_ := Aside0.mk (blk_below (g := g281) (o := .cells #[.int .u64 a1_0, .int .u64 a1_1] 36 (0, 0)) (by exact B281.out) hb); have n1_ := Aside0.mk (blk_below (g := g282) (o := .cells #[.int .u64 a2_0, .int .u64 a2_1] 36 (0, 0)) (by exact B282.out) hb); have n2_ := Aside0.mk (below_step (by repeat (first | (with_reducible first | exact HB.out | apply below_alloc | apply pw_below_drewN | apply below_drew1 | refine below_set ?_ GE281.out | refine below_set ?_ GE282.out) | exact HB.out)) hb); have n3_ := Aside0.mk (hbox); have n4_ := Aside0.mk ((by rw [hg]; exact (below_size (by repeat (first | (with_reducible first | exact HB.out | apply below_alloc | apply pw_below_drewN | apply below_drew1 | refine below_set ?_ GE281.out | refine below_set ?_ GE282.out) | exact HB.out))) : w.heap.size ≤ g283)); have n5_ := Aside0.mk ((by rw [hg]; exact (below_size (by repeat (first | (with_reducible first | exact HB.out | apply below_alloc | apply pw_below_drewN | apply below_drew1 | refine below_set ?_ GE281.out | refine below_set ?_ GE282.out) | exact HB.out))) : w.heap.size ≤ g283)); have n6_ := Aside0.mk ((by rw [hg]; exact Nat.ne_of_lt (blk_lt (g := g281) (o := .cells #[.int .u64 a1_0, .int .u64 a1_1] 36 (0, 0)) (by exact B281.out)) : g281 ≠ g283)); have n7_ := Aside0.mk ((by rw [hg]; exact Nat.ne_of_gt (blk_lt (g := g281) (o := .cells #[.int .u64 a1_0, .int .u64 a1_1] 36 (0, 0)) (by exact B281.out)) : g283 ≠ g281)); have n8_ := Aside0.mk ((by rw [hg]; exact Nat.ne_of_lt (blk_lt (g := g282) (o := .cells #[.int .u64 a2_0, .int .u64 a2_1] 36 (0, 0)) (by exact B282.out)) : g282 ≠ g283)); have n9_ := Aside0.mk ((by rw [hg]; exact Nat.ne_of_gt (blk_lt (g := g282) (o := .cells #[.int .u64 a2_0, .int .u64 a2_1] 36 (0, 0)) (by exact B282.out)) : g283 ≠ g282)); clear B281; clear B282; clear HB; have B281 := n0_; have B282 := n1_; have HB := n2_; have B283 := n3_; have GW283 := n4_; have GE283 := n5_; have NB281_283 := n6_; have NB283_281 := n7_; have NB282_283 := n8_; have NB283_282 := n9_; clear n0_ n1_ n2_ n3_ n4_ n5_ n6_ n7_ n8_ n9_; clear hb hbox hg; have hnb17 := NB281_282.out; have hnc17 := NB282_281.out; have hnb18 := NB281_283.out; have hnc18 := NB283_281.out; have hcz19_0 : w16.cell? ⟨g281, 0, none⟩ = some (.int .u64 a1_0) := bq_ B281 0; have hcz19_1 : w16.cell? ⟨g281, 1, none⟩ = some (.int .u64 a1_1) := bq_ B281 1; have hfz19_0 := blk_frozen B281.out 0; have hfz19_1 := blk_frozen B281.out 1; have hnb20 := NB282_283.out; have hnc20 := NB283_282.out; have hcz21_0 : w16.cell? ⟨g282, 0, none⟩ = some (.int .u64 a2_0) := bq_ B282 0; have hcz21_1 : w16.cell? ⟨g282, 1, none⟩ = some (.int .u64 a2_1) := bq_ B282 1; have hfz21_0 := blk_frozen B282.out 0; have hfz21_1 := blk_frozen B282.out 1; have hcz22_0 : w16.cell? ⟨g283, 0, none⟩ = some (.int .u64 0) := bq_ B283 0; have hcz22_1 : w16.cell? ⟨g283, 1, none⟩ = some (.int .u64 0) := bq_ B283 1; have hcz22_2 : w16.cell? ⟨g283, 2, none⟩ = some (.int .u64 0) := bq_ B283 2; have hcz22_3 : w16.cell? ⟨g283, 3, none⟩ = some (.int .u64 0) := bq_ B283 3; have hfz22_0 := blk_frozen B283.out 0; have hfz22_1 := blk_frozen B283.out 1; have hfz22_2 := blk_frozen B283.out 2; have hfz22_3 := blk_frozen B283.out 3))
  refine bodyPost_ret (results_cell_row rfl _ _ g283 48 #[.int .u64 a1_0, .int .u64 a1_1, .int .u64 a2_0, .int .u64 a2_1] (0, 0) _ rfl (by refine blk_put (cs := #[.int .u64 a1_0, .int .u64 a1_1, .int .u64 a2_0, .int .u64 0]) ?_ 3 _ rfl; refine blk_put (cs := #[.int .u64 a1_0, .int .u64 a1_1, .int .u64 0, .int .u64 0]) ?_ 2 _ rfl; refine blk_put (cs := #[.int .u64 a1_0, .int .u64 0, .int .u64 0, .int .u64 0]) ?_ 1 _ rfl; refine blk_put (cs := #[.int .u64 0, .int .u64 0, .int .u64 0, .int .u64 0]) ?_ 0 _ rfl; exact B283.out) Tryd.underlying48 rfl (by kernel_rfl)) rfl ?_
  exact ⟨by first | rfl | (simp [errW_none, errW_some] <;> rfl) | (simp [*, errW_none, errW_some] <;> rfl), by repeat (first | (with_reducible first | exact HB.out | apply below_alloc | apply pw_below_drewN | apply below_drew1 | refine below_set ?_ GE281.out | refine below_set ?_ GE282.out | refine below_set ?_ GE283.out) | exact HB.out)⟩

end Go.Proofs.YtpnpmeogffodgaaDoor.Q
end
