/- Several texts in one, in build order. What they prove, each by its own first remark:
Written by our own copy of a printing program (a twelfth state) out of the translation. Not trusted: Lean checks it.
Of PFa what this claim needs.
Of PSa what this claim needs.
Of PSl what this claim needs.
Of PNode what this claim needs.
Of PSb what this claim needs.
'==' of arrays as one Bool.
The contract of an instance of slices.Clone: what it hands back reads as what came in, and is memory of its own. -/
import Derived.Test.YtpnpmeogffodgaaDoorM2
import Derived.Laws.BitsLemmas
import Derived.ChangeKeysEq
import Derived.WalkSpells
section
namespace Go.Proofs.YtpnpmeogffodgaaDoor.Q
open Go.RowKit Go.Proofs.YtpnpmeogffodgaaDoorW.PrintWords Go.Proofs.YtpnpmeogffodgaaDoorW.PrintLast Go.Proofs.YtpnpmeogffodgaaDoorW.PrintMore
attribute [local go_sem] max2_int min2_int max_two min_two max_three min_three max_four min_four run_store_fnV run_store_fnc run_store_nfn   -- for this text's walks alone
set_option linter.unusedVariables false
set_option linter.unusedSimpArgs false

/-! ### tree_Climb: function 24 -/
def tree_Climb.f (a0 : Int) (a1 : Int) (ab : Int) (ac : Int) (l3 : List (S36)) : Option (Int × Int) := (tree_opens.f a0 a1 ab ac l3).bind fun aq => (if aq = true then ((tree_climb.f a0 a1 ab ac l3).bind fun ak => (some (ak.1, ak.2))) else (some (0, 0)))
set_option maxHeartbeats 8000000 in
set_option maxRecDepth 100000 in
theorem tree_Climb.calls (a0 : Int) (a1 : Int) (ab : Int) (ac : Int) (A3 : Option Addr) (c3 : Nat) (l3 : List (S36)) (r1 : Int) (r2 : Int) (w : World) (aB : Kd.C k36 w A3 l3.length l3) (aC : l3.length ≤ c3) (hrG : GL w) (h : tree_Climb.f a0 a1 ab ac l3 = some (r1, r2)) :
  Calls Tryd.prog 24 #[.int .i64 a0, .int .i64 a1, .agg #[.int .u64 ab, .int .u64 ac], .slice A3 l3.length c3] w fun e w' => e = .returned (.agg #[.int .u64 r1, .int .u64 r2]) ∧ Below w.heap.size w w' := by
 have hu36 := Tryd.underlying36
 have HRG := aj hrG
 clear hrG
 have az := aj aB
 have aA := aj aC
 clear aB aC
 have HB := aj (Below.refl w.heap.size w)
 have H : ((tree_opens.f a0 a1 ab ac l3).bind fun aq => (if aq = true then ((tree_climb.f a0 a1 ab ac l3).bind fun ak => (some (ak.1, ak.2))) else (some (0, 0)))) = some (r1, r2) := h
 clear h
 replace H := Option.bind_eq_some_iff.mp H
 obtain ⟨aq, aD, H⟩ := H
 have A5 := aj aD
 clear aD
 by_cases c6 : aq = true
 ·subst c6
  have H1 : ((tree_climb.f a0 a1 ab ac l3).bind fun ak => (some (ak.1, ak.2))) = some (r1, r2) := by rw [if_pos rfl] at H; exact H
  clear H
  have H := H1
  clear H1
  replace H := Option.bind_eq_some_iff.mp H
  obtain ⟨⟨ar, ay⟩, aE, H⟩ := H
  replace H : (some (ar, ay)) = some (r1, r2) := H
  have A7 := aj aE
  clear aE
  simp only [Option.some.injEq, Prod.mk.injEq] at H
  obtain ⟨rfl, rfl⟩ := H
  go_enter Tryd.func24, Tryd.ntmps24
  go_wp2_with (first | ((with_reducible refine gate_dst (N := 6) rfl ?_); refine box_event ?hg (N := 6) ?hd (cs := #[.int .u64 ab, .int .u64 ac]) (t := 36) ?hr ?_; (case hd => rfl); (case hg => rfl); (case hr => first | (go_simp; done) | (go_simp; rfl)); intro ad hg w8 hbox hb; have ag := aj (below_step HB.out hb); have ah := aj (hbox); have au := aj ((by rw [hg]; exact (below_size HB.out) : w.heap.size ≤ ad)); clear HB; have HB := ag; have aa := ah; have ai := au; clear ag ah au; clear hb hbox hg) | ((with_reducible refine gate_dst (N := 8) rfl ?_); refine box_event ?hg (N := 8) ?hd (cs := #[.int .u64 0, .int .u64 0]) (t := 36) ?hr ?_; (case hd => rfl); (case hg => rfl); (case hr => first | (go_simp; done) | (go_simp; rfl)); intro af hg w9 hbox hb; have ag := aj (blk_below aa.out hb); have ah := aj (below_step HB.out hb); have al := aj (hbox); have av := aj ((by rw [hg]; exact (below_size HB.out) : w.heap.size ≤ af)); have aw := aj ((by rw [hg]; exact Nat.ne_of_lt (blk_lt aa.out) : ad ≠ af)); have ax := aj ((by rw [hg]; exact Nat.ne_of_gt (blk_lt aa.out) : af ≠ ad)); clear aa; clear HB; have aa := ag; have HB := ah; have ae := al; have ap := av; have am := aw; have ao := ax; clear ag ah al av aw ax; clear hb hbox hg; have a5 := am.out; have a6 := ao.out; have aJ : w9.cell? ⟨ad, 0, none⟩ = some (.int .u64 ab) := bq_ aa 0; have aK : w9.cell? ⟨ad, 1, none⟩ = some (.int .u64 ac) := bq_ aa 1; have aL := blk_frozen aa.out 0; have aM := blk_frozen aa.out 1) | ((with_reducible refine gate_callee (f := 47) rfl ?_); refine goesL_ (some 13) rfl rfl Tryd.func47 (by kernel_rfl) rfl #[.int .i64 a0, .int .i64 a1, .agg #[.int .u64 ab, .int .u64 ac], .slice A3 l3.length c3] rfl (by (try simp only [List.map_toArray, List.map_cons, List.map_nil]); first | done | rfl | (go_simp; done)) ?_; (with_reducible refine (tree_opens.calls a0 a1 ab ac _ _ l3 true _ ?side1 ?side2 ?side3 A5.out).mono ?_); (case side1 => exact (Kd.C_below az.out HB.out)); (case side2 => exact aA.out); (case side3 => repeat (first | exact (GL.below HRG.out HB.out) | (with_reducible refine GL.alloc ?_ _) | (with_reducible refine GL.drewN ?_ _) | (with_reducible refine GL.drew ?_))); rintro e aF ⟨rfl, hb⟩; refine ⟨_, rfl, ?_⟩; have ag := aj (blk_below aa.out hb); have ah := aj (blk_below ae.out hb); have al := aj (below_step HB.out hb); clear aa; clear ae; clear HB; have aa := ag; have ae := ah; have HB := al; clear ag ah al; (try clear hb); (try clear hb2); (try clear hk); (try clear hi); have aN : aF.cell? ⟨ad, 0, none⟩ = some (.int .u64 ab) := bq_ aa 0; have aO : aF.cell? ⟨ad, 1, none⟩ = some (.int .u64 ac) := bq_ aa 1; have aP := blk_frozen aa.out 0; have aQ := blk_frozen aa.out 1) | ((with_reducible refine gate_callee (f := 48) rfl ?_); refine goesL_ (some 20) rfl rfl Tryd.func48 (by kernel_rfl) rfl #[.int .i64 a0, .int .i64 a1, .agg #[.int .u64 ab, .int .u64 ac], .slice A3 l3.length c3] rfl (by (try simp only [List.map_toArray, List.map_cons, List.map_nil]); first | done | rfl | (go_simp; done)) ?_; (with_reducible refine (tree_climb.calls a0 a1 ab ac _ _ l3 ar ay _ ?side1 ?side2 ?side3 A7.out).mono ?_); (case side1 => exact (Kd.C_below az.out HB.out)); (case side2 => exact aA.out); (case side3 => repeat (first | exact (GL.below HRG.out HB.out) | (with_reducible refine GL.alloc ?_ _) | (with_reducible refine GL.drewN ?_ _) | (with_reducible refine GL.drew ?_))); rintro e aG ⟨rfl, hb⟩; refine ⟨_, rfl, ?_⟩; have ag := aj (blk_below aa.out hb); have ah := aj (blk_below ae.out hb); have al := aj (below_step HB.out hb); clear aa; clear ae; clear HB; have aa := ag; have ae := ah; have HB := al; clear ag ah al; (try clear hb); (try clear hb2); (try clear hk); (try clear hi); have aR : aG.cell? ⟨af, 0, none⟩ = some (.int .u64 0) := bq_ ae 0; have aS : aG.cell? ⟨af, 1, none⟩ = some (.int .u64 0) := bq_ ae 1; have aT := blk_frozen ae.out 0; have aU := blk_frozen ae.out 1))
  refine bodyPost_ret (results_cell_row rfl _ _ af 36 #[.int .u64 ar, .int .u64 ay] (0, 0) _ rfl (by refine blk_put (cs := #[.int .u64 ar, .int .u64 0]) ?_ 1 _ rfl; refine blk_put (cs := #[.int .u64 0, .int .u64 0]) ?_ 0 _ rfl; exact ae.out) Tryd.underlying36 rfl (by kernel_rfl)) rfl ?_
  exact ⟨by first | rfl | (simp [errW_none, errW_some] <;> rfl) | (simp [*, errW_none, errW_some] <;> rfl), by repeat (first | (with_reducible first | exact HB.out | apply below_alloc | apply pw_below_drewN | apply below_drew1 | refine below_set ?_ ai.out | refine below_set ?_ ap.out) | exact HB.out)⟩
 ·replace c6 := Bool.eq_false_iff.mpr c6
  subst c6
  have H1 : (some (0, 0)) = some (r1, r2) := by rw [if_neg (show ¬ (false = true) by decide)] at H; exact H
  clear H
  have H := H1
  clear H1
  simp only [Option.some.injEq, Prod.mk.injEq] at H
  obtain ⟨rfl, rfl⟩ := H
  go_enter Tryd.func24, Tryd.ntmps24
  go_wp2_with (first | ((with_reducible refine gate_dst (N := 6) rfl ?_); refine box_event ?hg (N := 6) ?hd (cs := #[.int .u64 ab, .int .u64 ac]) (t := 36) ?hr ?_; (case hd => rfl); (case hg => rfl); (case hr => first | (go_simp; done) | (go_simp; rfl)); intro ad hg a9 hbox hb; have ag := aj (below_step HB.out hb); have ah := aj (hbox); have au := aj ((by rw [hg]; exact (below_size HB.out) : w.heap.size ≤ ad)); clear HB; have HB := ag; have aa := ah; have ai := au; clear ag ah au; clear hb hbox hg) | ((with_reducible refine gate_dst (N := 8) rfl ?_); refine box_event ?hg (N := 8) ?hd (cs := #[.int .u64 0, .int .u64 0]) (t := 36) ?hr ?_; (case hd => rfl); (case hg => rfl); (case hr => first | (go_simp; done) | (go_simp; rfl)); intro af hg aH hbox hb; have ag := aj (blk_below aa.out hb); have ah := aj (below_step HB.out hb); have al := aj (hbox); have av := aj ((by rw [hg]; exact (below_size HB.out) : w.heap.size ≤ af)); have aw := aj ((by rw [hg]; exact Nat.ne_of_lt (blk_lt aa.out) : ad ≠ af)); have ax := aj ((by rw [hg]; exact Nat.ne_of_gt (blk_lt aa.out) : af ≠ ad)); clear aa; clear HB; have aa := ag; have HB := ah; have ae := al; have ap := av; have am := aw; have ao := ax; clear ag ah al av aw ax; clear hb hbox hg; have a7 := am.out; have a8 := ao.out; have aV : aH.cell? ⟨ad, 0, none⟩ = some (.int .u64 ab) := bq_ aa 0; have aW : aH.cell? ⟨ad, 1, none⟩ = some (.int .u64 ac) := bq_ aa 1; have aX := blk_frozen aa.out 0; have aY := blk_frozen aa.out 1) | ((with_reducible refine gate_callee (f := 47) rfl ?_); refine goesL_ (some 13) rfl rfl Tryd.func47 (by kernel_rfl) rfl #[.int .i64 a0, .int .i64 a1, .agg #[.int .u64 ab, .int .u64 ac], .slice A3 l3.length c3] rfl (by (try simp only [List.map_toArray, List.map_cons, List.map_nil]); first | done | rfl | (go_simp; done)) ?_; (with_reducible refine (tree_opens.calls a0 a1 ab ac _ _ l3 false _ ?side1 ?side2 ?side3 A5.out).mono ?_); (case side1 => exact (Kd.C_below az.out HB.out)); (case side2 => exact aA.out); (case side3 => repeat (first | exact (GL.below HRG.out HB.out) | (with_reducible refine GL.alloc ?_ _) | (with_reducible refine GL.drewN ?_ _) | (with_reducible refine GL.drew ?_))); rintro e aI ⟨rfl, hb⟩; refine ⟨_, rfl, ?_⟩; have ag := aj (blk_below aa.out hb); have ah := aj (blk_below ae.out hb); have al := aj (below_step HB.out hb); clear aa; clear ae; clear HB; have aa := ag; have ae := ah; have HB := al; clear ag ah al; (try clear hb); (try clear hb2); (try clear hk); (try clear hi); have aZ : aI.cell? ⟨af, 0, none⟩ = some (.int .u64 0) := bq_ ae 0; have a2 : aI.cell? ⟨af, 1, none⟩ = some (.int .u64 0) := bq_ ae 1; have a3 := blk_frozen ae.out 0; have a4 := blk_frozen ae.out 1))
  refine bodyPost_ret (results_cell_row rfl _ _ af 36 #[.int .u64 0, .int .u64 0] (0, 0) _ rfl (by refine blk_put (cs := #[.int .u64 0, .int .u64 0]) ?_ 1 _ rfl; refine blk_put (cs := #[.int .u64 0, .int .u64 0]) ?_ 0 _ rfl; exact ae.out) Tryd.underlying36 rfl (by kernel_rfl)) rfl ?_
  exact ⟨by first | rfl | (simp [errW_none, errW_some] <;> rfl) | (simp [*, errW_none, errW_some] <;> rfl), by repeat (first | (with_reducible first | exact HB.out | apply below_alloc | apply pw_below_drewN | apply below_drew1 | refine below_set ?_ ai.out | refine below_set ?_ ap.out) | exact HB.out)⟩

/-! ### attestorref01_Valid: function 42 -/
def attestorref01_Valid.f (a0 : Int) : Option (Bool) := if a0 ≥ 0 then (some (decide (a0 ≤ 3))) else (some false)
set_option maxHeartbeats 8000000 in
set_option maxRecDepth 100000 in
theorem attestorref01_Valid.calls (a0 : Int) (r : Bool) (w : World) (h : attestorref01_Valid.f a0 = some r) :
  Calls Tryd.prog 42 #[.int .i64 a0] w fun e w' => e = .returned (.bool r) ∧ Drawn0 w w' := by
 have H : (if a0 ≥ 0 then (some (decide (a0 ≤ 3))) else (some false)) = some r := h
 clear h
 by_cases c2 : a0 ≥ 0
 ·rw [if_pos c2] at H
  have c2b0 : decide (0 ≤ a0) = true := decide_eq_true c2
  clear c2
  obtain rfl := Option.some.inj H
  go_enter Tryd.func42, Tryd.ntmps42
  go_wp2
  go_ret
  exact ⟨by first | rfl | (simp; done) | (simp [*]; done), by repeat (first | exact Drawn0.refl _ | apply Drawn0.step)⟩
 ·rw [if_neg c2] at H
  have c2b0 : decide (0 ≤ a0) = false := decide_eq_false c2
  clear c2
  obtain rfl := Option.some.inj H
  go_enter Tryd.func42, Tryd.ntmps42
  go_wp2
  go_ret
  exact ⟨by first | rfl | (simp; done) | (simp [*]; done), by repeat (first | exact Drawn0.refl _ | apply Drawn0.step)⟩

/-! ### attestorref01_P: function 34 -/
def attestorref01_P.f (a0 : Int) : Option (Int) := if a0 = 0 then (some 97) else (if a0 = 1 then (some 257) else (if a0 = 2 then (some 12289) else (if a0 = 3 then (some 998244353) else (some 0))))
set_option maxHeartbeats 8000000 in
set_option maxRecDepth 100000 in
theorem attestorref01_P.calls (a0 : Int) (r : Int) (w : World) (h : attestorref01_P.f a0 = some r) :
  Calls Tryd.prog 34 #[.int .i64 a0] w fun e w' => e = .returned (.int .u64 r) ∧ Drawn0 w w' := by
 have H : (if a0 = 0 then (some 97) else (if a0 = 1 then (some 257) else (if a0 = 2 then (some 12289) else (if a0 = 3 then (some 998244353) else (some 0))))) = some r := h
 clear h
 by_cases c2 : a0 = 0
 ·rw [if_pos c2] at H
  have c2b0 : (a0 == 0) = true := beq_iff_eq.mpr c2
  have c2b1 : (a0 != 0) = false := bne_eq_false_iff_eq.mpr c2
  clear c2
  obtain rfl := Option.some.inj H
  go_enter Tryd.func34, Tryd.ntmps34
  go_wp2
  go_ret
  exact ⟨by first | rfl | (simp; done) | (simp [*]; done), by repeat (first | exact Drawn0.refl _ | apply Drawn0.step)⟩
 ·rw [if_neg c2] at H
  have c2b0 : (a0 == 0) = false := beq_eq_false_iff_ne.mpr c2
  have c2b1 : (a0 != 0) = true := bne_iff_ne.mpr c2
  by_cases c3 : a0 = 1
  ·rw [if_pos c3] at H
   have c3b0 : (a0 == 1) = true := beq_iff_eq.mpr c3
   have c3b1 : (a0 != 1) = false := bne_eq_false_iff_eq.mpr c3
   clear c3
   obtain rfl := Option.some.inj H
   go_enter Tryd.func34, Tryd.ntmps34
   go_wp2
   go_ret
   exact ⟨by first | rfl | (simp; done) | (simp [*]; done), by repeat (first | exact Drawn0.refl _ | apply Drawn0.step)⟩
  ·rw [if_neg c3] at H
   have c3b0 : (a0 == 1) = false := beq_eq_false_iff_ne.mpr c3
   have c3b1 : (a0 != 1) = true := bne_iff_ne.mpr c3
   by_cases c4 : a0 = 2
   ·rw [if_pos c4] at H
    have c4b0 : (a0 == 2) = true := beq_iff_eq.mpr c4
    have c4b1 : (a0 != 2) = false := bne_eq_false_iff_eq.mpr c4
    clear c4
    obtain rfl := Option.some.inj H
    go_enter Tryd.func34, Tryd.ntmps34
    go_wp2
    go_ret
    exact ⟨by first | rfl | (simp; done) | (simp [*]; done), by repeat (first | exact Drawn0.refl _ | apply Drawn0.step)⟩
   ·rw [if_neg c4] at H
    have c4b0 : (a0 == 2) = false := beq_eq_false_iff_ne.mpr c4
    have c4b1 : (a0 != 2) = true := bne_iff_ne.mpr c4
    by_cases c5 : a0 = 3
    ·rw [if_pos c5] at H
     have c5b0 : (a0 == 3) = true := beq_iff_eq.mpr c5
     have c5b1 : (a0 != 3) = false := bne_eq_false_iff_eq.mpr c5
     clear c5
     obtain rfl := Option.some.inj H
     go_enter Tryd.func34, Tryd.ntmps34
     go_wp2
     go_ret
     exact ⟨by first | rfl | (simp; done) | (simp [*]; done), by repeat (first | exact Drawn0.refl _ | apply Drawn0.step)⟩
    ·rw [if_neg c5] at H
     have c5b0 : (a0 == 3) = false := beq_eq_false_iff_ne.mpr c5
     have c5b1 : (a0 != 3) = true := bne_iff_ne.mpr c5
     obtain rfl := Option.some.inj H
     go_enter Tryd.func34, Tryd.ntmps34
     go_wp2
     go_ret
     exact ⟨by first | rfl | (simp; done) | (simp [*]; done), by repeat (first | exact Drawn0.refl _ | apply Drawn0.step)⟩

end Go.Proofs.YtpnpmeogffodgaaDoor.Q
end
section
namespace Go.Proofs.YtpnpmeogffodgaaDoor.Q
open Go.RowKit Go.Proofs.YtpnpmeogffodgaaDoorW.PrintWords Go.Proofs.YtpnpmeogffodgaaDoorW.PrintLast Go.Proofs.YtpnpmeogffodgaaDoorW.PrintMore
attribute [local go_sem] max2_int min2_int max_two min_two max_three min_three max_four min_four run_store_fnV run_store_fnc run_store_nfn   -- for this text's walks alone
set_option linter.unusedVariables false
set_option linter.unusedSimpArgs false

/-! ### attestorref01_Add: function 63 -/
def attestorref01_Add.f (a0 : Int) (a1 : Int) (a2 : Int) : Option (Int) := (attestorref01_Valid.f a0).bind fun ac => (if ac = true then ((attestorref01_P.f a0).bind fun aa => (if aa = 0 then (none) else (some (Int.tmod (IntKind.u64.wrap ((Int.tmod a1 aa) + (Int.tmod a2 aa))) aa)))) else (some 0))
set_option maxHeartbeats 8000000 in
set_option maxRecDepth 100000 in
theorem attestorref01_Add.calls (a0 : Int) (a1 : Int) (a2 : Int) (r : Int) (w : World) (h : attestorref01_Add.f a0 a1 a2 = some r) :
  Calls Tryd.prog 63 #[.int .i64 a0, .int .u64 a1, .int .u64 a2] w fun e w' => e = .returned (.int .u64 r) ∧ Drawn0 w w' := by
 have H : ((attestorref01_Valid.f a0).bind fun ac => (if ac = true then ((attestorref01_P.f a0).bind fun aa => (if aa = 0 then (none) else (some (Int.tmod (IntKind.u64.wrap ((Int.tmod a1 aa) + (Int.tmod a2 aa))) aa)))) else (some 0))) = some r := h
 clear h
 replace H := Option.bind_eq_some_iff.mp H
 obtain ⟨ac, ae, H⟩ := H
 replace H : (if ac = true then ((attestorref01_P.f a0).bind fun aa => (if aa = 0 then (none) else (some (Int.tmod (IntKind.u64.wrap ((Int.tmod a1 aa) + (Int.tmod a2 aa))) aa)))) else (some 0)) = some r := H
 have A4 := aj ae
 clear ae
 by_cases c5 : ac = true
 ·subst c5
  have H1 : ((attestorref01_P.f a0).bind fun aa => (if aa = 0 then (none) else (some (Int.tmod (IntKind.u64.wrap ((Int.tmod a1 aa) + (Int.tmod a2 aa))) aa)))) = some r := by rw [if_pos rfl] at H; exact H
  clear H
  have H := H1
  clear H1
  replace H := Option.bind_eq_some_iff.mp H
  obtain ⟨aa, af, H⟩ := H
  replace H : (if aa = 0 then (none) else (some (Int.tmod (IntKind.u64.wrap ((Int.tmod a1 aa) + (Int.tmod a2 aa))) aa))) = some r := H
  have A6 := aj af
  clear af
  by_cases c7 : aa = 0
  ·rw [if_pos c7] at H
   exact absurd H (by simp)
  ·rw [if_neg c7] at H
   have c7b0 : (aa == 0) = false := beq_eq_false_iff_ne.mpr c7
   have c7b1 : (aa != 0) = true := bne_iff_ne.mpr c7
   obtain rfl := Option.some.inj H
   go_enter Tryd.func63, Tryd.ntmps63
   go_wp2_with (first | (go_at_call 42; (with_reducible refine (attestorref01_Valid.calls a0 true _ A4.out).mono ?_); rintro e w' ⟨rfl, ⟨nd, rfl⟩⟩; (try first | exact ⟨rfl, _, World.drewN_drewN _ _ _⟩ | exact ⟨rfl, _, Eq.trans (World.drewN_drewN _ _ _) (congrArg (World.drewN _) (Nat.add_assoc _ _ _))⟩)) | (go_at_call 34; (with_reducible refine (attestorref01_P.calls a0 aa _ A6.out).mono ?_); rintro e w' ⟨rfl, ⟨nd, rfl⟩⟩; (try first | exact ⟨rfl, _, World.drewN_drewN _ _ _⟩ | exact ⟨rfl, _, Eq.trans (World.drewN_drewN _ _ _) (congrArg (World.drewN _) (Nat.add_assoc _ _ _))⟩)))
   repeat (go_quiet (first | (go_at_call 42; (with_reducible refine (attestorref01_Valid.calls a0 true _ A4.out).mono ?_); rintro e w' ⟨rfl, ⟨nd, rfl⟩⟩; (try first | exact ⟨rfl, _, World.drewN_drewN _ _ _⟩ | exact ⟨rfl, _, Eq.trans (World.drewN_drewN _ _ _) (congrArg (World.drewN _) (Nat.add_assoc _ _ _))⟩)) | (go_at_call 34; (with_reducible refine (attestorref01_P.calls a0 aa _ A6.out).mono ?_); rintro e w' ⟨rfl, ⟨nd, rfl⟩⟩; (try first | exact ⟨rfl, _, World.drewN_drewN _ _ _⟩ | exact ⟨rfl, _, Eq.trans (World.drewN_drewN _ _ _) (congrArg (World.drewN _) (Nat.add_assoc _ _ _))⟩))); try go_wp2)
   go_ret
   exact ⟨by first | rfl | (simp; done) | (simp [*]; done), by repeat (first | exact Drawn0.refl _ | apply Drawn0.step)⟩
 ·replace c5 := Bool.eq_false_iff.mpr c5
  subst c5
  have H1 : (some 0) = some r := by rw [if_neg (show ¬ (false = true) by decide)] at H; exact H
  clear H
  have H := H1
  clear H1
  obtain rfl := Option.some.inj H
  go_enter Tryd.func63, Tryd.ntmps63
  go_wp2_with (first | (go_at_call 42; (with_reducible refine (attestorref01_Valid.calls a0 false _ A4.out).mono ?_); rintro e w' ⟨rfl, ⟨nd, rfl⟩⟩; (try first | exact ⟨rfl, _, World.drewN_drewN _ _ _⟩ | exact ⟨rfl, _, Eq.trans (World.drewN_drewN _ _ _) (congrArg (World.drewN _) (Nat.add_assoc _ _ _))⟩)))
  repeat (go_quiet (first | (go_at_call 42; (with_reducible refine (attestorref01_Valid.calls a0 false _ A4.out).mono ?_); rintro e w' ⟨rfl, ⟨nd, rfl⟩⟩; (try first | exact ⟨rfl, _, World.drewN_drewN _ _ _⟩ | exact ⟨rfl, _, Eq.trans (World.drewN_drewN _ _ _) (congrArg (World.drewN _) (Nat.add_assoc _ _ _))⟩))); try go_wp2)
  go_ret
  exact ⟨by first | rfl | (simp; done) | (simp [*]; done), by repeat (first | exact Drawn0.refl _ | apply Drawn0.step)⟩

/-! ### attestorref01_Mul: function 78 -/
def attestorref01_Mul.f (a0 : Int) (a1 : Int) (a2 : Int) : Option (Int) := (attestorref01_Valid.f a0).bind fun ad => (if ad = true then ((attestorref01_P.f a0).bind fun ab => (if ab = 0 then (none) else (some (Int.tmod (IntKind.u64.wrap ((Int.tmod a1 ab) * (Int.tmod a2 ab))) ab)))) else (some 0))
set_option maxHeartbeats 8000000 in
set_option maxRecDepth 100000 in
theorem attestorref01_Mul.calls (a0 : Int) (a1 : Int) (a2 : Int) (r : Int) (w : World) (h : attestorref01_Mul.f a0 a1 a2 = some r) :
  Calls Tryd.prog 78 #[.int .i64 a0, .int .u64 a1, .int .u64 a2] w fun e w' => e = .returned (.int .u64 r) ∧ Drawn0 w w' := by
 have H : ((attestorref01_Valid.f a0).bind fun ad => (if ad = true then ((attestorref01_P.f a0).bind fun ab => (if ab = 0 then (none) else (some (Int.tmod (IntKind.u64.wrap ((Int.tmod a1 ab) * (Int.tmod a2 ab))) ab)))) else (some 0))) = some r := h
 clear h
 replace H := Option.bind_eq_some_iff.mp H
 obtain ⟨ad, ae, H⟩ := H
 replace H : (if ad = true then ((attestorref01_P.f a0).bind fun ab => (if ab = 0 then (none) else (some (Int.tmod (IntKind.u64.wrap ((Int.tmod a1 ab) * (Int.tmod a2 ab))) ab)))) else (some 0)) = some r := H
 have A4 := aj ae
 clear ae
 by_cases c5 : ad = true
 ·subst c5
  have H1 : ((attestorref01_P.f a0).bind fun ab => (if ab = 0 then (none) else (some (Int.tmod (IntKind.u64.wrap ((Int.tmod a1 ab) * (Int.tmod a2 ab))) ab)))) = some r := by rw [if_pos rfl] at H; exact H
  clear H
  have H := H1
  clear H1
  replace H := Option.bind_eq_some_iff.mp H
  obtain ⟨ab, af, H⟩ := H
  replace H : (if ab = 0 then (none) else (some (Int.tmod (IntKind.u64.wrap ((Int.tmod a1 ab) * (Int.tmod a2 ab))) ab))) = some r := H
  have A6 := aj af
  clear af
  by_cases c7 : ab = 0
  ·rw [if_pos c7] at H
   exact absurd H (by simp)
  ·rw [if_neg c7] at H
   have c7b0 : (ab == 0) = false := beq_eq_false_iff_ne.mpr c7
   have c7b1 : (ab != 0) = true := bne_iff_ne.mpr c7
   obtain rfl := Option.some.inj H
   go_enter Tryd.func78, Tryd.ntmps78
   go_wp2_with (first | (go_at_call 42; (with_reducible refine (attestorref01_Valid.calls a0 true _ A4.out).mono ?_); rintro e w' ⟨rfl, ⟨nd, rfl⟩⟩; (try first | exact ⟨rfl, _, World.drewN_drewN _ _ _⟩ | exact ⟨rfl, _, Eq.trans (World.drewN_drewN _ _ _) (congrArg (World.drewN _) (Nat.add_assoc _ _ _))⟩)) | (go_at_call 34; (with_reducible refine (attestorref01_P.calls a0 ab _ A6.out).mono ?_); rintro e w' ⟨rfl, ⟨nd, rfl⟩⟩; (try first | exact ⟨rfl, _, World.drewN_drewN _ _ _⟩ | exact ⟨rfl, _, Eq.trans (World.drewN_drewN _ _ _) (congrArg (World.drewN _) (Nat.add_assoc _ _ _))⟩)))
   repeat (go_quiet (first | (go_at_call 42; (with_reducible refine (attestorref01_Valid.calls a0 true _ A4.out).mono ?_); rintro e w' ⟨rfl, ⟨nd, rfl⟩⟩; (try first | exact ⟨rfl, _, World.drewN_drewN _ _ _⟩ | exact ⟨rfl, _, Eq.trans (World.drewN_drewN _ _ _) (congrArg (World.drewN _) (Nat.add_assoc _ _ _))⟩)) | (go_at_call 34; (with_reducible refine (attestorref01_P.calls a0 ab _ A6.out).mono ?_); rintro e w' ⟨rfl, ⟨nd, rfl⟩⟩; (try first | exact ⟨rfl, _, World.drewN_drewN _ _ _⟩ | exact ⟨rfl, _, Eq.trans (World.drewN_drewN _ _ _) (congrArg (World.drewN _) (Nat.add_assoc _ _ _))⟩))); try go_wp2)
   go_ret
   exact ⟨by first | rfl | (simp; done) | (simp [*]; done), by repeat (first | exact Drawn0.refl _ | apply Drawn0.step)⟩
 ·replace c5 := Bool.eq_false_iff.mpr c5
  subst c5
  have H1 : (some 0) = some r := by rw [if_neg (show ¬ (false = true) by decide)] at H; exact H
  clear H
  have H := H1
  clear H1
  obtain rfl := Option.some.inj H
  go_enter Tryd.func78, Tryd.ntmps78
  go_wp2_with (first | (go_at_call 42; (with_reducible refine (attestorref01_Valid.calls a0 false _ A4.out).mono ?_); rintro e w' ⟨rfl, ⟨nd, rfl⟩⟩; (try first | exact ⟨rfl, _, World.drewN_drewN _ _ _⟩ | exact ⟨rfl, _, Eq.trans (World.drewN_drewN _ _ _) (congrArg (World.drewN _) (Nat.add_assoc _ _ _))⟩)))
  repeat (go_quiet (first | (go_at_call 42; (with_reducible refine (attestorref01_Valid.calls a0 false _ A4.out).mono ?_); rintro e w' ⟨rfl, ⟨nd, rfl⟩⟩; (try first | exact ⟨rfl, _, World.drewN_drewN _ _ _⟩ | exact ⟨rfl, _, Eq.trans (World.drewN_drewN _ _ _) (congrArg (World.drewN _) (Nat.add_assoc _ _ _))⟩))); try go_wp2)
  go_ret
  exact ⟨by first | rfl | (simp; done) | (simp [*]; done), by repeat (first | exact Drawn0.refl _ | apply Drawn0.step)⟩

end Go.Proofs.YtpnpmeogffodgaaDoor.Q
end
section
namespace Go.Proofs.YtpnpmeogffodgaaDoor.Q
open Go.RowKit Go.Proofs.YtpnpmeogffodgaaDoorW.PrintWords Go.Proofs.YtpnpmeogffodgaaDoorW.PrintLast Go.Proofs.YtpnpmeogffodgaaDoorW.PrintMore
attribute [local go_sem] max2_int min2_int max_two min_two max_three min_three max_four min_four run_store_fnV run_store_fnc run_store_nfn   -- for this text's walks alone
set_option linter.unusedVariables false
set_option linter.unusedSimpArgs false

/-! ### attestorref01_Pow: function 75 -/
def attestorref01_Pow.f : Nat → Int → Int → Int → Option (Int)
  | 0, _, _, _ => none
  | k + 1, a0, a1, a2 => (attestorref01_Valid.f a0).bind fun t238 => (if t238 = true then (if a2 = 0 then (some 1) else ((attestorref01_Pow.f k a0 a1 (IntKind.u64.wrap (Int.tdiv a2 2))).bind fun t239 => ((attestorref01_Mul.f a0 t239 t239).bind fun t240 => (if (Int.tmod a2 2) = 1 then ((attestorref01_Mul.f a0 t240 a1).bind fun t241 => (some t241)) else (some t240))))) else (some 0))
theorem attestorref01_Pow.mono_l : ∀ k, (∀ y0 y1 y2, LeO (attestorref01_Pow.f k y0 y1 y2) (attestorref01_Pow.f (k + 1) y0 y1 y2))
  | 0 => fun _ _ _ r h => by simp [attestorref01_Pow.f] at h
  | k + 1 => by
    have ih0 := attestorref01_Pow.mono_l k
    · intro y0 y1 y2
      unfold attestorref01_Pow.f
      repeat' first
      | (with_reducible exact ih0 _ _ _)
      | (with_reducible exact LeO.refl _)
      | (with_reducible exact LeO.none _)
      | (with_reducible refine LeO.ite ?_ ?_)
      | (with_reducible refine LeO.bind ?_ (fun _ => ?_))
      | exact ih0 _ _ _
      | exact LeO.none _
      | refine LeO.ite ?_ ?_
      | refine LeO.bind ?_ (fun _ => ?_)
theorem attestorref01_Pow.mono : ∀ a0 a1 a2 k, LeO (attestorref01_Pow.f k a0 a1 a2) (attestorref01_Pow.f (k + 1) a0 a1 a2) := by
  intro a0 a1 a2 k
  have ih0 := attestorref01_Pow.mono_l k
  exact ih0 a0 a1 a2
set_option maxHeartbeats 8000000 in
set_option maxRecDepth 100000 in
theorem attestorref01_Pow.calls (k : Nat) : ∀ (a0 : Int) (a1 : Int) (a2 : Int) (r : Int) (w : World) (h : attestorref01_Pow.f k a0 a1 a2 = some r),
    Calls Tryd.prog 75 #[.int .i64 a0, .int .u64 a1, .int .u64 a2] w fun e w' => e = .returned (.int .u64 r) ∧ Drawn0 w w' := by
  induction k using Nat.strongRecOn with
  | _ k ih =>
  intro a0 a1 a2 r w h
  cases k with
  | zero => exact absurd h (by simp [attestorref01_Pow.f])
  | succ k =>
  simp only [attestorref01_Pow.f] at h
  have H : ((attestorref01_Valid.f a0).bind fun t238 => (if t238 = true then (if a2 = 0 then (some 1) else ((attestorref01_Pow.f k a0 a1 (IntKind.u64.wrap (Int.tdiv a2 2))).bind fun t239 => ((attestorref01_Mul.f a0 t239 t239).bind fun t240 => (if (Int.tmod a2 2) = 1 then ((attestorref01_Mul.f a0 t240 a1).bind fun t241 => (some t241)) else (some t240))))) else (some 0))) = some r := h
  clear h
  replace H := Option.bind_eq_some_iff.mp H
  obtain ⟨t238, A40, H⟩ := H
  replace H : (if t238 = true then (if a2 = 0 then (some 1) else ((attestorref01_Pow.f k a0 a1 (IntKind.u64.wrap (Int.tdiv a2 2))).bind fun t239 => ((attestorref01_Mul.f a0 t239 t239).bind fun t240 => (if (Int.tmod a2 2) = 1 then ((attestorref01_Mul.f a0 t240 a1).bind fun t241 => (some t241)) else (some t240))))) else (some 0)) = some r := H
  have A4 := Aside0.mk A40
  clear A40
  by_cases c5 : t238 = true
  · subst c5
    have H1 : (if a2 = 0 then (some 1) else ((attestorref01_Pow.f k a0 a1 (IntKind.u64.wrap (Int.tdiv a2 2))).bind fun t239 => ((attestorref01_Mul.f a0 t239 t239).bind fun t240 => (if (Int.tmod a2 2) = 1 then ((attestorref01_Mul.f a0 t240 a1).bind fun t241 => (some t241)) else (some t240))))) = some r := by rw [if_pos rfl] at H; exact H
    clear H
    have H := H1
    clear H1
    by_cases c6 : a2 = 0
    · rw [if_pos c6] at H
      have c6b0 : (a2 == 0) = true := beq_iff_eq.mpr c6
      have c6b1 : (a2 != 0) = false := bne_eq_false_iff_eq.mpr c6
      clear c6
      obtain rfl := Option.some.inj H
      go_enter Tryd.func75, Tryd.ntmps75
      go_wp2_with (first | ((with_reducible refine gate_callee (f := 42) rfl ?_); refine goesL_ (some 9) rfl rfl Tryd.func42 (by kernel_rfl) rfl #[.int .i64 a0] rfl (by (try simp only [List.map_toArray, List.map_cons, List.map_nil]); first | done | rfl | (simp only [List.length_drop, List.length_take]; rfl) | (go_simp; done) | (go_simp; rw [Int.tmod_eq_emod_of_nonneg (by omega)]; omega)) ?_; (with_reducible refine (attestorref01_Valid.calls a0 true _ A4.out).mono ?_); rintro e w' ⟨rfl, ⟨nd, rfl⟩⟩; refine ⟨_, rfl, ?_⟩))
      go_ret
      exact ⟨by first | rfl | (simp; done) | (simp [*]; done), by repeat (first | exact Drawn0.refl _ | apply Drawn0.step)⟩
    · rw [if_neg c6] at H
      have c6b0 : (a2 == 0) = false := beq_eq_false_iff_ne.mpr c6
      have c6b1 : (a2 != 0) = true := bne_iff_ne.mpr c6
      replace H := Option.bind_eq_some_iff.mp H
      obtain ⟨t239, A70, H⟩ := H
      replace H : ((attestorref01_Mul.f a0 t239 t239).bind fun t240 => (if (Int.tmod a2 2) = 1 then ((attestorref01_Mul.f a0 t240 a1).bind fun t241 => (some t241)) else (some t240))) = some r := H
      have A7 := Aside0.mk A70
      clear A70
      replace H := Option.bind_eq_some_iff.mp H
      obtain ⟨t240, A80, H⟩ := H
      replace H : (if (Int.tmod a2 2) = 1 then ((attestorref01_Mul.f a0 t240 a1).bind fun t241 => (some t241)) else (some t240)) = some r := H
      have A8 := Aside0.mk A80
      clear A80
      by_cases c9 : (Int.tmod a2 2) = 1
      · rw [if_pos c9] at H
        have c9b0 : ((Int.tmod a2 2) == 1) = true := beq_iff_eq.mpr c9
        have c9b1 : ((Int.tmod a2 2) != 1) = false := bne_eq_false_iff_eq.mpr c9
        clear c9
        replace H := Option.bind_eq_some_iff.mp H
        obtain ⟨t241, A100, H⟩ := H
        replace H : (some t241) = some r := H
        have A10 := Aside0.mk A100
        clear A100
        obtain rfl := Option.some.inj H
        go_enter Tryd.func75, Tryd.ntmps75
        go_wp2_with (first | ((with_reducible refine gate_callee (f := 42) rfl ?_); refine goesL_ (some 9) rfl rfl Tryd.func42 (by kernel_rfl) rfl #[.int .i64 a0] rfl (by (try simp only [List.map_toArray, List.map_cons, List.map_nil]); first | done | rfl | (simp only [List.length_drop, List.length_take]; rfl) | (go_simp; done) | (go_simp; rw [Int.tmod_eq_emod_of_nonneg (by omega)]; omega)) ?_; (with_reducible refine (attestorref01_Valid.calls a0 true _ A4.out).mono ?_); rintro e w' ⟨rfl, ⟨nd, rfl⟩⟩; refine ⟨_, rfl, ?_⟩) | ((with_reducible refine gate_callee (f := 75) rfl ?_); refine goesL_ (some 17) rfl rfl Tryd.func75 (by kernel_rfl) rfl #[.int .i64 a0, .int .u64 a1, .int .u64 (IntKind.u64.wrap (Int.tdiv a2 2))] rfl (by (try simp only [List.map_toArray, List.map_cons, List.map_nil]); first | done | rfl | (simp only [List.length_drop, List.length_take]; rfl) | (go_simp; done) | (go_simp; rw [Int.tmod_eq_emod_of_nonneg (by omega)]; omega)) ?_; (with_reducible refine (ih k (by omega) a0 a1 (IntKind.u64.wrap (Int.tdiv a2 2)) t239 _ A7.out).mono ?_); rintro e w' ⟨rfl, ⟨nd, rfl⟩⟩; refine ⟨_, rfl, ?_⟩) | ((with_reducible refine gate_callee (f := 78) rfl ?_); refine goesL_ (some 21) rfl rfl Tryd.func78 (by kernel_rfl) rfl #[.int .i64 a0, .int .u64 t239, .int .u64 t239] rfl (by (try simp only [List.map_toArray, List.map_cons, List.map_nil]); first | done | rfl | (simp only [List.length_drop, List.length_take]; rfl) | (go_simp; done) | (go_simp; rw [Int.tmod_eq_emod_of_nonneg (by omega)]; omega)) ?_; (with_reducible refine (attestorref01_Mul.calls a0 t239 t239 t240 _ A8.out).mono ?_); rintro e w' ⟨rfl, ⟨nd, rfl⟩⟩; refine ⟨_, rfl, ?_⟩) | ((with_reducible refine gate_callee (f := 78) rfl ?_); refine goesL_ (some 28) rfl rfl Tryd.func78 (by kernel_rfl) rfl #[.int .i64 a0, .int .u64 t240, .int .u64 a1] rfl (by (try simp only [List.map_toArray, List.map_cons, List.map_nil]); first | done | rfl | (simp only [List.length_drop, List.length_take]; rfl) | (go_simp; done) | (go_simp; rw [Int.tmod_eq_emod_of_nonneg (by omega)]; omega)) ?_; (with_reducible refine (attestorref01_Mul.calls a0 t240 a1 t241 _ A10.out).mono ?_); rintro e w' ⟨rfl, ⟨nd, rfl⟩⟩; refine ⟨_, rfl, ?_⟩))
        go_ret
        exact ⟨by first | rfl | (simp; done) | (simp [*]; done), by repeat (first | exact Drawn0.refl _ | apply Drawn0.step)⟩
      · rw [if_neg c9] at H
        have c9b0 : ((Int.tmod a2 2) == 1) = false := beq_eq_false_iff_ne.mpr c9
        have c9b1 : ((Int.tmod a2 2) != 1) = true := bne_iff_ne.mpr c9
        obtain rfl := Option.some.inj H
        go_enter Tryd.func75, Tryd.ntmps75
        go_wp2_with (first | ((with_reducible refine gate_callee (f := 42) rfl ?_); refine goesL_ (some 9) rfl rfl Tryd.func42 (by kernel_rfl) rfl #[.int .i64 a0] rfl (by (try simp only [List.map_toArray, List.map_cons, List.map_nil]); first | done | rfl | (simp only [List.length_drop, List.length_take]; rfl) | (go_simp; done) | (go_simp; rw [Int.tmod_eq_emod_of_nonneg (by omega)]; omega)) ?_; (with_reducible refine (attestorref01_Valid.calls a0 true _ A4.out).mono ?_); rintro e w' ⟨rfl, ⟨nd, rfl⟩⟩; refine ⟨_, rfl, ?_⟩) | ((with_reducible refine gate_callee (f := 75) rfl ?_); refine goesL_ (some 17) rfl rfl Tryd.func75 (by kernel_rfl) rfl #[.int .i64 a0, .int .u64 a1, .int .u64 (IntKind.u64.wrap (Int.tdiv a2 2))] rfl (by (try simp only [List.map_toArray, List.map_cons, List.map_nil]); first | done | rfl | (simp only [List.length_drop, List.length_take]; rfl) | (go_simp; done) | (go_simp; rw [Int.tmod_eq_emod_of_nonneg (by omega)]; omega)) ?_; (with_reducible refine (ih k (by omega) a0 a1 (IntKind.u64.wrap (Int.tdiv a2 2)) t239 _ A7.out).mono ?_); rintro e w' ⟨rfl, ⟨nd, rfl⟩⟩; refine ⟨_, rfl, ?_⟩) | ((with_reducible refine gate_callee (f := 78) rfl ?_); refine goesL_ (some 21) rfl rfl Tryd.func78 (by kernel_rfl) rfl #[.int .i64 a0, .int .u64 t239, .int .u64 t239] rfl (by (try simp only [List.map_toArray, List.map_cons, List.map_nil]); first | done | rfl | (simp only [List.length_drop, List.length_take]; rfl) | (go_simp; done) | (go_simp; rw [Int.tmod_eq_emod_of_nonneg (by omega)]; omega)) ?_; (with_reducible refine (attestorref01_Mul.calls a0 t239 t239 t240 _ A8.out).mono ?_); rintro e w' ⟨rfl, ⟨nd, rfl⟩⟩; refine ⟨_, rfl, ?_⟩))
        go_ret
        exact ⟨by first | rfl | (simp; done) | (simp [*]; done), by repeat (first | exact Drawn0.refl _ | apply Drawn0.step)⟩
  · replace c5 := Bool.eq_false_iff.mpr c5
    subst c5
    have H1 : (some 0) = some r := by rw [if_neg (show ¬ (false = true) by decide)] at H; exact H
    clear H
    have H := H1
    clear H1
    obtain rfl := Option.some.inj H
    go_enter Tryd.func75, Tryd.ntmps75
    go_wp2_with (first | ((with_reducible refine gate_callee (f := 42) rfl ?_); refine goesL_ (some 9) rfl rfl Tryd.func42 (by kernel_rfl) rfl #[.int .i64 a0] rfl (by (try simp only [List.map_toArray, List.map_cons, List.map_nil]); first | done | rfl | (simp only [List.length_drop, List.length_take]; rfl) | (go_simp; done) | (go_simp; rw [Int.tmod_eq_emod_of_nonneg (by omega)]; omega)) ?_; (with_reducible refine (attestorref01_Valid.calls a0 false _ A4.out).mono ?_); rintro e w' ⟨rfl, ⟨nd, rfl⟩⟩; refine ⟨_, rfl, ?_⟩))
    go_ret
    exact ⟨by first | rfl | (simp; done) | (simp [*]; done), by repeat (first | exact Drawn0.refl _ | apply Drawn0.step)⟩

end Go.Proofs.YtpnpmeogffodgaaDoor.Q
end
section
namespace Go.Proofs.YtpnpmeogffodgaaDoor.Q
open Go.RowKit Go.Proofs.YtpnpmeogffodgaaDoorW.PrintWords Go.Proofs.YtpnpmeogffodgaaDoorW.PrintLast Go.Proofs.YtpnpmeogffodgaaDoorW.PrintMore
attribute [local go_sem] max2_int min2_int max_two min_two max_three min_three max_four min_four run_store_fnV run_store_fnc run_store_nfn   -- for this text's walks alone
set_option linter.unusedVariables false
set_option linter.unusedSimpArgs false

/-! ### attestorref01_Exponent: function 76 -/
def attestorref01_Exponent.j0 : Nat → Int → Bool → Option (Int)
  | 0, _, _ => none
  | k + 1, x3, x4 => if x4 = true then (some 5) else (if x3 = 1 then (some 3) else (if x3 = 3 then (some 3) else (some 0)))
def attestorref01_Exponent.f (k : Nat) (a0 : Int) : Option (Int) := if a0 = 0 then (attestorref01_Exponent.j0 k a0 (a0 == 0)) else (attestorref01_Exponent.j0 k a0 (a0 == 2))
theorem attestorref01_Exponent.mono_l : ∀ k, (∀ y0 y1, LeO (attestorref01_Exponent.j0 k y0 y1) (attestorref01_Exponent.j0 (k + 1) y0 y1))
  | 0 => fun _ _ r h => by simp [attestorref01_Exponent.j0] at h
  | k + 1 => by
    have ih0 := attestorref01_Exponent.mono_l k
    · intro y0 y1
      unfold attestorref01_Exponent.j0
      repeat' first
      | (with_reducible exact ih0 _ _)
      | (with_reducible exact LeO.refl _)
      | (with_reducible exact LeO.none _)
      | (with_reducible refine LeO.ite ?_ ?_)
      | (with_reducible refine LeO.bind ?_ (fun _ => ?_))
      | exact ih0 _ _
      | exact LeO.none _
      | refine LeO.ite ?_ ?_
      | refine LeO.bind ?_ (fun _ => ?_)
theorem attestorref01_Exponent.mono : ∀ a0 k, LeO (attestorref01_Exponent.f k a0) (attestorref01_Exponent.f (k + 1) a0) := by
  intro a0 k
  have ih0 := attestorref01_Exponent.mono_l k
  unfold attestorref01_Exponent.f
  repeat' first
      | (with_reducible exact ih0 _ _)
      | (with_reducible exact LeO.refl _)
      | (with_reducible exact LeO.none _)
      | (with_reducible refine LeO.ite ?_ ?_)
      | (with_reducible refine LeO.bind ?_ (fun _ => ?_))
      | exact ih0 _ _
      | exact LeO.none _
      | refine LeO.ite ?_ ?_
      | refine LeO.bind ?_ (fun _ => ?_)
set_option maxHeartbeats 8000000 in
set_option maxRecDepth 100000 in
theorem attestorref01_Exponent.calls (k : Nat) (a0 : Int) (r : Int) (w : World) (h : attestorref01_Exponent.f k a0 = some r) :
    Calls Tryd.prog 76 #[.int .i64 a0] w fun e w' => e = .returned (.int .i64 r) ∧ Drawn0 w w' := by
  have H : (if a0 = 0 then (attestorref01_Exponent.j0 k a0 (a0 == 0)) else (attestorref01_Exponent.j0 k a0 (a0 == 2))) = some r := h
  clear h
  have HC2 := Aside0.mk H
  clear H
  go_enter Tryd.func76, Tryd.ntmps76
  go_upto_if 4 with (fail)
  go_cut [4] (fun v4 wc => ∃ (kq : Nat) (x4_1 : Bool), v4 = .bool x4_1 ∧ Aside0 (attestorref01_Exponent.j0 kq a0 x4_1 = some r) ∧ Aside0 (kq ≤ k) ∧ Drawn0 w wc)
  case first =>
    have H := HC2.out
    clear HC2
    by_cases c3 : a0 = 0
    · rw [if_pos c3] at H
      have c3b0 : (a0 == 0) = true := beq_iff_eq.mpr c3
      have c3b1 : (a0 != 0) = false := bne_eq_false_iff_eq.mpr c3
      clear c3
      (first | rw [c3b0] | (simp only [i64_w, i32_w]; rw [c3b0]) | skip)
      have H' := Aside0.mk H
      clear H
      go_wp2
      go_meet
      case rel => exact ⟨_, ((a0 == 0)), (by first | rfl | (simp; done) | (simp [*]; done) | (simp; rfl) | (simp; decide +kernel)), H', ⟨by first | omega | exact Nat.le_refl _⟩, by repeat (first | exact Drawn0.refl _ | apply Drawn0.step)⟩
    · rw [if_neg c3] at H
      have c3b0 : (a0 == 0) = false := beq_eq_false_iff_ne.mpr c3
      have c3b1 : (a0 != 0) = true := bne_iff_ne.mpr c3
      (first | rw [c3b0] | (simp only [i64_w, i32_w]; rw [c3b0]) | skip)
      have H' := Aside0.mk H
      clear H
      go_wp2
      go_meet
      case rel => exact ⟨_, ((a0 == 2)), (by first | rfl | (simp; done) | (simp [*]; done) | (simp; rfl) | (simp; decide +kernel)), H', ⟨by first | omega | exact Nat.le_refl _⟩, by repeat (first | exact Drawn0.refl _ | apply Drawn0.step)⟩
  case rest =>
    clear HC2
    try clear p2
    try clear c3
    try clear c3b0
    try clear c3b1
    obtain ⟨kq, x4_1, rfl, HA, HJ1, ⟨mc1, rfl⟩⟩ := hcut
    cases kq with
    | zero => exact absurd HA.out (by simp [attestorref01_Exponent.j0])
    | succ kj1 =>
      have H := HA.out
      clear HA
      simp only [attestorref01_Exponent.j0] at H
      by_cases c4 : x4_1 = true
      · subst c4
        have H1 : (some 5) = some r := by rw [if_pos rfl] at H; exact H
        clear H
        have H := H1
        clear H1
        obtain rfl := Option.some.inj H
        go_wp2
        go_ret
        exact ⟨by first | rfl | (simp; done) | (simp [*]; done), by repeat (first | exact Drawn0.refl _ | apply Drawn0.step)⟩
      · replace c4 := Bool.eq_false_iff.mpr c4
        subst c4
        have H1 : (if a0 = 1 then (some 3) else (if a0 = 3 then (some 3) else (some 0))) = some r := by rw [if_neg (show ¬ (false = true) by decide)] at H; exact H
        clear H
        have H := H1
        clear H1
        by_cases c5 : a0 = 1
        · rw [if_pos c5] at H
          have c5b0 : (a0 == 1) = true := beq_iff_eq.mpr c5
          have c5b1 : (a0 != 1) = false := bne_eq_false_iff_eq.mpr c5
          clear c5
          obtain rfl := Option.some.inj H
          go_wp2
          go_ret
          exact ⟨by first | rfl | (simp; done) | (simp [*]; done), by repeat (first | exact Drawn0.refl _ | apply Drawn0.step)⟩
        · rw [if_neg c5] at H
          have c5b0 : (a0 == 1) = false := beq_eq_false_iff_ne.mpr c5
          have c5b1 : (a0 != 1) = true := bne_iff_ne.mpr c5
          by_cases c6 : a0 = 3
          · rw [if_pos c6] at H
            have c6b0 : (a0 == 3) = true := beq_iff_eq.mpr c6
            have c6b1 : (a0 != 3) = false := bne_eq_false_iff_eq.mpr c6
            clear c6
            obtain rfl := Option.some.inj H
            go_wp2
            go_ret
            exact ⟨by first | rfl | (simp; done) | (simp [*]; done), by repeat (first | exact Drawn0.refl _ | apply Drawn0.step)⟩
          · rw [if_neg c6] at H
            have c6b0 : (a0 == 3) = false := beq_eq_false_iff_ne.mpr c6
            have c6b1 : (a0 != 3) = true := bne_iff_ne.mpr c6
            obtain rfl := Option.some.inj H
            go_wp2
            go_ret
            exact ⟨by first | rfl | (simp; done) | (simp [*]; done), by repeat (first | exact Drawn0.refl _ | apply Drawn0.step)⟩

end Go.Proofs.YtpnpmeogffodgaaDoor.Q
end
section
namespace Go.Proofs.YtpnpmeogffodgaaDoor.Q
open Go.RowKit Go.Proofs.YtpnpmeogffodgaaDoorW.PrintWords Go.Proofs.YtpnpmeogffodgaaDoorW.PrintLast Go.Proofs.YtpnpmeogffodgaaDoorW.PrintMore
attribute [local go_sem] max2_int min2_int max_two min_two max_three min_three max_four min_four run_store_fnV run_store_fnc run_store_nfn   -- for this text's walks alone
set_option linter.unusedVariables false
set_option linter.unusedSimpArgs false

/-! ### attestorref01_Generator: function 79 -/
def attestorref01_Generator.j0 : Nat → Int → Bool → Option (Int)
  | 0, _, _ => none
  | k + 1, x3, x6 => if x6 = true then (some 3) else (if x3 = 2 then (some 11) else (some 0))
def attestorref01_Generator.f (k : Nat) (a0 : Int) : Option (Int) := if a0 = 0 then (some 5) else (if a0 = 1 then (attestorref01_Generator.j0 k a0 (a0 == 1)) else (attestorref01_Generator.j0 k a0 (a0 == 3)))
theorem attestorref01_Generator.mono_l : ∀ k, (∀ y0 y1, LeO (attestorref01_Generator.j0 k y0 y1) (attestorref01_Generator.j0 (k + 1) y0 y1))
  | 0 => fun _ _ r h => by simp [attestorref01_Generator.j0] at h
  | k + 1 => by
    have ih0 := attestorref01_Generator.mono_l k
    · intro y0 y1
      unfold attestorref01_Generator.j0
      repeat' first
      | (with_reducible exact ih0 _ _)
      | (with_reducible exact LeO.refl _)
      | (with_reducible exact LeO.none _)
      | (with_reducible refine LeO.ite ?_ ?_)
      | (with_reducible refine LeO.bind ?_ (fun _ => ?_))
      | exact ih0 _ _
      | exact LeO.none _
      | refine LeO.ite ?_ ?_
      | refine LeO.bind ?_ (fun _ => ?_)
theorem attestorref01_Generator.mono : ∀ a0 k, LeO (attestorref01_Generator.f k a0) (attestorref01_Generator.f (k + 1) a0) := by
  intro a0 k
  have ih0 := attestorref01_Generator.mono_l k
  unfold attestorref01_Generator.f
  repeat' first
      | (with_reducible exact ih0 _ _)
      | (with_reducible exact LeO.refl _)
      | (with_reducible exact LeO.none _)
      | (with_reducible refine LeO.ite ?_ ?_)
      | (with_reducible refine LeO.bind ?_ (fun _ => ?_))
      | exact ih0 _ _
      | exact LeO.none _
      | refine LeO.ite ?_ ?_
      | refine LeO.bind ?_ (fun _ => ?_)
set_option maxHeartbeats 8000000 in
set_option maxRecDepth 100000 in
theorem attestorref01_Generator.calls (k : Nat) (a0 : Int) (r : Int) (w : World) (h : attestorref01_Generator.f k a0 = some r) :
    Calls Tryd.prog 79 #[.int .i64 a0] w fun e w' => e = .returned (.int .u64 r) ∧ Drawn0 w w' := by
  have H : (if a0 = 0 then (some 5) else (if a0 = 1 then (attestorref01_Generator.j0 k a0 (a0 == 1)) else (attestorref01_Generator.j0 k a0 (a0 == 3)))) = some r := h
  clear h
  by_cases c2 : a0 = 0
  · rw [if_pos c2] at H
    have c2b0 : (a0 == 0) = true := beq_iff_eq.mpr c2
    have c2b1 : (a0 != 0) = false := bne_eq_false_iff_eq.mpr c2
    clear c2
    obtain rfl := Option.some.inj H
    go_enter Tryd.func79, Tryd.ntmps79
    go_wp2
    go_ret
    exact ⟨by first | rfl | (simp; done) | (simp [*]; done), by repeat (first | exact Drawn0.refl _ | apply Drawn0.step)⟩
  · rw [if_neg c2] at H
    have c2b0 : (a0 == 0) = false := beq_eq_false_iff_ne.mpr c2
    have c2b1 : (a0 != 0) = true := bne_iff_ne.mpr c2
    have HC3 := Aside0.mk H
    clear H
    go_enter Tryd.func79, Tryd.ntmps79
    go_upto_if 6 with (fail)
    go_cut [6] (fun v6 wc => ∃ (kq : Nat) (x6_2 : Bool), v6 = .bool x6_2 ∧ Aside0 (attestorref01_Generator.j0 kq a0 x6_2 = some r) ∧ Aside0 (kq ≤ k) ∧ Drawn0 w wc)
    case first =>
      have H := HC3.out
      clear HC3
      by_cases c4 : a0 = 1
      · rw [if_pos c4] at H
        have c4b0 : (a0 == 1) = true := beq_iff_eq.mpr c4
        have c4b1 : (a0 != 1) = false := bne_eq_false_iff_eq.mpr c4
        clear c4
        (first | rw [c4b0] | (simp only [i64_w, i32_w]; rw [c4b0]) | skip)
        have H' := Aside0.mk H
        clear H
        go_wp2
        go_meet
        case rel => exact ⟨_, ((a0 == 1)), (by first | rfl | (simp; done) | (simp [*]; done) | (simp; rfl) | (simp; decide +kernel)), H', ⟨by first | omega | exact Nat.le_refl _⟩, by repeat (first | exact Drawn0.refl _ | apply Drawn0.step)⟩
      · rw [if_neg c4] at H
        have c4b0 : (a0 == 1) = false := beq_eq_false_iff_ne.mpr c4
        have c4b1 : (a0 != 1) = true := bne_iff_ne.mpr c4
        (first | rw [c4b0] | (simp only [i64_w, i32_w]; rw [c4b0]) | skip)
        have H' := Aside0.mk H
        clear H
        go_wp2
        go_meet
        case rel => exact ⟨_, ((a0 == 3)), (by first | rfl | (simp; done) | (simp [*]; done) | (simp; rfl) | (simp; decide +kernel)), H', ⟨by first | omega | exact Nat.le_refl _⟩, by repeat (first | exact Drawn0.refl _ | apply Drawn0.step)⟩
    case rest =>
      clear HC3
      try clear c2
      try clear c2b0
      try clear c2b1
      try clear p2
      try clear c4
      try clear c4b0
      try clear c4b1
      obtain ⟨kq, x6_2, rfl, HA, HJ2, ⟨mc2, rfl⟩⟩ := hcut
      cases kq with
      | zero => exact absurd HA.out (by simp [attestorref01_Generator.j0])
      | succ kj2 =>
        have H := HA.out
        clear HA
        simp only [attestorref01_Generator.j0] at H
        by_cases c5 : x6_2 = true
        · subst c5
          have H1 : (some 3) = some r := by rw [if_pos rfl] at H; exact H
          clear H
          have H := H1
          clear H1
          obtain rfl := Option.some.inj H
          go_wp2
          go_ret
          exact ⟨by first | rfl | (simp; done) | (simp [*]; done), by repeat (first | exact Drawn0.refl _ | apply Drawn0.step)⟩
        · replace c5 := Bool.eq_false_iff.mpr c5
          subst c5
          have H1 : (if a0 = 2 then (some 11) else (some 0)) = some r := by rw [if_neg (show ¬ (false = true) by decide)] at H; exact H
          clear H
          have H := H1
          clear H1
          by_cases c6 : a0 = 2
          · rw [if_pos c6] at H
            have c6b0 : (a0 == 2) = true := beq_iff_eq.mpr c6
            have c6b1 : (a0 != 2) = false := bne_eq_false_iff_eq.mpr c6
            clear c6
            obtain rfl := Option.some.inj H
            go_wp2
            go_ret
            exact ⟨by first | rfl | (simp; done) | (simp [*]; done), by repeat (first | exact Drawn0.refl _ | apply Drawn0.step)⟩
          · rw [if_neg c6] at H
            have c6b0 : (a0 == 2) = false := beq_eq_false_iff_ne.mpr c6
            have c6b1 : (a0 != 2) = true := bne_iff_ne.mpr c6
            obtain rfl := Option.some.inj H
            go_wp2
            go_ret
            exact ⟨by first | rfl | (simp; done) | (simp [*]; done), by repeat (first | exact Drawn0.refl _ | apply Drawn0.step)⟩

end Go.Proofs.YtpnpmeogffodgaaDoor.Q
end
section
namespace Go.Proofs.YtpnpmeogffodgaaDoor.Num
def Pr (p : Nat) : Prop := 2 ≤ p ∧ ∀ d, d ∣ p → d = 1 ∨ d = p
theorem pr_of_trial (p b : Nat) (h2 : 2 ≤ p) (hb : p < b * b) (h : (List.range b).all (fun m => decide (m < 2) || p % m != 0) = true) : Pr p := by
  have key : ∀ m, 2 ≤ m → m < b → p % m ≠ 0 := by
    intro m hm hmb
    have := List.all_eq_true.1 h m (List.mem_range.2 hmb)
    simp at this
    omega
  refine ⟨h2, fun d ⟨e, he⟩ => ?_⟩
  have hd0 : d ≠ 0 := by rintro rfl; omega
  have he0 : e ≠ 0 := by rintro rfl; omega
  by_cases hd1 : d = 1
  · exact Or.inl hd1
  by_cases he1 : e = 1
  · right; rw [he, he1, Nat.mul_one]
  · exfalso
    by_cases hdb : d < b
    · exact key d (by omega) hdb (by rw [he]; exact Nat.mul_mod_right d e)
    · by_cases heb : e < b
      · exact key e (by omega) heb (by rw [he]; exact Nat.mul_mod_left d e)
      · have : b * b ≤ d * e := Nat.mul_le_mul (by omega) (by omega)
        omega
theorem pr97 : Pr 97 := pr_of_trial 97 10 (by decide) (by decide) (by decide +kernel)
theorem pr257 : Pr 257 := pr_of_trial 257 17 (by decide) (by decide) (by decide +kernel)
theorem pr12289 : Pr 12289 := pr_of_trial 12289 111 (by decide) (by decide) (by decide +kernel)
theorem pr998244353 : Pr 998244353 := pr_of_trial 998244353 31596 (by decide) (by decide) (by decide +kernel)
end Go.Proofs.YtpnpmeogffodgaaDoor.Num
namespace Go.Proofs.YtpnpmeogffodgaaDoor.Q
open Go.RowKit Go.Proofs.YtpnpmeogffodgaaDoorW.PrintWords Go.Proofs.YtpnpmeogffodgaaDoorW.PrintLast Go.Proofs.YtpnpmeogffodgaaDoorW.PrintMore
open Go.Proofs.YtpnpmeogffodgaaDoor.Num
set_option linter.unusedVariables false
set_option linter.unusedSimpArgs false
theorem wrapU {n : Nat} (h : n < 18446744073709551616) : IntKind.u64.wrap (n : Int) = n := by
  simp [IntKind.wrap, IntKind.bits, IntKind.signed]
  try omega
theorem wrapS {x : Int} (h0 : -9223372036854775808 ≤ x) (h1 : x ≤ 9223372036854775807) : wrap64 x = x := by unfold wrap64; omega
theorem tmodN (a p : Nat) : Int.tmod (a : Int) (p : Int) = ((a % p : Nat) : Int) := rfl
structure Fld (f : Int) (p : Nat) : Prop where
  lo : 0 ≤ f
  hi : f < 4
  eq : fp f = (p : Int)
  pr : Pr p
  big : p < 1073741824
theorem Fld.ne {f : Int} {p : Nat} (F : Fld f p) : ¬ (p : Int) = 0 := by have := F.pr.1; omega
theorem Fld.two {f : Int} {p : Nat} (F : Fld f p) : 2 ≤ p := F.pr.1
theorem Fld.md {f : Int} {p : Nat} (F : Fld f p) (a : Nat) : a % p < p := Nat.mod_lt _ (by have := F.two; omega)
theorem valid_yes {f : Int} {p : Nat} (F : Fld f p) : field_Valid.f f = some true := by
  unfold field_Valid.f
  rw [if_pos F.lo, decide_eq_true F.hi]
theorem rvalid_yes {f : Int} {p : Nat} (F : Fld f p) : attestorref01_Valid.f f = some true := by
  unfold attestorref01_Valid.f
  rw [if_pos F.lo, decide_eq_true (by have := F.hi; omega)]
theorem valid_no {f : Int} (h : ¬ (0 ≤ f ∧ f < 4)) : field_Valid.f f = some false := by
  unfold field_Valid.f
  by_cases h0 : f ≥ 0
  · rw [if_pos h0, decide_eq_false (by omega)]
  · rw [if_neg h0]
theorem rvalid_no {f : Int} (h : ¬ (0 ≤ f ∧ f < 4)) : attestorref01_Valid.f f = some false := by
  unfold attestorref01_Valid.f
  by_cases h0 : f ≥ 0
  · rw [if_pos h0, decide_eq_false (by omega)]
  · rw [if_neg h0]
theorem rp_eq (f : Int) : attestorref01_P.f f = some (fp f) := by
  unfold attestorref01_P.f fp
  repeat' split
  all_goals rfl
theorem mul_lt {p : Nat} (h : p < 1073741824) (a b : Nat) (ha : a < p) (hb : b < p) : a * b < 18446744073709551616 := by
  have : a * b ≤ 1073741824 * 1073741824 := Nat.mul_le_mul (by omega) (by omega)
  omega
theorem rmul_f {f : Int} {p : Nat} (F : Fld f p) (a b : Nat) : attestorref01_Mul.f f a b = some ((a * b % p : Nat) : Int) := by
  unfold attestorref01_Mul.f
  rw [rvalid_yes F, Option.bind_some, if_pos rfl, rp_eq, F.eq, Option.bind_some, if_neg F.ne, tmodN, tmodN, ← Int.natCast_mul, wrapU (mul_lt F.big _ _ (F.md a) (F.md b)), tmodN, ← Nat.mul_mod]
theorem radd_f {f : Int} {p : Nat} (F : Fld f p) (a b : Nat) : attestorref01_Add.f f a b = some (((a + b) % p : Nat) : Int) := by
  have h1 := F.md a
  have h2 := F.md b
  have h3 := F.big
  unfold attestorref01_Add.f
  rw [rvalid_yes F, Option.bind_some, if_pos rfl, rp_eq, F.eq, Option.bind_some, if_neg F.ne, tmodN, tmodN, ← Int.natCast_add, wrapU (by omega), tmodN, ← Nat.add_mod]
theorem rpow_f {f : Int} {p : Nat} (F : Fld f p) : ∀ (d k a n : Nat), n < 2 ^ d → n < 18446744073709551616 → d < k → attestorref01_Pow.f k f a n = some ((a ^ n % p : Nat) : Int)
  | 0, k + 1, a, n, hn, _, _ => by
    obtain rfl : n = 0 := by omega
    have hp := F.two
    unfold attestorref01_Pow.f
    rw [rvalid_yes F, Option.bind_some, if_pos rfl, if_pos (show ((0 : Nat) : Int) = 0 from rfl), Nat.pow_zero, Nat.mod_eq_of_lt (by omega)]; rfl
  | d + 1, k + 1, a, n, hn, hb, hk => by
    have hp := F.two
    unfold attestorref01_Pow.f
    by_cases h0 : n = 0
    · subst h0
      rw [rvalid_yes F, Option.bind_some, if_pos rfl, if_pos (show ((0 : Nat) : Int) = 0 from rfl), Nat.pow_zero, Nat.mod_eq_of_lt (by omega)]; rfl
    · have hh : n / 2 < 2 ^ d := by rw [Nat.pow_succ] at hn; omega
      have e2 : Int.tdiv (n : Int) 2 = ((n / 2 : Nat) : Int) := rfl
      have e3 : Int.tmod (n : Int) 2 = ((n % 2 : Nat) : Int) := rfl
      have e4 : (a ^ (n / 2) % p) * (a ^ (n / 2) % p) % p = a ^ (2 * (n / 2)) % p := by rw [← Nat.mul_mod, ← Nat.pow_add, Nat.two_mul]
      rw [rvalid_yes F, Option.bind_some, if_pos rfl, if_neg (by omega), e2, wrapU (by omega), rpow_f F d k a (n / 2) hh (by omega) (by omega), Option.bind_some, rmul_f F, Option.bind_some, e3, e4]
      by_cases h1 : n % 2 = 1
      · rw [if_pos (by omega), rmul_f F, Option.bind_some, Nat.mul_mod, Nat.mod_mod, ← Nat.mul_mod, ← Nat.pow_succ, show (2 * (n / 2)).succ = n by omega]
      · rw [if_neg (by omega), show 2 * (n / 2) = n by omega]
theorem rgen_eq (k : Nat) (f : Int) : attestorref01_Generator.f (k + 1) f = some (fg f) := by
  unfold attestorref01_Generator.f attestorref01_Generator.j0 fg
  by_cases h0 : f = 0 <;> by_cases h1 : f = 1 <;> by_cases h2 : f = 2 <;> by_cases h3 : f = 3 <;> simp_all
theorem rexp_eq (k : Nat) (f : Int) : attestorref01_Exponent.f (k + 1) f = some (fe f) := by
  unfold attestorref01_Exponent.f attestorref01_Exponent.j0 fe
  by_cases h0 : f = 0 <;> by_cases h1 : f = 1 <;> by_cases h2 : f = 2 <;> by_cases h3 : f = 3 <;> simp_all
end Go.Proofs.YtpnpmeogffodgaaDoor.Q
end
section
namespace Go.Proofs.YtpnpmeogffodgaaDoor.Q
open Go.RowKit Go.Proofs.YtpnpmeogffodgaaDoorW.PrintWords Go.Proofs.YtpnpmeogffodgaaDoorW.PrintLast Go.Proofs.YtpnpmeogffodgaaDoorW.PrintMore
open Go.Proofs.YtpnpmeogffodgaaDoor.Num
set_option linter.unusedVariables false
set_option linter.unusedSimpArgs false
structure S4 where
  a : Nat
  b : Nat
  c : Nat
  d : Nat
def S4.o (s : S4) : Int × Int × Int × Int := ((s.a : Int), (s.b : Int), (s.c : Int), (s.d : Int))
def S4.lt (s : S4) (p : Nat) : Prop := s.a < p ∧ s.b < p ∧ s.c < p ∧ s.d < p
def cst (p g n : Nat) : Nat := (g ^ n % p + 7) % p
def mixd (p a b c d : Nat) : S4 := ⟨(2 * a + 3 * b + c + d) % p, (a + 2 * b + 3 * c + d) % p, (a + b + 2 * c + 3 * d) % p, (3 * a + b + c + 2 * d) % p⟩
def rn (p g e n : Nat) (s : S4) : S4 := mixd p ((s.a + cst p g (n + 1)) ^ e % p) ((s.b + cst p g (n + 2)) ^ e % p) ((s.c + cst p g (n + 3)) ^ e % p) ((s.d + cst p g (n + 4)) ^ e % p)
def red (p : Nat) (s : S4) : S4 := ⟨s.a % p, s.b % p, s.c % p, s.d % p⟩
def prm (p g e : Nat) : Nat → S4 → S4
  | 0, s => s
  | n + 1, s => rn p g e (4 * n) (prm p g e n s)
theorem prm_succ (p g e n : Nat) (s : S4) : prm p g e (n + 1) s = rn p g e (4 * n) (prm p g e n s) := rfl
theorem bnd {α β : Type} {o : Option α} {v : α} {F : α → Option β} {r : Option β} (h : o = some v) (g : F v = r) : o.bind F = r := by subst h; exact g
structure Fd (f : Int) (p g e : Nat) : Prop where
  F : Fld f p
  gen : fg f = (g : Int)
  exp : fe f = (e : Int)
  e53 : e = 5 ∨ e = 3
  glt : g < p
  p96 : 96 < p
theorem fd_of {f : Int} (h0 : 0 ≤ f) (h1 : f < 4) : ∃ p g e, Fd f p g e := by
  rcases (show f = 0 ∨ f = 1 ∨ f = 2 ∨ f = 3 by omega) with rfl | rfl | rfl | rfl
  · exact ⟨97, 5, 5, ⟨by decide, by decide, rfl, pr97, by decide⟩, rfl, rfl, Or.inl rfl, by decide, by decide⟩
  · exact ⟨257, 3, 3, ⟨by decide, by decide, rfl, pr257, by decide⟩, rfl, rfl, Or.inr rfl, by decide, by decide⟩
  · exact ⟨12289, 11, 5, ⟨by decide, by decide, rfl, pr12289, by decide⟩, rfl, rfl, Or.inl rfl, by decide, by decide⟩
  · exact ⟨998244353, 3, 3, ⟨by decide, by decide, rfl, pr998244353, by decide⟩, rfl, rfl, Or.inr rfl, by decide, by decide⟩
theorem rn_lt {p : Nat} (hp : 0 < p) (g e n : Nat) (s : S4) : (rn p g e n s).lt p := ⟨Nat.mod_lt _ hp, Nat.mod_lt _ hp, Nat.mod_lt _ hp, Nat.mod_lt _ hp⟩
theorem red_lt {p : Nat} (hp : 0 < p) (s : S4) : (red p s).lt p := ⟨Nat.mod_lt _ hp, Nat.mod_lt _ hp, Nat.mod_lt _ hp, Nat.mod_lt _ hp⟩
theorem prm_lt {p : Nat} (hp : 0 < p) (g e : Nat) (s : S4) (hs : s.lt p) : ∀ n, (prm p g e n s).lt p
  | 0 => hs
  | n + 1 => rn_lt hp _ _ _ _
theorem red_id {p : Nat} {s : S4} (h : s.lt p) : red p s = s := by
  obtain ⟨a, b, c, d⟩ := s
  obtain ⟨h1, h2, h3, h4⟩ := h
  simp only [red, Nat.mod_eq_of_lt h1, Nat.mod_eq_of_lt h2, Nat.mod_eq_of_lt h3, Nat.mod_eq_of_lt h4]
theorem Fd.pos {f : Int} {p g e : Nat} (D : Fd f p g e) : 0 < p := by have := D.p96; omega
theorem pw5 (p x : Nat) : x * x % p * (x * x % p) % p * x % p = x ^ 5 % p := by
  rw [← Nat.mul_mod, Nat.mul_mod (x * x * (x * x) % p), Nat.mod_mod, ← Nat.mul_mod]
  congr 1
  simp only [Nat.pow_succ, Nat.pow_zero, Nat.one_mul, Nat.mul_assoc]
theorem pw3 (p x : Nat) : x * x % p * x % p = x ^ 3 % p := by
  rw [Nat.mul_mod (x * x % p), Nat.mod_mod, ← Nat.mul_mod]
  congr 1
  simp only [Nat.pow_succ, Nat.pow_zero, Nat.one_mul, Nat.mul_assoc]
theorem castM (a b : Nat) : (a : Int) * (b : Int) = ((a * b : Nat) : Int) := (Int.natCast_mul a b).symm
theorem castA (a b : Nat) : (a : Int) + (b : Int) = ((a + b : Nat) : Int) := (Int.natCast_add a b).symm
theorem power_f {f : Int} {p g e : Nat} (D : Fd f p g e) (x : Nat) (hx : x < p) : sponge_mixer_power.f p g ((e : Int) == 5) x = some ((x ^ e % p : Nat) : Int) := by
  unfold sponge_mixer_power.f
  have hb := D.F.big
  have h1 := mul_lt hb x x hx hx
  have m1 := D.F.md (x * x)
  have h3 := mul_lt hb _ x m1 hx
  rw [if_neg D.F.ne]
  rcases D.e53 with rfl | rfl
  · have h2 := mul_lt hb _ _ m1 m1
    have h4 := mul_lt hb _ x (D.F.md (x * x % p * (x * x % p))) hx
    rw [if_pos (by decide), castM, wrapU h1, tmodN, castM, wrapU h2, tmodN, castM, wrapU h4, tmodN, pw5]
  · rw [if_neg (by decide), castM, wrapU h1, tmodN, castM, wrapU h3, tmodN, pw3]
theorem kstep {f : Int} {p g e : Nat} (D : Fd f p g e) (n : Nat) : Int.tmod (IntKind.u64.wrap (((g ^ n % p : Nat) : Int) * (g : Int))) (p : Int) = ((g ^ (n + 1) % p : Nat) : Int) := by
  rw [castM, wrapU (mul_lt D.F.big _ _ (D.F.md _) D.glt), tmodN, Nat.pow_succ, Nat.mul_mod (g ^ n % p), Nat.mod_mod, ← Nat.mul_mod]
theorem astep {f : Int} {p g e : Nat} (D : Fd f p g e) (n s : Nat) (hs : s < p) : Int.tmod (IntKind.u64.wrap (IntKind.u64.wrap ((s : Int) + ((g ^ n % p : Nat) : Int)) + 7)) (p : Int) = (((s + cst p g n) % p : Nat) : Int) := by
  have h1 := D.F.md (g ^ n)
  have hb := D.F.big
  rw [castA, wrapU (by omega), show (7 : Int) = ((7 : Nat) : Int) from rfl, castA, wrapU (by omega), tmodN, cst, Nat.add_mod_mod, Nat.add_assoc]
theorem mstep {f : Int} {p g e : Nat} (D : Fd f p g e) (a b c d x y : Nat) (ha : a < p) (hb : b < p) (hc : c < p) (hd : d < p) (hx : x < p) (hy : y < p) :
    Int.tmod (IntKind.u64.wrap (IntKind.u64.wrap (IntKind.u64.wrap (IntKind.u64.wrap (IntKind.u64.wrap ((a : Int) + (b : Int)) + (c : Int)) + (d : Int)) + (x : Int)) + IntKind.u64.wrap (2 * (y : Int)))) (p : Int) = (((a + b + c + d + x + 2 * y) % p : Nat) : Int) := by
  have := D.F.big
  rw [castA, wrapU (by omega), castA, wrapU (by omega), castA, wrapU (by omega), castA, wrapU (by omega), show (2 : Int) = ((2 : Nat) : Int) from rfl, castM, wrapU (by omega), castA, wrapU (by omega), tmodN]
theorem v01 : wrap64 (0 + 1) = 1 := by decide +kernel
theorem v12 : wrap64 (1 + 1) = 2 := by decide +kernel
theorem v23 : wrap64 (2 + 1) = 3 := by decide +kernel
theorem v34 : wrap64 (3 + 1) = 4 := by decide +kernel
theorem mr_0 (k : Nat) (K p g : Int) (b : Bool) (s0 s1 s2 s3 : Int) (hp : ¬ p = 0) : sponge_mixer_round.l0 (k + 1) K 0 p g b s0 s1 s2 s3 = (sponge_mixer_power.f p g b (Int.tmod (IntKind.u64.wrap (IntKind.u64.wrap (s0 + Int.tmod (IntKind.u64.wrap (K * g)) p) + 7)) p)).bind fun v => sponge_mixer_round.l0 k (Int.tmod (IntKind.u64.wrap (K * g)) p) 1 p g b v s1 s2 s3 := by
  rw [sponge_mixer_round.l0, if_pos (by decide), if_neg hp, if_pos (by decide), v01]
  rfl
theorem md_0 (k : Nat) (p g : Int) (b : Bool) (s0 s1 s2 s3 : Int) (hp : ¬ p = 0) : sponge_mixer_reduced.l0 (k + 1) 0 p g b s0 s1 s2 s3 = sponge_mixer_reduced.l0 k 1 p g b (Int.tmod s0 p) s1 s2 s3 := by
  rw [sponge_mixer_reduced.l0, if_pos (by decide), if_pos (by decide), if_neg hp, v01]
  rfl
theorem mr_1 (k : Nat) (K p g : Int) (b : Bool) (s0 s1 s2 s3 : Int) (hp : ¬ p = 0) : sponge_mixer_round.l0 (k + 1) K 1 p g b s0 s1 s2 s3 = (sponge_mixer_power.f p g b (Int.tmod (IntKind.u64.wrap (IntKind.u64.wrap (s1 + Int.tmod (IntKind.u64.wrap (K * g)) p) + 7)) p)).bind fun v => sponge_mixer_round.l0 k (Int.tmod (IntKind.u64.wrap (K * g)) p) 2 p g b s0 v s2 s3 := by
  rw [sponge_mixer_round.l0, if_pos (by decide), if_neg hp, if_pos (by decide), v12]
  rfl
theorem md_1 (k : Nat) (p g : Int) (b : Bool) (s0 s1 s2 s3 : Int) (hp : ¬ p = 0) : sponge_mixer_reduced.l0 (k + 1) 1 p g b s0 s1 s2 s3 = sponge_mixer_reduced.l0 k 2 p g b s0 (Int.tmod s1 p) s2 s3 := by
  rw [sponge_mixer_reduced.l0, if_pos (by decide), if_pos (by decide), if_neg hp, v12]
  rfl
theorem mr_2 (k : Nat) (K p g : Int) (b : Bool) (s0 s1 s2 s3 : Int) (hp : ¬ p = 0) : sponge_mixer_round.l0 (k + 1) K 2 p g b s0 s1 s2 s3 = (sponge_mixer_power.f p g b (Int.tmod (IntKind.u64.wrap (IntKind.u64.wrap (s2 + Int.tmod (IntKind.u64.wrap (K * g)) p) + 7)) p)).bind fun v => sponge_mixer_round.l0 k (Int.tmod (IntKind.u64.wrap (K * g)) p) 3 p g b s0 s1 v s3 := by
  rw [sponge_mixer_round.l0, if_pos (by decide), if_neg hp, if_pos (by decide), v23]
  rfl
theorem md_2 (k : Nat) (p g : Int) (b : Bool) (s0 s1 s2 s3 : Int) (hp : ¬ p = 0) : sponge_mixer_reduced.l0 (k + 1) 2 p g b s0 s1 s2 s3 = sponge_mixer_reduced.l0 k 3 p g b s0 s1 (Int.tmod s2 p) s3 := by
  rw [sponge_mixer_reduced.l0, if_pos (by decide), if_pos (by decide), if_neg hp, v23]
  rfl
theorem mr_3 (k : Nat) (K p g : Int) (b : Bool) (s0 s1 s2 s3 : Int) (hp : ¬ p = 0) : sponge_mixer_round.l0 (k + 1) K 3 p g b s0 s1 s2 s3 = (sponge_mixer_power.f p g b (Int.tmod (IntKind.u64.wrap (IntKind.u64.wrap (s3 + Int.tmod (IntKind.u64.wrap (K * g)) p) + 7)) p)).bind fun v => sponge_mixer_round.l0 k (Int.tmod (IntKind.u64.wrap (K * g)) p) 4 p g b s0 s1 s2 v := by
  rw [sponge_mixer_round.l0, if_pos (by decide), if_neg hp, if_pos (by decide), v34]
  rfl
theorem md_3 (k : Nat) (p g : Int) (b : Bool) (s0 s1 s2 s3 : Int) (hp : ¬ p = 0) : sponge_mixer_reduced.l0 (k + 1) 3 p g b s0 s1 s2 s3 = sponge_mixer_reduced.l0 k 4 p g b s0 s1 s2 (Int.tmod s3 p) := by
  rw [sponge_mixer_reduced.l0, if_pos (by decide), if_pos (by decide), if_neg hp, v34]
  rfl
theorem round_f {f : Int} {p g e : Nat} (D : Fd f p g e) (k n : Nat) (hk : 4 < k) (s : S4) (hs : s.lt p) :
    sponge_mixer_round.f k p g ((e : Int) == 5) ((g ^ n % p : Nat) : Int) s.a s.b s.c s.d = some (((g ^ (n + 1 + 1 + 1 + 1) % p : Nat) : Int), (rn p g e n s).o) := by
  obtain ⟨h1, h2, h3, h4⟩ := hs
  obtain ⟨k, rfl⟩ : ∃ j, k = j + 1 + 1 + 1 + 1 + 1 := ⟨k - 5, by omega⟩
  unfold sponge_mixer_round.f
  rw [mr_0 _ _ _ _ _ _ _ _ _ D.F.ne, kstep D n, astep D _ _ h1]
  refine bnd (power_f D _ (D.F.md _)) ?_
  rw [mr_1 _ _ _ _ _ _ _ _ _ D.F.ne, kstep D (n + 1), astep D _ _ h2]
  refine bnd (power_f D _ (D.F.md _)) ?_
  rw [mr_2 _ _ _ _ _ _ _ _ _ D.F.ne, kstep D (n + 1 + 1), astep D _ _ h3]
  refine bnd (power_f D _ (D.F.md _)) ?_
  rw [mr_3 _ _ _ _ _ _ _ _ _ D.F.ne, kstep D (n + 1 + 1 + 1), astep D _ _ h4]
  refine bnd (power_f D _ (D.F.md _)) ?_
  rw [sponge_mixer_round.l0, if_neg (by decide), if_neg D.F.ne]
  rw [mstep D _ _ _ _ _ _ (D.F.md _) (D.F.md _) (D.F.md _) (D.F.md _) (D.F.md _) (D.F.md _), mstep D _ _ _ _ _ _ (D.F.md _) (D.F.md _) (D.F.md _) (D.F.md _) (D.F.md _) (D.F.md _), mstep D _ _ _ _ _ _ (D.F.md _) (D.F.md _) (D.F.md _) (D.F.md _) (D.F.md _) (D.F.md _), mstep D _ _ _ _ _ _ (D.F.md _) (D.F.md _) (D.F.md _) (D.F.md _) (D.F.md _) (D.F.md _)]
  simp only [← Nat.pow_mod, S4.o, rn, mixd]
  generalize (s.a + cst p g (n + 1)) ^ e % p = w
  generalize (s.b + cst p g (n + 2)) ^ e % p = x
  generalize (s.c + cst p g (n + 3)) ^ e % p = y
  generalize (s.d + cst p g (n + 4)) ^ e % p = z
  rw [show w + x + y + z + w + 2 * x = 2 * w + 3 * x + y + z by omega, show w + x + y + z + x + 2 * y = w + 2 * x + 3 * y + z by omega, show w + x + y + z + y + 2 * z = w + x + 2 * y + 3 * z by omega, show w + x + y + z + z + 2 * w = 3 * w + x + y + 2 * z by omega]
theorem perm_l0 {f : Int} {p g e : Nat} (D : Fd f p g e) (s : S4) (hs : s.lt p) : ∀ (m n k : Nat), n + m = 8 → 4 + m < k →
    sponge_mixer_perm.l0 k ((g ^ (4 * n) % p : Nat) : Int) n p g ((e : Int) == 5) (prm p g e n s).a (prm p g e n s).b (prm p g e n s).c (prm p g e n s).d = some (prm p g e 8 s).o := by
  intro m
  induction m with
  | zero =>
    intro n k hn hk
    obtain rfl : n = 8 := by omega
    obtain ⟨k, rfl⟩ : ∃ j, k = j + 1 := ⟨k - 1, by omega⟩
    rw [sponge_mixer_perm.l0, if_neg (by omega)]
    rfl
  | succ m ih =>
    intro n k hn hk
    obtain ⟨k, rfl⟩ : ∃ j, k = j + 1 := ⟨k - 1, by omega⟩
    rw [sponge_mixer_perm.l0, if_pos (by omega)]
    refine bnd (round_f D k (4 * n) (by omega) (prm p g e n s) (prm_lt D.pos g e s hs n)) ?_
    simp only [S4.o]
    rw [wrapS (x := (n : Int) + 1) (by omega) (by omega), show ((n : Int) + 1) = ((n + 1 : Nat) : Int) from rfl]
    exact ih (n + 1) k (by omega) (by omega)
theorem perm_f {f : Int} {p g e : Nat} (D : Fd f p g e) (k : Nat) (hk : 12 < k) (s : S4) (hs : s.lt p) : sponge_mixer_perm.f k p g ((e : Int) == 5) s.a s.b s.c s.d = some (prm p g e 8 s).o := by
  have one : (1 : Int) = ((g ^ (4 * 0) % p : Nat) : Int) := by rw [Nat.mul_zero, Nat.pow_zero, Nat.mod_eq_of_lt (by have := D.p96; omega)]; rfl
  unfold sponge_mixer_perm.f
  rw [one]
  exact perm_l0 D s hs 8 0 k rfl (by omega)
theorem in_f {f : Int} {p g e : Nat} (D : Fd f p g e) : sponge_in.f f = some ((p : Int), (g : Int), ((e : Int) == 5)) := by
  unfold sponge_in.f field_P.f field_Generator.f field_Exponent.f
  simp only [Option.bind_some, D.F.eq, D.gen, D.exp]
theorem red_f {f : Int} {p g e : Nat} (D : Fd f p g e) (k : Nat) (hk : 4 < k) (g' : Int) (b : Bool) (s : S4) : sponge_mixer_reduced.f k p g' b s.a s.b s.c s.d = some (red p s).o := by
  obtain ⟨k, rfl⟩ : ∃ j, k = j + 1 + 1 + 1 + 1 + 1 := ⟨k - 5, by omega⟩
  unfold sponge_mixer_reduced.f
  rw [md_0 _ _ _ _ _ _ _ _ D.F.ne, md_1 _ _ _ _ _ _ _ _ D.F.ne, md_2 _ _ _ _ _ _ _ _ D.F.ne, md_3 _ _ _ _ _ _ _ _ D.F.ne, sponge_mixer_reduced.l0, if_neg (by decide), tmodN, tmodN, tmodN, tmodN]
  rfl
theorem expo (r pl : Nat) (hr : r < 8) (hp : pl < 4) : IntKind.u64.wrap (wrap64 ((wrap64 ((wrap64 (4 * (r : Int))) + (pl : Int))) + 1)) = ((4 * r + (pl + 1) : Nat) : Int) := by
  rw [wrapS (x := 4 * (r : Int)) (by omega) (by omega), wrapS (x := 4 * (r : Int) + (pl : Int)) (by omega) (by omega), wrapS (x := 4 * (r : Int) + (pl : Int) + 1) (by omega) (by omega), show (4 * (r : Int) + (pl : Int) + 1) = ((4 * r + (pl + 1) : Nat) : Int) by omega, wrapU (by omega)]
end Go.Proofs.YtpnpmeogffodgaaDoor.Q
end
section
namespace Go.Proofs.YtpnpmeogffodgaaDoor.Q
open Go.RowKit Go.Proofs.YtpnpmeogffodgaaDoorW.PrintWords Go.Proofs.YtpnpmeogffodgaaDoorW.PrintLast Go.Proofs.YtpnpmeogffodgaaDoorW.PrintMore
open Go.Proofs.YtpnpmeogffodgaaDoor.Num
set_option linter.unusedVariables false
set_option linter.unusedSimpArgs false
end Go.Proofs.YtpnpmeogffodgaaDoor.Q
end
section
namespace Go.Proofs.YtpnpmeogffodgaaDoor.Q
open Go.RowKit Go.Proofs.YtpnpmeogffodgaaDoorW.PrintWords Go.Proofs.YtpnpmeogffodgaaDoorW.PrintLast Go.Proofs.YtpnpmeogffodgaaDoorW.PrintMore
open Go.Proofs.YtpnpmeogffodgaaDoor.Num
set_option linter.unusedVariables false
set_option linter.unusedSimpArgs false
theorem addp {f : Int} {p g e : Nat} (D : Fd f p g e) (t a : Nat) (ht : t < p) : Int.tmod (IntKind.u64.wrap ((t : Int) + ((a % p : Nat) : Int))) (p : Int) = (((t + a) % p : Nat) : Int) := by
  have h1 := D.F.md a
  have hb := D.F.big
  rw [castA, wrapU (by omega), tmodN, Nat.add_mod_mod]
theorem Node_f {f : Int} {p g e : Nat} (D : Fd f p g e) (k : Nat) (hk : 12 < k) (s : S4) : sponge_Node.f k f s.a s.b s.c s.d = some (((((prm p g e 8 (red p s)).a + s.a) % p : Nat) : Int), ((((prm p g e 8 (red p s)).b + s.b) % p : Nat) : Int)) := by
  have hl := prm_lt D.pos g e _ (red_lt D.pos s) 8
  unfold sponge_Node.f
  refine bnd (valid_yes D.F) ?_
  rw [if_pos rfl]
  refine bnd (in_f D) (bnd (red_f D k (by omega) _ _ s) (bnd (perm_f D k hk _ (red_lt D.pos s)) ?_))
  rw [if_neg D.F.ne]
  simp only [S4.o]
  rw [show (red p s).a = s.a % p from rfl, show (red p s).b = s.b % p from rfl, addp D _ _ hl.1, addp D _ _ hl.2.1]
end Go.Proofs.YtpnpmeogffodgaaDoor.Q
end
section
namespace Go.Proofs.YtpnpmeogffodgaaDoor.Q
open Go.RowKit Go.Proofs.YtpnpmeogffodgaaDoorW.PrintWords Go.Proofs.YtpnpmeogffodgaaDoorW.PrintLast Go.Proofs.YtpnpmeogffodgaaDoorW.PrintMore
attribute [local go_sem] max2_int min2_int max_two min_two max_three min_three max_four min_four run_store_fnV run_store_fnc run_store_nfn   -- for this text's walks alone
set_option linter.unusedVariables false
set_option linter.unusedSimpArgs false

/-! ### attestorref06_Constant: function 74 -/
def attestorref06_Constant.j0 : Nat → Int → Int → Int → Bool → Option (Int)
  | 0, _, _, _, _ => none
  | k + 1, x0, x1, x2, al => if al = true then (some 0) else ((attestorref01_Generator.f k x0).bind fun ac => ((attestorref01_Pow.f k x0 ac (IntKind.u64.wrap (wrap64 ((wrap64 ((wrap64 (4 * x1)) + x2)) + 1)))).bind fun aa => ((attestorref01_Add.f x0 aa 7).bind fun ab => (some ab))))
def attestorref06_Constant.f (k : Nat) (a0 : Int) (a1 : Int) (a2 : Int) : Option (Int) := (attestorref01_Valid.f a0).bind fun ad => (if ad = true then (if a1 < 0 then (attestorref06_Constant.j0 k a0 a1 a2 true) else (if a1 > 7 then (attestorref06_Constant.j0 k a0 a1 a2 true) else (if a2 < 0 then (attestorref06_Constant.j0 k a0 a1 a2 true) else (attestorref06_Constant.j0 k a0 a1 a2 (decide (a2 > 3)))))) else (attestorref06_Constant.j0 k a0 a1 a2 true))
theorem attestorref06_Constant.mono_l : ∀ k, (∀ y0 y1 y2 y3, LeO (attestorref06_Constant.j0 k y0 y1 y2 y3) (attestorref06_Constant.j0 (k + 1) y0 y1 y2 y3))
  | 0 => fun _ _ _ _ r h => by simp [attestorref06_Constant.j0] at h
  | k + 1 => by
    have ih0 := attestorref06_Constant.mono_l k
    · intro y0 y1 y2 y3
      unfold attestorref06_Constant.j0
      repeat' first
      | (with_reducible exact ih0 _ _ _ _)
      | (with_reducible exact attestorref01_Generator.mono _ _)
      | (with_reducible exact attestorref01_Pow.mono _ _ _ _)
      | (with_reducible exact LeO.refl _)
      | (with_reducible exact LeO.none _)
      | (with_reducible refine LeO.ite ?_ ?_)
      | (with_reducible refine LeO.bind ?_ (fun _ => ?_))
      | exact ih0 _ _ _ _
      | exact attestorref01_Generator.mono _ _
      | exact attestorref01_Pow.mono _ _ _ _
      | exact LeO.none _
      | refine LeO.ite ?_ ?_
      | refine LeO.bind ?_ (fun _ => ?_)
theorem attestorref06_Constant.mono : ∀ a0 a1 a2 k, LeO (attestorref06_Constant.f k a0 a1 a2) (attestorref06_Constant.f (k + 1) a0 a1 a2) := by
  intro a0 a1 a2 k
  have ih0 := attestorref06_Constant.mono_l k
  unfold attestorref06_Constant.f
  repeat' first
      | (with_reducible exact ih0 _ _ _ _)
      | (with_reducible exact attestorref01_Generator.mono _ _)
      | (with_reducible exact attestorref01_Pow.mono _ _ _ _)
      | (with_reducible exact LeO.refl _)
      | (with_reducible exact LeO.none _)
      | (with_reducible refine LeO.ite ?_ ?_)
      | (with_reducible refine LeO.bind ?_ (fun _ => ?_))
      | exact ih0 _ _ _ _
      | exact attestorref01_Generator.mono _ _
      | exact attestorref01_Pow.mono _ _ _ _
      | exact LeO.none _
      | refine LeO.ite ?_ ?_
      | refine LeO.bind ?_ (fun _ => ?_)
set_option maxHeartbeats 8000000 in
set_option maxRecDepth 100000 in
theorem attestorref06_Constant.calls (k : Nat) (a0 : Int) (a1 : Int) (a2 : Int) (r : Int) (w : World) (h : attestorref06_Constant.f k a0 a1 a2 = some r) :
  Calls Tryd.prog 74 #[.int .i64 a0, .int .i64 a1, .int .i64 a2] w fun e w' => e = .returned (.int .u64 r) ∧ Drawn0 w w' := by
 have H : ((attestorref01_Valid.f a0).bind fun ad => (if ad = true then (if a1 < 0 then (attestorref06_Constant.j0 k a0 a1 a2 true) else (if a1 > 7 then (attestorref06_Constant.j0 k a0 a1 a2 true) else (if a2 < 0 then (attestorref06_Constant.j0 k a0 a1 a2 true) else (attestorref06_Constant.j0 k a0 a1 a2 (decide (a2 > 3)))))) else (attestorref06_Constant.j0 k a0 a1 a2 true))) = some r := h
 clear h
 have af := aj H
 clear H
 go_enter Tryd.func74, Tryd.ntmps74
 go_upto_region 1 with (fail)
 go_cut [25] (fun am wc => ∃ (kq : Nat) (ae : Bool), am = .bool ae ∧ Aside0 (attestorref06_Constant.j0 kq a0 a1 a2 ae = some r) ∧ Aside0 (kq ≤ k) ∧ Drawn0 w wc)
 case first =>
  have H := af.out
  clear af
  replace H := Option.bind_eq_some_iff.mp H
  obtain ⟨ad, ak, H⟩ := H
  replace H : (if ad = true then (if a1 < 0 then (attestorref06_Constant.j0 k a0 a1 a2 true) else (if a1 > 7 then (attestorref06_Constant.j0 k a0 a1 a2 true) else (if a2 < 0 then (attestorref06_Constant.j0 k a0 a1 a2 true) else (attestorref06_Constant.j0 k a0 a1 a2 (decide (a2 > 3)))))) else (attestorref06_Constant.j0 k a0 a1 a2 true)) = some r := H
  have A5 := aj ak
  clear ak
  by_cases c6 : ad = true
  ·subst c6
   have H1 : (if a1 < 0 then (attestorref06_Constant.j0 k a0 a1 a2 true) else (if a1 > 7 then (attestorref06_Constant.j0 k a0 a1 a2 true) else (if a2 < 0 then (attestorref06_Constant.j0 k a0 a1 a2 true) else (attestorref06_Constant.j0 k a0 a1 a2 (decide (a2 > 3)))))) = some r := by rw [if_pos rfl] at H; exact H
   clear H
   have H := H1
   clear H1
   by_cases c7 : a1 < 0
   ·rw [if_pos c7] at H
    have c7b0 : decide (a1 < 0) = true := decide_eq_true c7
    clear c7
    (first | rw [c7b0] | (simp only [i64_w, i32_w]; rw [c7b0]) | skip)
    have H' := aj H
    clear H
    go_wp2_with (first | ((with_reducible refine gate_callee (f := 42) rfl ?_); refine goesL_ (some 8) rfl rfl Tryd.func42 (by kernel_rfl) rfl #[.int .i64 a0] rfl (by (try simp only [List.map_toArray, List.map_cons, List.map_nil]); first | done | rfl | (simp only [List.length_drop, List.length_take]; rfl) | (go_simp; done) | (go_simp; rw [Int.tmod_eq_emod_of_nonneg (by omega)]; omega)) ?_; (with_reducible refine (attestorref01_Valid.calls a0 true _ A5.out).mono ?_); rintro e w' ⟨rfl, ⟨nd, rfl⟩⟩; refine ⟨_, rfl, ?_⟩))
    go_meet
    case rel => exact ⟨_, (true), (by first | rfl | simp), H', ⟨by first | omega | exact Nat.le_refl _⟩, by repeat (first | exact Drawn0.refl _ | apply Drawn0.step)⟩
   ·rw [if_neg c7] at H
    have c7b0 : decide (a1 < 0) = false := decide_eq_false c7
    clear c7
    (first | rw [c7b0] | (simp only [i64_w, i32_w]; rw [c7b0]) | skip)
    by_cases c8 : a1 > 7
    ·rw [if_pos c8] at H
     have c8b0 : decide (7 < a1) = true := decide_eq_true c8
     clear c8
     have H' := aj H
     clear H
     go_wp2_with (first | ((with_reducible refine gate_callee (f := 42) rfl ?_); refine goesL_ (some 8) rfl rfl Tryd.func42 (by kernel_rfl) rfl #[.int .i64 a0] rfl (by (try simp only [List.map_toArray, List.map_cons, List.map_nil]); first | done | rfl | (simp only [List.length_drop, List.length_take]; rfl) | (go_simp; done) | (go_simp; rw [Int.tmod_eq_emod_of_nonneg (by omega)]; omega)) ?_; (with_reducible refine (attestorref01_Valid.calls a0 true _ A5.out).mono ?_); rintro e w' ⟨rfl, ⟨nd, rfl⟩⟩; refine ⟨_, rfl, ?_⟩))
     go_meet
     case rel => exact ⟨_, (true), (by first | rfl | simp), H', ⟨by first | omega | exact Nat.le_refl _⟩, by repeat (first | exact Drawn0.refl _ | apply Drawn0.step)⟩
    ·rw [if_neg c8] at H
     have c8b0 : decide (7 < a1) = false := decide_eq_false c8
     clear c8
     by_cases c9 : a2 < 0
     ·rw [if_pos c9] at H
      have c9b0 : decide (a2 < 0) = true := decide_eq_true c9
      clear c9
      have H' := aj H
      clear H
      go_wp2_with (first | ((with_reducible refine gate_callee (f := 42) rfl ?_); refine goesL_ (some 8) rfl rfl Tryd.func42 (by kernel_rfl) rfl #[.int .i64 a0] rfl (by (try simp only [List.map_toArray, List.map_cons, List.map_nil]); first | done | rfl | (simp only [List.length_drop, List.length_take]; rfl) | (go_simp; done) | (go_simp; rw [Int.tmod_eq_emod_of_nonneg (by omega)]; omega)) ?_; (with_reducible refine (attestorref01_Valid.calls a0 true _ A5.out).mono ?_); rintro e w' ⟨rfl, ⟨nd, rfl⟩⟩; refine ⟨_, rfl, ?_⟩))
      go_meet
      case rel => exact ⟨_, (true), (by first | rfl | simp), H', ⟨by first | omega | exact Nat.le_refl _⟩, by repeat (first | exact Drawn0.refl _ | apply Drawn0.step)⟩
     ·rw [if_neg c9] at H
      have c9b0 : decide (a2 < 0) = false := decide_eq_false c9
      clear c9
      have H' := aj H
      clear H
      go_wp2_with (first | ((with_reducible refine gate_callee (f := 42) rfl ?_); refine goesL_ (some 8) rfl rfl Tryd.func42 (by kernel_rfl) rfl #[.int .i64 a0] rfl (by (try simp only [List.map_toArray, List.map_cons, List.map_nil]); first | done | rfl | (simp only [List.length_drop, List.length_take]; rfl) | (go_simp; done) | (go_simp; rw [Int.tmod_eq_emod_of_nonneg (by omega)]; omega)) ?_; (with_reducible refine (attestorref01_Valid.calls a0 true _ A5.out).mono ?_); rintro e w' ⟨rfl, ⟨nd, rfl⟩⟩; refine ⟨_, rfl, ?_⟩))
      go_meet
      case rel => exact ⟨_, (decide (a2 > 3)), (by first | rfl | simp), H', ⟨by first | omega | exact Nat.le_refl _⟩, by repeat (first | exact Drawn0.refl _ | apply Drawn0.step)⟩
  ·replace c6 := Bool.eq_false_iff.mpr c6
   subst c6
   have H1 : (attestorref06_Constant.j0 k a0 a1 a2 true) = some r := by rw [if_neg (show ¬ (false = true) by decide)] at H; exact H
   clear H
   have H := H1
   clear H1
   have H' := aj H
   clear H
   go_wp2_with (first | ((with_reducible refine gate_callee (f := 42) rfl ?_); refine goesL_ (some 8) rfl rfl Tryd.func42 (by kernel_rfl) rfl #[.int .i64 a0] rfl (by (try simp only [List.map_toArray, List.map_cons, List.map_nil]); first | done | rfl | (simp only [List.length_drop, List.length_take]; rfl) | (go_simp; done) | (go_simp; rw [Int.tmod_eq_emod_of_nonneg (by omega)]; omega)) ?_; (with_reducible refine (attestorref01_Valid.calls a0 false _ A5.out).mono ?_); rintro e w' ⟨rfl, ⟨nd, rfl⟩⟩; refine ⟨_, rfl, ?_⟩))
   go_meet
   case rel => exact ⟨_, (true), (by first | rfl | simp), H', ⟨by first | omega | exact Nat.le_refl _⟩, by repeat (first | exact Drawn0.refl _ | apply Drawn0.step)⟩
 case rest =>
  clear af
  obtain ⟨kq, ae, rfl, HA, ar, ⟨mc3, rfl⟩⟩ := hcut
  cases kq with
  | zero => exact absurd HA.out (by simp [attestorref06_Constant.j0])
  | succ kj3 =>
   have H := HA.out
   clear HA
   simp only [attestorref06_Constant.j0] at H
   by_cases c10 : ae = true
   ·subst c10
    have H1 : (some 0) = some r := by rw [if_pos rfl] at H; exact H
    clear H
    have H := H1
    clear H1
    obtain rfl := Option.some.inj H
    go_wp2
    go_ret
    exact ⟨by first | rfl | (simp; done) | (simp [*]; done), by repeat (first | exact Drawn0.refl _ | apply Drawn0.step)⟩
   ·replace c10 := Bool.eq_false_iff.mpr c10
    subst c10
    have H1 : ((attestorref01_Generator.f kj3 a0).bind fun ac => ((attestorref01_Pow.f kj3 a0 ac (IntKind.u64.wrap (wrap64 ((wrap64 ((wrap64 (4 * a1)) + a2)) + 1)))).bind fun aa => ((attestorref01_Add.f a0 aa 7).bind fun ab => (some ab)))) = some r := by rw [if_neg (show ¬ (false = true) by decide)] at H; exact H
    clear H
    have H := H1
    clear H1
    replace H := Option.bind_eq_some_iff.mp H
    obtain ⟨ac, ag, H⟩ := H
    replace H : ((attestorref01_Pow.f kj3 a0 ac (IntKind.u64.wrap (wrap64 ((wrap64 ((wrap64 (4 * a1)) + a2)) + 1)))).bind fun aa => ((attestorref01_Add.f a0 aa 7).bind fun ab => (some ab))) = some r := H
    have ao := aj ag
    clear ag
    replace H := Option.bind_eq_some_iff.mp H
    obtain ⟨aa, ah, H⟩ := H
    replace H : ((attestorref01_Add.f a0 aa 7).bind fun ab => (some ab)) = some r := H
    have ap := aj ah
    clear ah
    replace H := Option.bind_eq_some_iff.mp H
    obtain ⟨ab, ai, H⟩ := H
    replace H : (some ab) = some r := H
    have aq := aj ai
    clear ai
    obtain rfl := Option.some.inj H
    go_wp2_with (first | ((with_reducible refine gate_callee (f := 79) rfl ?_); refine goesL_ (some 29) rfl rfl Tryd.func79 (by kernel_rfl) rfl #[.int .i64 a0] rfl (by (try simp only [List.map_toArray, List.map_cons, List.map_nil]); first | done | rfl | (simp only [List.length_drop, List.length_take]; rfl) | (go_simp; done) | (go_simp; rw [Int.tmod_eq_emod_of_nonneg (by omega)]; omega)) ?_; (with_reducible refine (attestorref01_Generator.calls kj3 a0 ac _ ao.out).mono ?_); rintro e w' ⟨rfl, ⟨nd, rfl⟩⟩; refine ⟨_, rfl, ?_⟩) | ((with_reducible refine gate_callee (f := 75) rfl ?_); refine goesL_ (some 36) rfl rfl Tryd.func75 (by kernel_rfl) rfl #[.int .i64 a0, .int .u64 ac, .int .u64 (IntKind.u64.wrap (wrap64 ((wrap64 ((wrap64 (4 * a1)) + a2)) + 1)))] rfl (by (try simp only [List.map_toArray, List.map_cons, List.map_nil]); first | done | rfl | (simp only [List.length_drop, List.length_take]; rfl) | (go_simp; done) | (go_simp; rw [Int.tmod_eq_emod_of_nonneg (by omega)]; omega)) ?_; (with_reducible refine (attestorref01_Pow.calls kj3 a0 ac (IntKind.u64.wrap (wrap64 ((wrap64 ((wrap64 (4 * a1)) + a2)) + 1))) aa _ ap.out).mono ?_); rintro e w' ⟨rfl, ⟨nd, rfl⟩⟩; refine ⟨_, rfl, ?_⟩) | ((with_reducible refine gate_callee (f := 63) rfl ?_); refine goesL_ (some 37) rfl rfl Tryd.func63 (by kernel_rfl) rfl #[.int .i64 a0, .int .u64 aa, .int .u64 7] rfl (by (try simp only [List.map_toArray, List.map_cons, List.map_nil]); first | done | rfl | (simp only [List.length_drop, List.length_take]; rfl) | (go_simp; done) | (go_simp; rw [Int.tmod_eq_emod_of_nonneg (by omega)]; omega)) ?_; (with_reducible refine (attestorref01_Add.calls a0 aa 7 ab _ aq.out).mono ?_); rintro e w' ⟨rfl, ⟨nd, rfl⟩⟩; refine ⟨_, rfl, ?_⟩))
    go_ret
    exact ⟨by first | rfl | (simp; done) | (simp [*]; done), by repeat (first | exact Drawn0.refl _ | apply Drawn0.step)⟩

end Go.Proofs.YtpnpmeogffodgaaDoor.Q
end
section
namespace Go.Proofs.YtpnpmeogffodgaaDoor.Q
open Go.RowKit Go.Proofs.YtpnpmeogffodgaaDoorW.PrintWords Go.Proofs.YtpnpmeogffodgaaDoorW.PrintLast Go.Proofs.YtpnpmeogffodgaaDoorW.PrintMore
attribute [local go_sem] max2_int min2_int max_two min_two max_three min_three max_four min_four run_store_fnV run_store_fnc run_store_nfn   -- for this text's walks alone
set_option linter.unusedVariables false
set_option linter.unusedSimpArgs false

/-! ### attestorref06_row: function 77 -/
def attestorref06_row.f (a0 : Int) : Option (Int × Int × Int × Int) := if 0 ≤ a0 then (if a0 = 0 then (some (2, 3, 1, 1)) else (if a0 = 1 then (some (1, 2, 3, 1)) else (if a0 = 2 then (some (1, 1, 2, 3)) else (if a0 = 3 then (some (3, 1, 1, 2)) else (none))))) else (none)
set_option maxHeartbeats 8000000 in
set_option maxRecDepth 100000 in
theorem attestorref06_row.calls (a0 : Int) (r1 : Int) (r2 : Int) (r3 : Int) (r4 : Int) (w : World) (h : attestorref06_row.f a0 = some (r1, r2, r3, r4)) :
  Calls Tryd.prog 77 #[.int .i64 a0] w fun e w' => e = .returned (.agg #[.int .u64 r1, .int .u64 r2, .int .u64 r3, .int .u64 r4]) ∧ Below w.heap.size w w' := by
 have hu80 := Tryd.underlying80
 have hu104 := Tryd.underlying104
 have HB := aj (Below.refl w.heap.size w)
 have H : (if 0 ≤ a0 then (if a0 = 0 then (some (2, 3, 1, 1)) else (if a0 = 1 then (some (1, 2, 3, 1)) else (if a0 = 2 then (some (1, 1, 2, 3)) else (if a0 = 3 then (some (3, 1, 1, 2)) else (none))))) else (none)) = some (r1, r2, r3, r4) := h
 clear h
 by_cases c2 : 0 ≤ a0
 ·rw [if_pos c2] at H
  have c2b0 : decide (0 ≤ a0) = true := decide_eq_true c2
  clear c2
  by_cases c3 : a0 = 0
  ·rw [if_pos c3] at H
   subst c3
   simp only [Option.some.injEq, Prod.mk.injEq] at H
   obtain ⟨rfl, rfl, rfl, rfl⟩ := H
   go_enter Tryd.func77, Tryd.ntmps77
   go_wp2_with (first | ((with_reducible refine gate_dst (N := 2) rfl ?_); refine box_event ?hg (N := 2) ?hd (cs := #[.int .u64 0, .int .u64 0, .int .u64 0, .int .u64 0]) (t := 80) ?hr ?_; (case hd => rfl); (case hg => rfl); (case hr => first | (go_simp; done) | (go_simp; rfl)); intro ae hg w4 hbox hb; have ag := aj (below_step (by repeat (first | (with_reducible first | exact HB.out | apply below_alloc | apply pw_below_drewN | apply below_drew1) | exact HB.out)) hb); have ah := aj (hbox); have ap := aj ((by rw [hg]; exact (below_size (by repeat (first | (with_reducible first | exact HB.out | apply below_alloc | apply pw_below_drewN | apply below_drew1) | exact HB.out))) : w.heap.size ≤ ae)); clear HB; have HB := ag; have ad := ah; have af := ap; clear ag ah ap; clear hb hbox hg) | ((with_reducible refine gate_dst (N := 3) rfl ?_); refine box_event ?hg (N := 3) ?hd (cs := #[.int .u64 0, .int .u64 0, .int .u64 0, .int .u64 0, .int .u64 0, .int .u64 0, .int .u64 0, .int .u64 0, .int .u64 0, .int .u64 0, .int .u64 0, .int .u64 0, .int .u64 0, .int .u64 0, .int .u64 0, .int .u64 0]) (t := 104) ?hr ?_; (case hd => rfl); (case hg => rfl); (case hr => first | (go_simp; done) | (go_simp; rfl)); intro ac hg w5 hbox hb; have ag := aj (blk_below ad.out hb); have ah := aj (below_step (by repeat (first | (with_reducible first | exact HB.out | apply below_alloc | apply pw_below_drewN | apply below_drew1 | refine below_set ?_ af.out) | exact HB.out)) hb); have aq := aj (hbox); have ar := aj ((by rw [hg]; exact (below_size (by repeat (first | (with_reducible first | exact HB.out | apply below_alloc | apply pw_below_drewN | apply below_drew1 | refine below_set ?_ af.out) | exact HB.out))) : w.heap.size ≤ ac)); have au := aj ((by rw [hg]; exact Nat.ne_of_lt (blk_lt ad.out) : ae ≠ ac)); have av := aj ((by rw [hg]; exact Nat.ne_of_gt (blk_lt ad.out) : ac ≠ ae)); clear ad; clear HB; have ad := ag; have HB := ah; have ab := aq; have ao := ar; have aa := au; have ai := av; clear ag ah aq ar au av; clear hb hbox hg; have ds := ai.out; have dt := aa.out; have cL : w5.cell? ⟨ac, 0, none⟩ = some (.int .u64 0) := bq_ ab 0; have cM : w5.cell? ⟨ac, 1, none⟩ = some (.int .u64 0) := bq_ ab 1; have cN : w5.cell? ⟨ac, 2, none⟩ = some (.int .u64 0) := bq_ ab 2; have cO : w5.cell? ⟨ac, 3, none⟩ = some (.int .u64 0) := bq_ ab 3; have cP : w5.cell? ⟨ac, 4, none⟩ = some (.int .u64 0) := bq_ ab 4; have cQ : w5.cell? ⟨ac, 5, none⟩ = some (.int .u64 0) := bq_ ab 5; have cR : w5.cell? ⟨ac, 6, none⟩ = some (.int .u64 0) := bq_ ab 6; have cS : w5.cell? ⟨ac, 7, none⟩ = some (.int .u64 0) := bq_ ab 7; have cT : w5.cell? ⟨ac, 8, none⟩ = some (.int .u64 0) := bq_ ab 8; have cU : w5.cell? ⟨ac, 9, none⟩ = some (.int .u64 0) := bq_ ab 9; have a9 : w5.cell? ⟨ac, 10, none⟩ = some (.int .u64 0) := bq_ ab 10; have ba : w5.cell? ⟨ac, 11, none⟩ = some (.int .u64 0) := bq_ ab 11; have bb : w5.cell? ⟨ac, 12, none⟩ = some (.int .u64 0) := bq_ ab 12; have bc : w5.cell? ⟨ac, 13, none⟩ = some (.int .u64 0) := bq_ ab 13; have bd : w5.cell? ⟨ac, 14, none⟩ = some (.int .u64 0) := bq_ ab 14; have be : w5.cell? ⟨ac, 15, none⟩ = some (.int .u64 0) := bq_ ab 15; have cV := blk_frozen ab.out 0; have cW := blk_frozen ab.out 1; have cX := blk_frozen ab.out 2; have cY := blk_frozen ab.out 3; have cZ := blk_frozen ab.out 4; have c0 := blk_frozen ab.out 5; have c1 := blk_frozen ab.out 6; have da := blk_frozen ab.out 7; have db := blk_frozen ab.out 8; have dc := blk_frozen ab.out 9; have bf := blk_frozen ab.out 10; have bg := blk_frozen ab.out 11; have bh := blk_frozen ab.out 12; have bi := blk_frozen ab.out 13; have bj := blk_frozen ab.out 14; have bk := blk_frozen ab.out 15; have dd : w5.cell? ⟨ae, 0, none⟩ = some (.int .u64 0) := bq_ ad 0; have de : w5.cell? ⟨ae, 1, none⟩ = some (.int .u64 0) := bq_ ad 1; have df : w5.cell? ⟨ae, 2, none⟩ = some (.int .u64 0) := bq_ ad 2; have dg : w5.cell? ⟨ae, 3, none⟩ = some (.int .u64 0) := bq_ ad 3; have dh := blk_frozen ad.out 0; have di := blk_frozen ad.out 1; have dj := blk_frozen ad.out 2; have dk := blk_frozen ad.out 3))
   refine bodyPost_ret (results_cell_row rfl _ _ ae 80 #[.int .u64 2, .int .u64 3, .int .u64 1, .int .u64 1] (0, 0) _ rfl (by refine blk_put (cs := #[.int .u64 2, .int .u64 3, .int .u64 1, .int .u64 0]) ?_ 3 _ rfl; refine blk_put (cs := #[.int .u64 2, .int .u64 3, .int .u64 0, .int .u64 0]) ?_ 2 _ rfl; refine blk_put (cs := #[.int .u64 2, .int .u64 0, .int .u64 0, .int .u64 0]) ?_ 1 _ rfl; refine blk_put (cs := #[.int .u64 0, .int .u64 0, .int .u64 0, .int .u64 0]) ?_ 0 _ rfl; refine blk_far ?_ aa.out _; refine blk_far ?_ aa.out _; refine blk_far ?_ aa.out _; refine blk_far ?_ aa.out _; refine blk_far ?_ aa.out _; refine blk_far ?_ aa.out _; refine blk_far ?_ aa.out _; refine blk_far ?_ aa.out _; refine blk_far ?_ aa.out _; refine blk_far ?_ aa.out _; refine blk_far ?_ aa.out _; refine blk_far ?_ aa.out _; refine blk_far ?_ aa.out _; refine blk_far ?_ aa.out _; refine blk_far ?_ aa.out _; refine blk_far ?_ aa.out _; exact ad.out) Tryd.underlying80 rfl (by kernel_rfl)) rfl ?_
   exact ⟨by first | rfl | (simp [errW_none, errW_some] <;> rfl) | (simp [*, errW_none, errW_some] <;> rfl), by repeat (first | (with_reducible first | exact HB.out | apply below_alloc | apply pw_below_drewN | apply below_drew1 | refine below_set ?_ af.out | refine below_set ?_ ao.out) | exact HB.out)⟩
  ·rw [if_neg c3] at H
   by_cases c9 : a0 = 1
   ·rw [if_pos c9] at H
    subst c9
    simp only [Option.some.injEq, Prod.mk.injEq] at H
    obtain ⟨rfl, rfl, rfl, rfl⟩ := H
    go_enter Tryd.func77, Tryd.ntmps77
    go_wp2_with (first | ((with_reducible refine gate_dst (N := 2) rfl ?_); refine box_event ?hg (N := 2) ?hd (cs := #[.int .u64 0, .int .u64 0, .int .u64 0, .int .u64 0]) (t := 80) ?hr ?_; (case hd => rfl); (case hg => rfl); (case hr => first | (go_simp; done) | (go_simp; rfl)); intro ae hg du hbox hb; have ag := aj (below_step (by repeat (first | (with_reducible first | exact HB.out | apply below_alloc | apply pw_below_drewN | apply below_drew1) | exact HB.out)) hb); have ah := aj (hbox); have ap := aj ((by rw [hg]; exact (below_size (by repeat (first | (with_reducible first | exact HB.out | apply below_alloc | apply pw_below_drewN | apply below_drew1) | exact HB.out))) : w.heap.size ≤ ae)); clear HB; have HB := ag; have ad := ah; have af := ap; clear ag ah ap; clear hb hbox hg) | ((with_reducible refine gate_dst (N := 3) rfl ?_); refine box_event ?hg (N := 3) ?hd (cs := #[.int .u64 0, .int .u64 0, .int .u64 0, .int .u64 0, .int .u64 0, .int .u64 0, .int .u64 0, .int .u64 0, .int .u64 0, .int .u64 0, .int .u64 0, .int .u64 0, .int .u64 0, .int .u64 0, .int .u64 0, .int .u64 0]) (t := 104) ?hr ?_; (case hd => rfl); (case hg => rfl); (case hr => first | (go_simp; done) | (go_simp; rfl)); intro ac hg ak hbox hb; have ag := aj (blk_below ad.out hb); have ah := aj (below_step (by repeat (first | (with_reducible first | exact HB.out | apply below_alloc | apply pw_below_drewN | apply below_drew1 | refine below_set ?_ af.out) | exact HB.out)) hb); have aq := aj (hbox); have ar := aj ((by rw [hg]; exact (below_size (by repeat (first | (with_reducible first | exact HB.out | apply below_alloc | apply pw_below_drewN | apply below_drew1 | refine below_set ?_ af.out) | exact HB.out))) : w.heap.size ≤ ac)); have au := aj ((by rw [hg]; exact Nat.ne_of_lt (blk_lt ad.out) : ae ≠ ac)); have av := aj ((by rw [hg]; exact Nat.ne_of_gt (blk_lt ad.out) : ac ≠ ae)); clear ad; clear HB; have ad := ag; have HB := ah; have ab := aq; have ao := ar; have aa := au; have ai := av; clear ag ah aq ar au av; clear hb hbox hg; have dl := ai.out; have dm := aa.out; have bl : ak.cell? ⟨ac, 0, none⟩ = some (.int .u64 0) := bq_ ab 0; have bm : ak.cell? ⟨ac, 1, none⟩ = some (.int .u64 0) := bq_ ab 1; have bn : ak.cell? ⟨ac, 2, none⟩ = some (.int .u64 0) := bq_ ab 2; have bo : ak.cell? ⟨ac, 3, none⟩ = some (.int .u64 0) := bq_ ab 3; have bp : ak.cell? ⟨ac, 4, none⟩ = some (.int .u64 0) := bq_ ab 4; have bq : ak.cell? ⟨ac, 5, none⟩ = some (.int .u64 0) := bq_ ab 5; have br : ak.cell? ⟨ac, 6, none⟩ = some (.int .u64 0) := bq_ ab 6; have bs : ak.cell? ⟨ac, 7, none⟩ = some (.int .u64 0) := bq_ ab 7; have bu : ak.cell? ⟨ac, 8, none⟩ = some (.int .u64 0) := bq_ ab 8; have bv : ak.cell? ⟨ac, 9, none⟩ = some (.int .u64 0) := bq_ ab 9; have ay : ak.cell? ⟨ac, 10, none⟩ = some (.int .u64 0) := bq_ ab 10; have az : ak.cell? ⟨ac, 11, none⟩ = some (.int .u64 0) := bq_ ab 11; have aA : ak.cell? ⟨ac, 12, none⟩ = some (.int .u64 0) := bq_ ab 12; have aB : ak.cell? ⟨ac, 13, none⟩ = some (.int .u64 0) := bq_ ab 13; have aC : ak.cell? ⟨ac, 14, none⟩ = some (.int .u64 0) := bq_ ab 14; have aD : ak.cell? ⟨ac, 15, none⟩ = some (.int .u64 0) := bq_ ab 15; have bw := blk_frozen ab.out 0; have bx := blk_frozen ab.out 1; have bz := blk_frozen ab.out 2; have bA := blk_frozen ab.out 3; have bB := blk_frozen ab.out 4; have bC := blk_frozen ab.out 5; have bD := blk_frozen ab.out 6; have bE := blk_frozen ab.out 7; have bF := blk_frozen ab.out 8; have bG := blk_frozen ab.out 9; have aE := blk_frozen ab.out 10; have aF := blk_frozen ab.out 11; have aG := blk_frozen ab.out 12; have aH := blk_frozen ab.out 13; have aI := blk_frozen ab.out 14; have aJ := blk_frozen ab.out 15; have bH : ak.cell? ⟨ae, 0, none⟩ = some (.int .u64 0) := bq_ ad 0; have bI : ak.cell? ⟨ae, 1, none⟩ = some (.int .u64 0) := bq_ ad 1; have bJ : ak.cell? ⟨ae, 2, none⟩ = some (.int .u64 0) := bq_ ad 2; have bK : ak.cell? ⟨ae, 3, none⟩ = some (.int .u64 0) := bq_ ad 3; have bL := blk_frozen ad.out 0; have bM := blk_frozen ad.out 1; have bN := blk_frozen ad.out 2; have bO := blk_frozen ad.out 3))
    refine bodyPost_ret (results_cell_row rfl _ _ ae 80 #[.int .u64 1, .int .u64 2, .int .u64 3, .int .u64 1] (0, 0) _ rfl (by refine blk_put (cs := #[.int .u64 1, .int .u64 2, .int .u64 3, .int .u64 0]) ?_ 3 _ rfl; refine blk_put (cs := #[.int .u64 1, .int .u64 2, .int .u64 0, .int .u64 0]) ?_ 2 _ rfl; refine blk_put (cs := #[.int .u64 1, .int .u64 0, .int .u64 0, .int .u64 0]) ?_ 1 _ rfl; refine blk_put (cs := #[.int .u64 0, .int .u64 0, .int .u64 0, .int .u64 0]) ?_ 0 _ rfl; refine blk_far ?_ aa.out _; refine blk_far ?_ aa.out _; refine blk_far ?_ aa.out _; refine blk_far ?_ aa.out _; refine blk_far ?_ aa.out _; refine blk_far ?_ aa.out _; refine blk_far ?_ aa.out _; refine blk_far ?_ aa.out _; refine blk_far ?_ aa.out _; refine blk_far ?_ aa.out _; refine blk_far ?_ aa.out _; refine blk_far ?_ aa.out _; refine blk_far ?_ aa.out _; refine blk_far ?_ aa.out _; refine blk_far ?_ aa.out _; refine blk_far ?_ aa.out _; exact ad.out) Tryd.underlying80 rfl (by kernel_rfl)) rfl ?_
    exact ⟨by first | rfl | (simp [errW_none, errW_some] <;> rfl) | (simp [*, errW_none, errW_some] <;> rfl), by repeat (first | (with_reducible first | exact HB.out | apply below_alloc | apply pw_below_drewN | apply below_drew1 | refine below_set ?_ af.out | refine below_set ?_ ao.out) | exact HB.out)⟩
   ·rw [if_neg c9] at H
    by_cases aw : a0 = 2
    ·rw [if_pos aw] at H
     subst aw
     simp only [Option.some.injEq, Prod.mk.injEq] at H
     obtain ⟨rfl, rfl, rfl, rfl⟩ := H
     go_enter Tryd.func77, Tryd.ntmps77
     go_wp2_with (first | ((with_reducible refine gate_dst (N := 2) rfl ?_); refine box_event ?hg (N := 2) ?hd (cs := #[.int .u64 0, .int .u64 0, .int .u64 0, .int .u64 0]) (t := 80) ?hr ?_; (case hd => rfl); (case hg => rfl); (case hr => first | (go_simp; done) | (go_simp; rfl)); intro ae hg dv hbox hb; have ag := aj (below_step (by repeat (first | (with_reducible first | exact HB.out | apply below_alloc | apply pw_below_drewN | apply below_drew1) | exact HB.out)) hb); have ah := aj (hbox); have ap := aj ((by rw [hg]; exact (below_size (by repeat (first | (with_reducible first | exact HB.out | apply below_alloc | apply pw_below_drewN | apply below_drew1) | exact HB.out))) : w.heap.size ≤ ae)); clear HB; have HB := ag; have ad := ah; have af := ap; clear ag ah ap; clear hb hbox hg) | ((with_reducible refine gate_dst (N := 3) rfl ?_); refine box_event ?hg (N := 3) ?hd (cs := #[.int .u64 0, .int .u64 0, .int .u64 0, .int .u64 0, .int .u64 0, .int .u64 0, .int .u64 0, .int .u64 0, .int .u64 0, .int .u64 0, .int .u64 0, .int .u64 0, .int .u64 0, .int .u64 0, .int .u64 0, .int .u64 0]) (t := 104) ?hr ?_; (case hd => rfl); (case hg => rfl); (case hr => first | (go_simp; done) | (go_simp; rfl)); intro ac hg al hbox hb; have ag := aj (blk_below ad.out hb); have ah := aj (below_step (by repeat (first | (with_reducible first | exact HB.out | apply below_alloc | apply pw_below_drewN | apply below_drew1 | refine below_set ?_ af.out) | exact HB.out)) hb); have aq := aj (hbox); have ar := aj ((by rw [hg]; exact (below_size (by repeat (first | (with_reducible first | exact HB.out | apply below_alloc | apply pw_below_drewN | apply below_drew1 | refine below_set ?_ af.out) | exact HB.out))) : w.heap.size ≤ ac)); have au := aj ((by rw [hg]; exact Nat.ne_of_lt (blk_lt ad.out) : ae ≠ ac)); have av := aj ((by rw [hg]; exact Nat.ne_of_gt (blk_lt ad.out) : ac ≠ ae)); clear ad; clear HB; have ad := ag; have HB := ah; have ab := aq; have ao := ar; have aa := au; have ai := av; clear ag ah aq ar au av; clear hb hbox hg; have dn := ai.out; have dp := aa.out; have bP : al.cell? ⟨ac, 0, none⟩ = some (.int .u64 0) := bq_ ab 0; have bQ : al.cell? ⟨ac, 1, none⟩ = some (.int .u64 0) := bq_ ab 1; have bR : al.cell? ⟨ac, 2, none⟩ = some (.int .u64 0) := bq_ ab 2; have bS : al.cell? ⟨ac, 3, none⟩ = some (.int .u64 0) := bq_ ab 3; have bT : al.cell? ⟨ac, 4, none⟩ = some (.int .u64 0) := bq_ ab 4; have bU : al.cell? ⟨ac, 5, none⟩ = some (.int .u64 0) := bq_ ab 5; have bV : al.cell? ⟨ac, 6, none⟩ = some (.int .u64 0) := bq_ ab 6; have bW : al.cell? ⟨ac, 7, none⟩ = some (.int .u64 0) := bq_ ab 7; have bX : al.cell? ⟨ac, 8, none⟩ = some (.int .u64 0) := bq_ ab 8; have bY : al.cell? ⟨ac, 9, none⟩ = some (.int .u64 0) := bq_ ab 9; have aK : al.cell? ⟨ac, 10, none⟩ = some (.int .u64 0) := bq_ ab 10; have aL : al.cell? ⟨ac, 11, none⟩ = some (.int .u64 0) := bq_ ab 11; have aM : al.cell? ⟨ac, 12, none⟩ = some (.int .u64 0) := bq_ ab 12; have aN : al.cell? ⟨ac, 13, none⟩ = some (.int .u64 0) := bq_ ab 13; have aO : al.cell? ⟨ac, 14, none⟩ = some (.int .u64 0) := bq_ ab 14; have aP : al.cell? ⟨ac, 15, none⟩ = some (.int .u64 0) := bq_ ab 15; have bZ := blk_frozen ab.out 0; have b0 := blk_frozen ab.out 1; have b1 := blk_frozen ab.out 2; have b2 := blk_frozen ab.out 3; have b3 := blk_frozen ab.out 4; have b4 := blk_frozen ab.out 5; have b5 := blk_frozen ab.out 6; have b6 := blk_frozen ab.out 7; have b7 := blk_frozen ab.out 8; have b8 := blk_frozen ab.out 9; have aQ := blk_frozen ab.out 10; have aR := blk_frozen ab.out 11; have aS := blk_frozen ab.out 12; have aT := blk_frozen ab.out 13; have aU := blk_frozen ab.out 14; have aV := blk_frozen ab.out 15; have b9 : al.cell? ⟨ae, 0, none⟩ = some (.int .u64 0) := bq_ ad 0; have ca : al.cell? ⟨ae, 1, none⟩ = some (.int .u64 0) := bq_ ad 1; have cb : al.cell? ⟨ae, 2, none⟩ = some (.int .u64 0) := bq_ ad 2; have cc : al.cell? ⟨ae, 3, none⟩ = some (.int .u64 0) := bq_ ad 3; have cd := blk_frozen ad.out 0; have ce := blk_frozen ad.out 1; have cf := blk_frozen ad.out 2; have cg := blk_frozen ad.out 3))
     refine bodyPost_ret (results_cell_row rfl _ _ ae 80 #[.int .u64 1, .int .u64 1, .int .u64 2, .int .u64 3] (0, 0) _ rfl (by refine blk_put (cs := #[.int .u64 1, .int .u64 1, .int .u64 2, .int .u64 0]) ?_ 3 _ rfl; refine blk_put (cs := #[.int .u64 1, .int .u64 1, .int .u64 0, .int .u64 0]) ?_ 2 _ rfl; refine blk_put (cs := #[.int .u64 1, .int .u64 0, .int .u64 0, .int .u64 0]) ?_ 1 _ rfl; refine blk_put (cs := #[.int .u64 0, .int .u64 0, .int .u64 0, .int .u64 0]) ?_ 0 _ rfl; refine blk_far ?_ aa.out _; refine blk_far ?_ aa.out _; refine blk_far ?_ aa.out _; refine blk_far ?_ aa.out _; refine blk_far ?_ aa.out _; refine blk_far ?_ aa.out _; refine blk_far ?_ aa.out _; refine blk_far ?_ aa.out _; refine blk_far ?_ aa.out _; refine blk_far ?_ aa.out _; refine blk_far ?_ aa.out _; refine blk_far ?_ aa.out _; refine blk_far ?_ aa.out _; refine blk_far ?_ aa.out _; refine blk_far ?_ aa.out _; refine blk_far ?_ aa.out _; exact ad.out) Tryd.underlying80 rfl (by kernel_rfl)) rfl ?_
     exact ⟨by first | rfl | (simp [errW_none, errW_some] <;> rfl) | (simp [*, errW_none, errW_some] <;> rfl), by repeat (first | (with_reducible first | exact HB.out | apply below_alloc | apply pw_below_drewN | apply below_drew1 | refine below_set ?_ af.out | refine below_set ?_ ao.out) | exact HB.out)⟩
    ·rw [if_neg aw] at H
     by_cases ax : a0 = 3
     ·rw [if_pos ax] at H
      subst ax
      simp only [Option.some.injEq, Prod.mk.injEq] at H
      obtain ⟨rfl, rfl, rfl, rfl⟩ := H
      go_enter Tryd.func77, Tryd.ntmps77
      go_wp2_with (first | ((with_reducible refine gate_dst (N := 2) rfl ?_); refine box_event ?hg (N := 2) ?hd (cs := #[.int .u64 0, .int .u64 0, .int .u64 0, .int .u64 0]) (t := 80) ?hr ?_; (case hd => rfl); (case hg => rfl); (case hr => first | (go_simp; done) | (go_simp; rfl)); intro ae hg dw hbox hb; have ag := aj (below_step (by repeat (first | (with_reducible first | exact HB.out | apply below_alloc | apply pw_below_drewN | apply below_drew1) | exact HB.out)) hb); have ah := aj (hbox); have ap := aj ((by rw [hg]; exact (below_size (by repeat (first | (with_reducible first | exact HB.out | apply below_alloc | apply pw_below_drewN | apply below_drew1) | exact HB.out))) : w.heap.size ≤ ae)); clear HB; have HB := ag; have ad := ah; have af := ap; clear ag ah ap; clear hb hbox hg) | ((with_reducible refine gate_dst (N := 3) rfl ?_); refine box_event ?hg (N := 3) ?hd (cs := #[.int .u64 0, .int .u64 0, .int .u64 0, .int .u64 0, .int .u64 0, .int .u64 0, .int .u64 0, .int .u64 0, .int .u64 0, .int .u64 0, .int .u64 0, .int .u64 0, .int .u64 0, .int .u64 0, .int .u64 0, .int .u64 0]) (t := 104) ?hr ?_; (case hd => rfl); (case hg => rfl); (case hr => first | (go_simp; done) | (go_simp; rfl)); intro ac hg am hbox hb; have ag := aj (blk_below ad.out hb); have ah := aj (below_step (by repeat (first | (with_reducible first | exact HB.out | apply below_alloc | apply pw_below_drewN | apply below_drew1 | refine below_set ?_ af.out) | exact HB.out)) hb); have aq := aj (hbox); have ar := aj ((by rw [hg]; exact (below_size (by repeat (first | (with_reducible first | exact HB.out | apply below_alloc | apply pw_below_drewN | apply below_drew1 | refine below_set ?_ af.out) | exact HB.out))) : w.heap.size ≤ ac)); have au := aj ((by rw [hg]; exact Nat.ne_of_lt (blk_lt ad.out) : ae ≠ ac)); have av := aj ((by rw [hg]; exact Nat.ne_of_gt (blk_lt ad.out) : ac ≠ ae)); clear ad; clear HB; have ad := ag; have HB := ah; have ab := aq; have ao := ar; have aa := au; have ai := av; clear ag ah aq ar au av; clear hb hbox hg; have dq := ai.out; have dr := aa.out; have ci : am.cell? ⟨ac, 0, none⟩ = some (.int .u64 0) := bq_ ab 0; have cj : am.cell? ⟨ac, 1, none⟩ = some (.int .u64 0) := bq_ ab 1; have ck : am.cell? ⟨ac, 2, none⟩ = some (.int .u64 0) := bq_ ab 2; have cl : am.cell? ⟨ac, 3, none⟩ = some (.int .u64 0) := bq_ ab 3; have cm : am.cell? ⟨ac, 4, none⟩ = some (.int .u64 0) := bq_ ab 4; have cn : am.cell? ⟨ac, 5, none⟩ = some (.int .u64 0) := bq_ ab 5; have co : am.cell? ⟨ac, 6, none⟩ = some (.int .u64 0) := bq_ ab 6; have cp : am.cell? ⟨ac, 7, none⟩ = some (.int .u64 0) := bq_ ab 7; have cq : am.cell? ⟨ac, 8, none⟩ = some (.int .u64 0) := bq_ ab 8; have cr : am.cell? ⟨ac, 9, none⟩ = some (.int .u64 0) := bq_ ab 9; have aW : am.cell? ⟨ac, 10, none⟩ = some (.int .u64 0) := bq_ ab 10; have aX : am.cell? ⟨ac, 11, none⟩ = some (.int .u64 0) := bq_ ab 11; have aY : am.cell? ⟨ac, 12, none⟩ = some (.int .u64 0) := bq_ ab 12; have aZ : am.cell? ⟨ac, 13, none⟩ = some (.int .u64 0) := bq_ ab 13; have a1 : am.cell? ⟨ac, 14, none⟩ = some (.int .u64 0) := bq_ ab 14; have a2 : am.cell? ⟨ac, 15, none⟩ = some (.int .u64 0) := bq_ ab 15; have ct := blk_frozen ab.out 0; have cu := blk_frozen ab.out 1; have cv := blk_frozen ab.out 2; have cw := blk_frozen ab.out 3; have cx := blk_frozen ab.out 4; have cy := blk_frozen ab.out 5; have cz := blk_frozen ab.out 6; have cA := blk_frozen ab.out 7; have cB := blk_frozen ab.out 8; have cC := blk_frozen ab.out 9; have a3 := blk_frozen ab.out 10; have a4 := blk_frozen ab.out 11; have a5 := blk_frozen ab.out 12; have a6 := blk_frozen ab.out 13; have a7 := blk_frozen ab.out 14; have a8 := blk_frozen ab.out 15; have cD : am.cell? ⟨ae, 0, none⟩ = some (.int .u64 0) := bq_ ad 0; have cE : am.cell? ⟨ae, 1, none⟩ = some (.int .u64 0) := bq_ ad 1; have cF : am.cell? ⟨ae, 2, none⟩ = some (.int .u64 0) := bq_ ad 2; have cG : am.cell? ⟨ae, 3, none⟩ = some (.int .u64 0) := bq_ ad 3; have cH := blk_frozen ad.out 0; have cI := blk_frozen ad.out 1; have cJ := blk_frozen ad.out 2; have cK := blk_frozen ad.out 3))
      refine bodyPost_ret (results_cell_row rfl _ _ ae 80 #[.int .u64 3, .int .u64 1, .int .u64 1, .int .u64 2] (0, 0) _ rfl (by refine blk_put (cs := #[.int .u64 3, .int .u64 1, .int .u64 1, .int .u64 0]) ?_ 3 _ rfl; refine blk_put (cs := #[.int .u64 3, .int .u64 1, .int .u64 0, .int .u64 0]) ?_ 2 _ rfl; refine blk_put (cs := #[.int .u64 3, .int .u64 0, .int .u64 0, .int .u64 0]) ?_ 1 _ rfl; refine blk_put (cs := #[.int .u64 0, .int .u64 0, .int .u64 0, .int .u64 0]) ?_ 0 _ rfl; refine blk_far ?_ aa.out _; refine blk_far ?_ aa.out _; refine blk_far ?_ aa.out _; refine blk_far ?_ aa.out _; refine blk_far ?_ aa.out _; refine blk_far ?_ aa.out _; refine blk_far ?_ aa.out _; refine blk_far ?_ aa.out _; refine blk_far ?_ aa.out _; refine blk_far ?_ aa.out _; refine blk_far ?_ aa.out _; refine blk_far ?_ aa.out _; refine blk_far ?_ aa.out _; refine blk_far ?_ aa.out _; refine blk_far ?_ aa.out _; refine blk_far ?_ aa.out _; exact ad.out) Tryd.underlying80 rfl (by kernel_rfl)) rfl ?_
      exact ⟨by first | rfl | (simp [errW_none, errW_some] <;> rfl) | (simp [*, errW_none, errW_some] <;> rfl), by repeat (first | (with_reducible first | exact HB.out | apply below_alloc | apply pw_below_drewN | apply below_drew1 | refine below_set ?_ af.out | refine below_set ?_ ao.out) | exact HB.out)⟩
     ·rw [if_neg ax] at H
      exact absurd H (by simp)
 ·rw [if_neg c2] at H
  exact absurd H (by simp)

end Go.Proofs.YtpnpmeogffodgaaDoor.Q
end
section
namespace Go.Proofs.YtpnpmeogffodgaaDoor.Q
open Go.RowKit Go.Proofs.YtpnpmeogffodgaaDoorW.PrintWords Go.Proofs.YtpnpmeogffodgaaDoorW.PrintLast Go.Proofs.YtpnpmeogffodgaaDoorW.PrintMore
attribute [local go_sem] max2_int min2_int max_two min_two max_three min_three max_four min_four run_store_fnV run_store_fnc run_store_nfn   -- for this text's walks alone
set_option linter.unusedVariables false
set_option linter.unusedSimpArgs false

abbrev z72_0_ := zb 12 0
abbrev z72_1_ := zb 12 1
abbrev z72_2_ := zb 12 3
abbrev z72_3_ := zb 12 7
abbrev z72_4_ := zb 12 15
abbrev z72_5_ := zb 12 47
abbrev z72_6_ := zb 12 111
abbrev z72_7_ := zb 12 239
abbrev z72_8_ := zb 12 255
abbrev z72_9_ := zb 12 511
abbrev z72_10_ := zb 12 1023
abbrev z72_11_ := zb 12 2047
abbrev z72_12_ := zb 12 4095
abbrev z72_13_ := zb 11 0
abbrev z72_14_ := zb 11 1
abbrev z72_15_ := zb 11 3
abbrev z72_16_ := zb 11 7
abbrev z72_17_ := zb 11 15
abbrev z72_18_ := zb 11 47
abbrev z72_19_ := zb 11 63
abbrev z72_20_ := zb 11 127
abbrev z72_21_ := zb 11 255
abbrev z72_22_ := zb 11 511
abbrev z72_23_ := zb 11 1023
abbrev z72_24_ := zb 11 2047
abbrev z72_25_ := zb 16 0
abbrev z72_26_ := zb 16 1
abbrev z72_27_ := zb 16 3
abbrev z72_28_ := zb 16 7
abbrev z72_29_ := zb 16 15
abbrev z72_30_ := zb 16 47
abbrev z72_31_ := zb 16 111
abbrev z72_32_ := zb 16 239
abbrev z72_33_ := zb 16 751
abbrev z72_34_ := zb 16 1775
abbrev z72_35_ := zb 16 1791
abbrev z72_36_ := zb 16 2047
abbrev z72_37_ := zb 16 4095
abbrev z72_38_ := zb 16 8191
abbrev z72_39_ := zb 16 16383
abbrev z72_40_ := zb 16 32767
abbrev z72_41_ := zb 16 65535
/-! ### attestorref06_Round: function 72 -/
mutual
def attestorref06_Round.j0 : Nat → Int → Int → Bool → Int → Int → Int → Int → Option (Int × Int × Int × Int)
  | 0, _, _, _, _, _, _, _ => none
  | k + 1, x0, x1, da, aA, aB, aC, aD => if da = true then (some (0, 0, 0, 0)) else (attestorref06_Round.l0 k x0 x1 0 aA aB aC aD)
def attestorref06_Round.l0 : Nat → Int → Int → Int → Int → Int → Int → Int → Option (Int × Int × Int × Int)
  | 0, _, _, _, _, _, _, _ => none
  | k + 1, x0, x1, x7, aA, aB, aC, aD => if x7 < 4 then (if 0 ≤ x7 then ((attestorref06_Constant.f k x0 x1 x7).bind fun bH => ((attestorref01_Add.f x0 (rd ([aA, aB, aC, aD] : List Int) x7) bH).bind fun bd => (attestorref06_Round.l0 k x0 x1 (wrap64 (x7 + 1)) (updv aA 0 x7 bd) (updv aB 1 x7 bd) (updv aC 2 x7 bd) (updv aD 3 x7 bd)))) else (none)) else (attestorref06_Round.l1 k x0 0 aA aB aC aD)
def attestorref06_Round.l1 : Nat → Int → Int → Int → Int → Int → Int → Option (Int × Int × Int × Int)
  | 0, _, _, _, _, _, _ => none
  | k + 1, x0, x8, aA, aB, aC, aD => if x8 < 4 then (if 0 ≤ x8 then ((attestorref01_Exponent.f k x0).bind fun bI => ((attestorref01_Pow.f k x0 (rd ([aA, aB, aC, aD] : List Int) x8) (IntKind.u64.wrap (bI))).bind fun be => (attestorref06_Round.l1 k x0 (wrap64 (x8 + 1)) (updv aA 0 x8 be) (updv aB 1 x8 be) (updv aC 2 x8 be) (updv aD 3 x8 be)))) else (none)) else (attestorref06_Round.l2 k x0 0 aA aB aC aD 0 0 0 0)
def attestorref06_Round.l2 : Nat → Int → Int → Int → Int → Int → Int → Int → Int → Int → Int → Option (Int × Int × Int × Int)
  | 0, _, _, _, _, _, _, _, _, _, _ => none
  | k + 1, x0, bh, aA, aB, aC, aD, a7, a8, a9, ba => if bh < 4 then ((attestorref06_row.f bh).bind fun bF => (attestorref06_Round.l3 k x0 bh 0 aA aB aC aD a7 a8 a9 ba bF.1 bF.2.1 bF.2.2.1 bF.2.2.2)) else (some (a7, a8, a9, ba))
def attestorref06_Round.l3 : Nat → Int → Int → Int → Int → Int → Int → Int → Int → Int → Int → Int → Int → Int → Int → Int → Option (Int × Int × Int × Int)
  | 0, _, _, _, _, _, _, _, _, _, _, _, _, _, _, _ => none
  | k + 1, x0, bh, bX, aA, aB, aC, aD, a7, a8, a9, ba, bQ, bR, bS, bT => if bX < 4 then (if 0 ≤ bh then (if bh < 4 then (if 0 ≤ bX then ((attestorref01_Mul.f x0 (rd ([bQ, bR, bS, bT] : List Int) bX) (rd ([aA, aB, aC, aD] : List Int) bX)).bind fun bJ => ((attestorref01_Add.f x0 (rd ([a7, a8, a9, ba] : List Int) bh) bJ).bind fun bf => (attestorref06_Round.l3 k x0 bh (wrap64 (bX + 1)) aA aB aC aD (updv a7 0 bh bf) (updv a8 1 bh bf) (updv a9 2 bh bf) (updv ba 3 bh bf) bQ bR bS bT))) else (none)) else (none)) else (none)) else (attestorref06_Round.l2 k x0 (wrap64 (bh + 1)) aA aB aC aD a7 a8 a9 ba)
end
def attestorref06_Round.f (k : Nat) (a0 : Int) (a1 : Int) (aK : Int) (aL : Int) (aM : Int) (aN : Int) : Option (Int × Int × Int × Int) := (attestorref01_Valid.f a0).bind fun bK => (if bK = true then (if a1 < 0 then (attestorref06_Round.j0 k a0 a1 true aK aL aM aN) else (attestorref06_Round.j0 k a0 a1 (decide (a1 > 7)) aK aL aM aN)) else (attestorref06_Round.j0 k a0 a1 true aK aL aM aN))
theorem attestorref06_Round.mono_l : ∀ k, (∀ y0 y1 y2 y3 y4 y5 y6, LeO (attestorref06_Round.j0 k y0 y1 y2 y3 y4 y5 y6) (attestorref06_Round.j0 (k + 1) y0 y1 y2 y3 y4 y5 y6)) ∧ (∀ y0 y1 y2 y3 y4 y5 y6, LeO (attestorref06_Round.l0 k y0 y1 y2 y3 y4 y5 y6) (attestorref06_Round.l0 (k + 1) y0 y1 y2 y3 y4 y5 y6)) ∧ (∀ y0 y1 y2 y3 y4 y5, LeO (attestorref06_Round.l1 k y0 y1 y2 y3 y4 y5) (attestorref06_Round.l1 (k + 1) y0 y1 y2 y3 y4 y5)) ∧ (∀ y0 y1 y2 y3 y4 y5 y6 y7 y8 y9, LeO (attestorref06_Round.l2 k y0 y1 y2 y3 y4 y5 y6 y7 y8 y9) (attestorref06_Round.l2 (k + 1) y0 y1 y2 y3 y4 y5 y6 y7 y8 y9)) ∧ (∀ y0 y1 y2 y3 y4 y5 y6 y7 y8 y9 ci cj ck cl cm, LeO (attestorref06_Round.l3 k y0 y1 y2 y3 y4 y5 y6 y7 y8 y9 ci cj ck cl cm) (attestorref06_Round.l3 (k + 1) y0 y1 y2 y3 y4 y5 y6 y7 y8 y9 ci cj ck cl cm))
  | 0 => ⟨fun _ _ _ _ _ _ _ r h => by simp [attestorref06_Round.j0] at h, fun _ _ _ _ _ _ _ r h => by simp [attestorref06_Round.l0] at h, fun _ _ _ _ _ _ r h => by simp [attestorref06_Round.l1] at h, fun _ _ _ _ _ _ _ _ _ _ r h => by simp [attestorref06_Round.l2] at h, fun _ _ _ _ _ _ _ _ _ _ _ _ _ _ _ r h => by simp [attestorref06_Round.l3] at h⟩
  | k + 1 => by
    obtain ⟨ih0, ih1, ih2, ih3, ih4⟩ := attestorref06_Round.mono_l k
    refine ⟨?_, ?_, ?_, ?_, ?_⟩
    · intro y0 y1 y2 y3 y4 y5 y6
      unfold attestorref06_Round.j0
      repeat' first
      | (with_reducible exact ih0 _ _ _ _ _ _ _)
      | (with_reducible exact ih1 _ _ _ _ _ _ _)
      | (with_reducible exact ih2 _ _ _ _ _ _)
      | (with_reducible exact ih3 _ _ _ _ _ _ _ _ _ _)
      | (with_reducible exact ih4 _ _ _ _ _ _ _ _ _ _ _ _ _ _ _)
      | (with_reducible exact attestorref01_Exponent.mono _ _)
      | (with_reducible exact attestorref01_Pow.mono _ _ _ _)
      | (with_reducible exact attestorref06_Constant.mono _ _ _ _)
      | (with_reducible exact LeO.refl _)
      | (with_reducible exact LeO.none _)
      | (with_reducible refine LeO.ite ?_ ?_)
      | (with_reducible refine LeO.bind ?_ (fun _ => ?_))
      | exact ih0 _ _ _ _ _ _ _
      | exact ih1 _ _ _ _ _ _ _
      | exact ih2 _ _ _ _ _ _
      | exact ih3 _ _ _ _ _ _ _ _ _ _
      | exact ih4 _ _ _ _ _ _ _ _ _ _ _ _ _ _ _
      | exact attestorref01_Exponent.mono _ _
      | exact attestorref01_Pow.mono _ _ _ _
      | exact attestorref06_Constant.mono _ _ _ _
      | exact LeO.none _
      | refine LeO.ite ?_ ?_
      | refine LeO.bind ?_ (fun _ => ?_)
    · intro y0 y1 y2 y3 y4 y5 y6
      unfold attestorref06_Round.l0
      repeat' first
      | (with_reducible exact ih0 _ _ _ _ _ _ _)
      | (with_reducible exact ih1 _ _ _ _ _ _ _)
      | (with_reducible exact ih2 _ _ _ _ _ _)
      | (with_reducible exact ih3 _ _ _ _ _ _ _ _ _ _)
      | (with_reducible exact ih4 _ _ _ _ _ _ _ _ _ _ _ _ _ _ _)
      | (with_reducible exact attestorref01_Exponent.mono _ _)
      | (with_reducible exact attestorref01_Pow.mono _ _ _ _)
      | (with_reducible exact attestorref06_Constant.mono _ _ _ _)
      | (with_reducible exact LeO.refl _)
      | (with_reducible exact LeO.none _)
      | (with_reducible refine LeO.ite ?_ ?_)
      | (with_reducible refine LeO.bind ?_ (fun _ => ?_))
      | exact ih0 _ _ _ _ _ _ _
      | exact ih1 _ _ _ _ _ _ _
      | exact ih2 _ _ _ _ _ _
      | exact ih3 _ _ _ _ _ _ _ _ _ _
      | exact ih4 _ _ _ _ _ _ _ _ _ _ _ _ _ _ _
      | exact attestorref01_Exponent.mono _ _
      | exact attestorref01_Pow.mono _ _ _ _
      | exact attestorref06_Constant.mono _ _ _ _
      | exact LeO.none _
      | refine LeO.ite ?_ ?_
      | refine LeO.bind ?_ (fun _ => ?_)
    · intro y0 y1 y2 y3 y4 y5
      unfold attestorref06_Round.l1
      repeat' first
      | (with_reducible exact ih0 _ _ _ _ _ _ _)
      | (with_reducible exact ih1 _ _ _ _ _ _ _)
      | (with_reducible exact ih2 _ _ _ _ _ _)
      | (with_reducible exact ih3 _ _ _ _ _ _ _ _ _ _)
      | (with_reducible exact ih4 _ _ _ _ _ _ _ _ _ _ _ _ _ _ _)
      | (with_reducible exact attestorref01_Exponent.mono _ _)
      | (with_reducible exact attestorref01_Pow.mono _ _ _ _)
      | (with_reducible exact attestorref06_Constant.mono _ _ _ _)
      | (with_reducible exact LeO.refl _)
      | (with_reducible exact LeO.none _)
      | (with_reducible refine LeO.ite ?_ ?_)
      | (with_reducible refine LeO.bind ?_ (fun _ => ?_))
      | exact ih0 _ _ _ _ _ _ _
      | exact ih1 _ _ _ _ _ _ _
      | exact ih2 _ _ _ _ _ _
      | exact ih3 _ _ _ _ _ _ _ _ _ _
      | exact ih4 _ _ _ _ _ _ _ _ _ _ _ _ _ _ _
      | exact attestorref01_Exponent.mono _ _
      | exact attestorref01_Pow.mono _ _ _ _
      | exact attestorref06_Constant.mono _ _ _ _
      | exact LeO.none _
      | refine LeO.ite ?_ ?_
      | refine LeO.bind ?_ (fun _ => ?_)
    · intro y0 y1 y2 y3 y4 y5 y6 y7 y8 y9
      unfold attestorref06_Round.l2
      repeat' first
      | (with_reducible exact ih0 _ _ _ _ _ _ _)
      | (with_reducible exact ih1 _ _ _ _ _ _ _)
      | (with_reducible exact ih2 _ _ _ _ _ _)
      | (with_reducible exact ih3 _ _ _ _ _ _ _ _ _ _)
      | (with_reducible exact ih4 _ _ _ _ _ _ _ _ _ _ _ _ _ _ _)
      | (with_reducible exact attestorref01_Exponent.mono _ _)
      | (with_reducible exact attestorref01_Pow.mono _ _ _ _)
      | (with_reducible exact attestorref06_Constant.mono _ _ _ _)
      | (with_reducible exact LeO.refl _)
      | (with_reducible exact LeO.none _)
      | (with_reducible refine LeO.ite ?_ ?_)
      | (with_reducible refine LeO.bind ?_ (fun _ => ?_))
      | exact ih0 _ _ _ _ _ _ _
      | exact ih1 _ _ _ _ _ _ _
      | exact ih2 _ _ _ _ _ _
      | exact ih3 _ _ _ _ _ _ _ _ _ _
      | exact ih4 _ _ _ _ _ _ _ _ _ _ _ _ _ _ _
      | exact attestorref01_Exponent.mono _ _
      | exact attestorref01_Pow.mono _ _ _ _
      | exact attestorref06_Constant.mono _ _ _ _
      | exact LeO.none _
      | refine LeO.ite ?_ ?_
      | refine LeO.bind ?_ (fun _ => ?_)
    · intro y0 y1 y2 y3 y4 y5 y6 y7 y8 y9 ci cj ck cl cm
      unfold attestorref06_Round.l3
      repeat' first
      | (with_reducible exact ih0 _ _ _ _ _ _ _)
      | (with_reducible exact ih1 _ _ _ _ _ _ _)
      | (with_reducible exact ih2 _ _ _ _ _ _)
      | (with_reducible exact ih3 _ _ _ _ _ _ _ _ _ _)
      | (with_reducible exact ih4 _ _ _ _ _ _ _ _ _ _ _ _ _ _ _)
      | (with_reducible exact attestorref01_Exponent.mono _ _)
      | (with_reducible exact attestorref01_Pow.mono _ _ _ _)
      | (with_reducible exact attestorref06_Constant.mono _ _ _ _)
      | (with_reducible exact LeO.refl _)
      | (with_reducible exact LeO.none _)
      | (with_reducible refine LeO.ite ?_ ?_)
      | (with_reducible refine LeO.bind ?_ (fun _ => ?_))
      | exact ih0 _ _ _ _ _ _ _
      | exact ih1 _ _ _ _ _ _ _
      | exact ih2 _ _ _ _ _ _
      | exact ih3 _ _ _ _ _ _ _ _ _ _
      | exact ih4 _ _ _ _ _ _ _ _ _ _ _ _ _ _ _
      | exact attestorref01_Exponent.mono _ _
      | exact attestorref01_Pow.mono _ _ _ _
      | exact attestorref06_Constant.mono _ _ _ _
      | exact LeO.none _
      | refine LeO.ite ?_ ?_
      | refine LeO.bind ?_ (fun _ => ?_)
theorem attestorref06_Round.mono : ∀ a0 a1 a2 a3 a4 a5 k, LeO (attestorref06_Round.f k a0 a1 a2 a3 a4 a5) (attestorref06_Round.f (k + 1) a0 a1 a2 a3 a4 a5) := by
  intro a0 a1 a2 a3 a4 a5 k
  obtain ⟨ih0, ih1, ih2, ih3, ih4⟩ := attestorref06_Round.mono_l k
  unfold attestorref06_Round.f
  repeat' first
      | (with_reducible exact ih0 _ _ _ _ _ _ _)
      | (with_reducible exact ih1 _ _ _ _ _ _ _)
      | (with_reducible exact ih2 _ _ _ _ _ _)
      | (with_reducible exact ih3 _ _ _ _ _ _ _ _ _ _)
      | (with_reducible exact ih4 _ _ _ _ _ _ _ _ _ _ _ _ _ _ _)
      | (with_reducible exact attestorref01_Exponent.mono _ _)
      | (with_reducible exact attestorref01_Pow.mono _ _ _ _)
      | (with_reducible exact attestorref06_Constant.mono _ _ _ _)
      | (with_reducible exact LeO.refl _)
      | (with_reducible exact LeO.none _)
      | (with_reducible refine LeO.ite ?_ ?_)
      | (with_reducible refine LeO.bind ?_ (fun _ => ?_))
      | exact ih0 _ _ _ _ _ _ _
      | exact ih1 _ _ _ _ _ _ _
      | exact ih2 _ _ _ _ _ _
      | exact ih3 _ _ _ _ _ _ _ _ _ _
      | exact ih4 _ _ _ _ _ _ _ _ _ _ _ _ _ _ _
      | exact attestorref01_Exponent.mono _ _
      | exact attestorref01_Pow.mono _ _ _ _
      | exact attestorref06_Constant.mono _ _ _ _
      | exact LeO.none _
      | refine LeO.ite ?_ ?_
      | refine LeO.bind ?_ (fun _ => ?_)
def attestorref06_Round.T6 : Bool × List (List Nat × List Nat) := (true, [([], []), ([], []), ([], []), ([2], [2]), ([3], [3]), ([], []), ([], []), ([], []), ([5, 6, 7], [5, 6, 7]), ([1, 4, 8, 8], [1, 4, 8]), ([0, 0, 1, 2, 3, 4, 5, 6, 7, 8, 9], [0]), ([10, 9, 9, 0, 1, 2, 3, 4, 5, 6, 7, 8, 9], [9, 10])])
def attestorref06_Round.B6 : List Nat := [0, 0, 0, 4, 12, 0, 0, 0, 224, 510, 1023, 2047]
theorem attestorref06_Round.tab6 : rtab .any (opsOf Tryd.f72 6) = attestorref06_Round.T6 := by kernel_rfl
theorem attestorref06_Round.bits6 : waitsOk attestorref06_Round.T6.2 attestorref06_Round.B6 = true := by kernel_rfl
def attestorref06_Round.T10 : Bool × List (List Nat × List Nat) := (true, [([], []), ([], []), ([], []), ([2], [2]), ([3], [3]), ([], []), ([5], [5]), ([6], [6]), ([1, 4, 7, 6], [1, 4, 7]), ([0, 0, 1, 2, 3, 4, 5, 6, 7, 8], [0]), ([9, 8, 8, 0, 1, 2, 3, 4, 5, 6, 7, 8], [8, 9])])
def attestorref06_Round.B10 : List Nat := [0, 0, 0, 4, 12, 0, 32, 96, 254, 511, 1023]
theorem attestorref06_Round.tab10 : rtab .any (opsOf Tryd.f72 10) = attestorref06_Round.T10 := by kernel_rfl
theorem attestorref06_Round.bits10 : waitsOk attestorref06_Round.T10.2 attestorref06_Round.B10 = true := by kernel_rfl
def attestorref06_Round.T19 : Bool × List (List Nat × List Nat) := (true, [([], []), ([], []), ([], []), ([2], [2]), ([3], [3]), ([], []), ([], []), ([6], [6]), ([7], [7]), ([], []), ([9], [9]), ([10], [10]), ([5, 8, 11], [5, 8, 11]), ([1, 4, 12, 12], [1, 4, 12]), ([0, 0, 1, 2, 3, 4, 5, 6, 7, 8, 9, 10, 11, 12, 13], [0]), ([14, 13, 13, 0, 1, 2, 3, 4, 5, 6, 7, 8, 9, 10, 11, 12, 13], [13, 14])])
def attestorref06_Round.B19 : List Nat := [0, 0, 0, 4, 12, 0, 0, 64, 192, 0, 512, 1536, 4064, 8190, 16383, 32767]
theorem attestorref06_Round.tab19 : rtab .any (opsOf Tryd.f72 19) = attestorref06_Round.T19 := by kernel_rfl
theorem attestorref06_Round.bits19 : waitsOk attestorref06_Round.T19.2 attestorref06_Round.B19 = true := by kernel_rfl
set_option maxHeartbeats 8000000 in
set_option maxRecDepth 100000 in
theorem attestorref06_Round.calls (k : Nat) (a0 : Int) (a1 : Int) (aK : Int) (aL : Int) (aM : Int) (aN : Int) (r1 : Int) (r2 : Int) (r3 : Int) (r4 : Int) (w : World) (h : attestorref06_Round.f k a0 a1 aK aL aM aN = some (r1, r2, r3, r4)) :
  Calls Tryd.prog 72 #[.int .i64 a0, .int .i64 a1, .agg #[.int .u64 aK, .int .u64 aL, .int .u64 aM, .int .u64 aN]] w fun e w' => e = .returned (.agg #[.int .u64 r1, .int .u64 r2, .int .u64 r3, .int .u64 r4]) ∧ Below w.heap.size w w' := by
 have hu80 := Tryd.underlying80
 have HB := Aside0.mk (Below.refl w.heap.size w)
 have H : ((attestorref01_Valid.f a0).bind fun bK => (if bK = true then (if a1 < 0 then (attestorref06_Round.j0 k a0 a1 true aK aL aM aN) else (attestorref06_Round.j0 k a0 a1 (decide (a1 > 7)) aK aL aM aN)) else (attestorref06_Round.j0 k a0 a1 true aK aL aM aN))) = some (r1, r2, r3, r4) := h
 clear h
 have cn := Aside0.mk H
 clear H
 go_enter Tryd.func72, Tryd.ntmps72
 go_upto_region 1 with (first | ((with_reducible refine gate_dst (N := 5) rfl ?_); refine box_event ?hg (N := 5) ?hd (cs := #[.int .u64 aK, .int .u64 aL, .int .u64 aM, .int .u64 aN]) (t := 80) ?hr ?_; (case hd => rfl); (case hg => rfl); (case hr => first | (go_simp; done) | (go_simp; rfl)); intro az hg w5 hbox hb; have aP := Aside0.mk (below_step (by repeat (first | (with_reducible first | exact HB.out | apply below_alloc | apply pw_below_drewN | apply below_drew1) | exact HB.out)) hb); have aQ := Aside0.mk (hbox); have aR := Aside0.mk ((by rw [hg]; exact (below_size (by repeat (first | (with_reducible first | exact HB.out | apply below_alloc | apply pw_below_drewN | apply below_drew1) | exact HB.out))) : w.heap.size ≤ az)); have aW := Aside0.mk ((by rw [hg]; exact (below_size (by repeat (first | (with_reducible first | exact HB.out | apply below_alloc | apply pw_below_drewN | apply below_drew1) | exact HB.out))) : w.heap.size ≤ az)); clear HB; have HB := aP; have aa := aQ; have dj := aR; have ax := aW; clear aP aQ aR aW; clear hb hbox hg) | ((with_reducible refine gate_dst (N := 6) rfl ?_); refine box_event ?hg (N := 6) ?hd (cs := #[.int .u64 0, .int .u64 0, .int .u64 0, .int .u64 0]) (t := 80) ?hr ?_; (case hd => rfl); (case hg => rfl); (case hr => first | (go_simp; done) | (go_simp; rfl)); intro aw hg w6 hbox hb; have aP := Aside0.mk (blk_below (g := az) (o := .cells #[.int .u64 aK, .int .u64 aL, .int .u64 aM, .int .u64 aN] 80 (0, 0)) (by exact aa.out) hb); have aQ := Aside0.mk (below_step (by repeat (first | (with_reducible first | exact HB.out | apply below_alloc | apply pw_below_drewN | apply below_drew1 | refine below_set ?_ ax.out) | exact HB.out)) hb); have aR := Aside0.mk (hbox); have aW := Aside0.mk ((by rw [hg]; exact (below_size (by repeat (first | (with_reducible first | exact HB.out | apply below_alloc | apply pw_below_drewN | apply below_drew1 | refine below_set ?_ ax.out) | exact HB.out))) : w.heap.size ≤ aw)); have bi := Aside0.mk ((by rw [hg]; exact (below_size (by repeat (first | (with_reducible first | exact HB.out | apply below_alloc | apply pw_below_drewN | apply below_drew1 | refine below_set ?_ ax.out) | exact HB.out))) : w.heap.size ≤ aw)); have bw := Aside0.mk ((by rw [hg]; exact Nat.ne_of_lt (blk_lt (g := az) (o := .cells #[.int .u64 aK, .int .u64 aL, .int .u64 aM, .int .u64 aN] 80 (0, 0)) (by exact aa.out)) : az ≠ aw)); have bx := Aside0.mk ((by rw [hg]; exact Nat.ne_of_gt (blk_lt (g := az) (o := .cells #[.int .u64 aK, .int .u64 aL, .int .u64 aM, .int .u64 aN] 80 (0, 0)) (by exact aa.out)) : aw ≠ az)); clear aa; clear HB; have aa := aP; have HB := aQ; have ab := aR; have dk := aW; have aH := bi; have bc := bw; have aS := bx; clear aP aQ aR aW bi bw bx; clear hb hbox hg))
 (try simp only [Act.put, sa_, sb_, sc_])
 go_cut [23] (fun v23 wc => ∃ (kq : Nat) (bG : Bool), v23 = .bool bG ∧ Aside0 (attestorref06_Round.j0 kq a0 a1 bG aK aL aM aN = some (r1, r2, r3, r4)) ∧ Aside0 (kq ≤ k) ∧ Aside0 (wc.heap[az]? = some (.cells #[.int .u64 aK, .int .u64 aL, .int .u64 aM, .int .u64 aN] 80 (0, 0))) ∧ Aside0 (wc.heap[aw]? = some (.cells #[.int .u64 0, .int .u64 0, .int .u64 0, .int .u64 0] 80 (0, 0))) ∧ Aside0 (Below w.heap.size w wc))
 case first =>
  have H := cn.out
  clear cn
  replace H := Option.bind_eq_some_iff.mp H
  obtain ⟨bK, cA, H⟩ := H
  have A7 := Aside0.mk cA
  clear cA
  by_cases c8 : bK = true
  ·subst c8
   have H1 : (if a1 < 0 then (attestorref06_Round.j0 k a0 a1 true aK aL aM aN) else (attestorref06_Round.j0 k a0 a1 (decide (a1 > 7)) aK aL aM aN)) = some (r1, r2, r3, r4) := by rw [if_pos rfl] at H; exact H
   clear H
   have H := H1
   clear H1
   by_cases c9 : a1 < 0
   ·rw [if_pos c9] at H
    have c9b0 : decide (a1 < 0) = true := decide_eq_true c9
    clear c9
    (first | rw [c9b0] | (simp only [i64_w, i32_w]; rw [c9b0]) | skip)
    have H' := Aside0.mk H
    clear H
    go_wp2_with (first | ((with_reducible refine gate_callee (f := 42) rfl ?_); refine goesL_ (some 14) rfl rfl Tryd.func42 (by kernel_rfl) rfl #[.int .i64 a0] rfl (by (try simp only [List.map_toArray, List.map_cons, List.map_nil]); first | done | rfl | (go_simp; done)) ?_; (with_reducible refine (attestorref01_Valid.calls a0 true _ A7.out).mono ?_); rintro e w' ⟨rfl, ⟨nd, rfl⟩⟩; refine ⟨_, rfl, ?_⟩))
    go_meet
    case rel => exact ⟨_, (true), (by first | rfl | (simp; done) | (simp [*]; done) | (simp; rfl) | (simp; decide +kernel)), H', ⟨by first | omega | exact Nat.le_refl _⟩, ⟨by exact aa.out⟩, ⟨by exact ab.out⟩, ⟨by repeat (first | (with_reducible first | exact HB.out | apply below_alloc | apply pw_below_drewN | apply below_drew1 | refine below_set ?_ ax.out | refine below_set ?_ aH.out) | exact HB.out)⟩⟩
   ·rw [if_neg c9] at H
    have c9b0 : decide (a1 < 0) = false := decide_eq_false c9
    clear c9
    (first | rw [c9b0] | (simp only [i64_w, i32_w]; rw [c9b0]) | skip)
    have H' := Aside0.mk H
    clear H
    go_wp2_with (first | ((with_reducible refine gate_callee (f := 42) rfl ?_); refine goesL_ (some 14) rfl rfl Tryd.func42 (by kernel_rfl) rfl #[.int .i64 a0] rfl (by (try simp only [List.map_toArray, List.map_cons, List.map_nil]); first | done | rfl | (go_simp; done)) ?_; (with_reducible refine (attestorref01_Valid.calls a0 true _ A7.out).mono ?_); rintro e w' ⟨rfl, ⟨nd, rfl⟩⟩; refine ⟨_, rfl, ?_⟩))
    go_meet
    case rel => exact ⟨_, (decide (a1 > 7)), (by first | rfl | (simp; done) | (simp [*]; done) | (simp; rfl) | (simp; decide +kernel)), H', ⟨by first | omega | exact Nat.le_refl _⟩, ⟨by exact aa.out⟩, ⟨by exact ab.out⟩, ⟨by repeat (first | (with_reducible first | exact HB.out | apply below_alloc | apply pw_below_drewN | apply below_drew1 | refine below_set ?_ ax.out | refine below_set ?_ aH.out) | exact HB.out)⟩⟩
  ·replace c8 := Bool.eq_false_iff.mpr c8
   subst c8
   have H1 : (attestorref06_Round.j0 k a0 a1 true aK aL aM aN) = some (r1, r2, r3, r4) := by rw [if_neg (show ¬ (false = true) by decide)] at H; exact H
   clear H
   have H := H1
   clear H1
   have H' := Aside0.mk H
   clear H
   go_wp2_with (first | ((with_reducible refine gate_callee (f := 42) rfl ?_); refine goesL_ (some 14) rfl rfl Tryd.func42 (by kernel_rfl) rfl #[.int .i64 a0] rfl (by (try simp only [List.map_toArray, List.map_cons, List.map_nil]); first | done | rfl | (go_simp; done)) ?_; (with_reducible refine (attestorref01_Valid.calls a0 false _ A7.out).mono ?_); rintro e w' ⟨rfl, ⟨nd, rfl⟩⟩; refine ⟨_, rfl, ?_⟩))
   go_meet
   case rel => exact ⟨_, (true), (by first | rfl | (simp; done) | (simp [*]; done) | (simp; rfl) | (simp; decide +kernel)), H', ⟨by first | omega | exact Nat.le_refl _⟩, ⟨by exact aa.out⟩, ⟨by exact ab.out⟩, ⟨by repeat (first | (with_reducible first | exact HB.out | apply below_alloc | apply pw_below_drewN | apply below_drew1 | refine below_set ?_ ax.out | refine below_set ?_ aH.out) | exact HB.out)⟩⟩
 case rest =>
  clear cn
  try clear p2
  try clear c4
  try clear c7
  try clear c8
  try clear c9
  try clear c9b0
  obtain ⟨kq, bG, rfl, HA, bz, aa, ab, HB⟩ := hcut
  cases kq with
  | zero => exact absurd HA.out (by simp [attestorref06_Round.j0])
  | succ kj3 =>
   have H := HA.out
   clear HA
   simp only [attestorref06_Round.j0] at H
   by_cases c10 : bG = true
   ·subst c10
    have H1 : (some (0, 0, 0, 0)) = some (r1, r2, r3, r4) := by rw [if_pos rfl] at H; exact H
    clear H
    have H := H1
    clear H1
    simp only [Option.some.injEq, Prod.mk.injEq] at H
    obtain ⟨rfl, rfl, rfl, rfl⟩ := H
    have dl := aS.out
    have dm := bc.out
    have bm : wc.cell? ⟨aw, 0, none⟩ = some (.int .u64 0) := bq_ ab 0
    have bn : wc.cell? ⟨aw, 1, none⟩ = some (.int .u64 0) := bq_ ab 1
    have bo : wc.cell? ⟨aw, 2, none⟩ = some (.int .u64 0) := bq_ ab 2
    have bp : wc.cell? ⟨aw, 3, none⟩ = some (.int .u64 0) := bq_ ab 3
    have bq := blk_frozen ab.out 0
    have br := blk_frozen ab.out 1
    have bs := blk_frozen ab.out 2
    have bu := blk_frozen ab.out 3
    go_wp2
    refine bodyPost_ret (results_cell_row rfl _ _ aw 80 #[.int .u64 0, .int .u64 0, .int .u64 0, .int .u64 0] (0, 0) _ rfl (by refine blk_put (cs := #[.int .u64 0, .int .u64 0, .int .u64 0, .int .u64 0]) ?_ 3 _ rfl; refine blk_put (cs := #[.int .u64 0, .int .u64 0, .int .u64 0, .int .u64 0]) ?_ 2 _ rfl; refine blk_put (cs := #[.int .u64 0, .int .u64 0, .int .u64 0, .int .u64 0]) ?_ 1 _ rfl; refine blk_put (cs := #[.int .u64 0, .int .u64 0, .int .u64 0, .int .u64 0]) ?_ 0 _ rfl; exact ab.out) Tryd.underlying80 rfl (by kernel_rfl)) rfl ?_
    exact ⟨by first | rfl | (simp [errW_none, errW_some] <;> rfl) | (simp [*, errW_none, errW_some] <;> rfl), by repeat (first | (with_reducible first | exact HB.out | apply below_alloc | apply pw_below_drewN | apply below_drew1 | refine below_set ?_ ax.out | refine below_set ?_ aH.out) | exact HB.out)⟩
   ·replace c10 := Bool.eq_false_iff.mpr c10
    subst c10
    have H1 : (attestorref06_Round.l0 kj3 a0 a1 0 aK aL aM aN) = some (r1, r2, r3, r4) := by rw [if_neg (show ¬ (false = true) by decide)] at H; exact H
    clear H
    have H := H1
    clear H1
    have H' := Aside0.mk H
    clear H
    go_wp2
    go_loopg [7] kj3 (fun kq v7 w' => ∃ (aF : Int) (ai : Int) (ak : Int) (al : Int) (am : Int), v7 = .int .i64 aF ∧ Aside0 (attestorref06_Round.l0 kq a0 a1 aF ai ak al am = some (r1, r2, r3, r4)) ∧ Aside0 (kq ≤ kj3) ∧ Aside0 (w'.heap[az]? = some (.cells #[.int .u64 ai, .int .u64 ak, .int .u64 al, .int .u64 am] 80 (0, 0))) ∧ Aside0 (w'.heap[aw]? = some (.cells #[.int .u64 0, .int .u64 0, .int .u64 0, .int .u64 0] 80 (0, 0))) ∧ Aside0 (Below w.heap.size w w'))
    case atStart => exact ⟨(0), (aK), (aL), (aM), (aN), (by first | rfl | (simp; done) | (simp [*]; done) | (simp; rfl) | (simp; decide +kernel)), H', ⟨Nat.le_refl _⟩, ⟨by exact aa.out⟩, ⟨by exact ab.out⟩, ⟨by repeat (first | (with_reducible first | exact HB.out | apply below_alloc | apply pw_below_drewN | apply below_drew1 | refine below_set ?_ ax.out | refine below_set ?_ aH.out) | exact HB.out)⟩⟩
    case round =>
     clear H'
     try clear c1
     try clear p2
     try clear c4
     try clear c7
     try clear c8
     try clear c9
     try clear c9b0
     try clear c10
     try clear co
     try clear bm
     try clear bn
     try clear bo
     try clear bp
     try clear bq
     try clear br
     try clear bs
     try clear bu
     try clear p2
     obtain ⟨aF, ai, ak, al, am, rfl, HA, bA, aa, ab, HB⟩ := hrel
     cases gk with
     | zero => exact absurd HA.out (by simp [attestorref06_Round.l0])
     | succ k2 =>
      have H := HA.out
      clear HA
      simp only [attestorref06_Round.l0] at H
      by_cases bv : aF < 4
      ·rw [if_pos bv] at H
       have c13b0 : decide (aF < 4) = true := decide_eq_true bv
       clear bv
       by_cases bB : 0 ≤ aF
       ·rw [if_pos bB] at H
        have c14b0 := eq_true bB
        have c14b1 : decide (0 ≤ aF) = true := decide_eq_true bB
        clear bB
        replace H := Option.bind_eq_some_iff.mp H
        obtain ⟨bH, cp, H⟩ := H
        have db := Aside0.mk cp
        clear cp
        replace H := Option.bind_eq_some_iff.mp H
        obtain ⟨bd, cq, H⟩ := H
        have dc := Aside0.mk cq
        clear cq
        have H' := Aside0.mk H
        clear H
        try go_wp2
        have aP := Aside0.mk (blk_drew aa.out)
        have aQ := Aside0.mk (blk_drew ab.out)
        have aR := Aside0.mk (below_drew1 HB.out)
        clear aa
        clear ab
        clear HB
        have aa := aP
        have ab := aQ
        have HB := aR
        clear aP aQ aR
        have hlt18 : (aF < 4) = True := eq_true (of_decide_eq_true (by first | (with_reducible assumption) | assumption))
        have hge19 : (0 ≤ aF) = True := eq_true (of_decide_eq_true (by first | (with_reducible assumption) | assumption))
        have hlt22 : (aF < 4) = True := eq_true (of_decide_eq_true (by first | (with_reducible assumption) | assumption))
        have hge23 : (0 ≤ aF) = True := eq_true (of_decide_eq_true (by first | (with_reducible assumption) | assumption))
        refine start_ (n := 12) (S := fun w' => w'.cell? ⟨az, (aF).toNat, none⟩ = some (.int .u64 (rd ([ai, ak, al, am] : List Int) aF))) (ds := [11]) z72_0_ (by kernel_rfl) rfl rfl ((sel_at (pre := []) (l := ([ai, ak, al, am] : List Int)) (post := []) aa.out rfl (by simp) (of_decide_eq_true (by first | (with_reducible assumption) | assumption)) (of_decide_eq_true (by first | (with_reducible assumption) | assumption)))) (fun hL => ?_); refine with_tabW attestorref06_Round.tab6 attestorref06_Round.bits6 (fun T_ W_ => ?_)
        generalize wr.drew = bL at aa ab HB hL ⊢
        refine pz_ 0 29 z72_1_ ?_
        refine pz_ 1 30 z72_2_ ?_
        refine pz_ 2 31 z72_3_ ?_
        refine pz_ 3 32 z72_4_ ?_
        refine pz_ 5 34 z72_5_ ?_
        refine pz_ 6 35 z72_6_ ?_
        refine pz_ 7 36 z72_7_ ?_
        refine tz_ 4 33 z72_8_ ?_
        refine one_ (i := 8) (N := some 37) z72_9_ rfl rfl (on_ T_) (by decide) (fun K hK => ?_)
        refine goes_ Tryd.func74 (by kernel_rfl) rfl #[.int .i64 a0, .int .i64 a1, .int .i64 aF] (by rfl) rfl rfl (by (try simp only [List.map_toArray, List.map_cons, List.map_nil]); first | done | rfl | (go_simp; done)) ?_
        with_reducible refine (attestorref06_Constant.calls k2 a0 a1 aF bH _ db.out).mono ?_
        rintro e w' ⟨rfl, ⟨nd, rfl⟩⟩
        refine ⟨_, rfl, ?_⟩
        (try (rw [drewN_self bL]; generalize q_ : World.drewN bL _ = bL; replace aa := ra_ q_ aa; replace ab := ra_ q_ ab; replace HB := rb_ q_ HB; clear q_))
        refine hK.out _ _ ((sel_at (pre := []) (l := ([ai, ak, al, am] : List Int)) (post := []) aa.out rfl (by simp) (of_decide_eq_true (by first | (with_reducible assumption) | assumption)) (of_decide_eq_true (by first | (with_reducible assumption) | assumption)))) (fun hL => ?_)
        clear hK K
        refine norm_ (a' := ?_) ?_ ?_
        rotate_left
        ·show Act.put _ (some 37) _ = _
         simp only [Act.put, sa_, sb_, sc_, i64_w, i32_w]
         rfl
        refine one_ (i := 9) (N := some 38) z72_10_ rfl rfl (on_ T_) (by decide) (fun K hK => ?_)
        refine goes_ Tryd.func63 (by kernel_rfl) rfl #[.int .i64 a0, .int .u64 (rd ([ai, ak, al, am] : List Int) aF), .int .u64 bH] (by rfl) rfl rfl (by (try simp only [List.map_toArray, List.map_cons, List.map_nil]); first | done | rfl | (go_simp; done)) ?_
        with_reducible refine (attestorref01_Add.calls a0 (rd ([ai, ak, al, am] : List Int) aF) bH bd _ dc.out).mono ?_
        rintro e w' ⟨rfl, ⟨nd, rfl⟩⟩
        refine ⟨_, rfl, ?_⟩
        (try (rw [drewN_self bL]; generalize q_ : World.drewN bL _ = bL; replace aa := ra_ q_ aa; replace ab := ra_ q_ ab; replace HB := rb_ q_ HB; clear q_))
        refine hK.out _ _ ((sel_at (pre := []) (l := ([ai, ak, al, am] : List Int)) (post := []) aa.out rfl (by simp) (of_decide_eq_true (by first | (with_reducible assumption) | assumption)) (of_decide_eq_true (by first | (with_reducible assumption) | assumption)))) (fun hL => ?_)
        clear hK K
        refine norm_ (a' := ?_) ?_ ?_
        rotate_left
        ·show Act.put _ (some 38) _ = _
         simp only [Act.put, sa_, sb_, sc_, i64_w, i32_w]
         rfl
        refine pz_ 10 39 z72_11_ ?_
        refine last_ (i := 11) (N := none) z72_12_ rfl rfl (on_ T_) (by decide) (fun K hK => ?_)
        have hsv20 : bL.cell? ⟨az, (aF).toNat, none⟩ = some (.int .u64 (rd ([ai, ak, al, am] : List Int) aF)) := (sel_at (pre := []) (l := ([ai, ak, al, am] : List Int)) (post := []) aa.out rfl (by simp) (of_decide_eq_true (by first | (with_reducible assumption) | assumption)) (of_decide_eq_true (by first | (with_reducible assumption) | assumption)))
        have hfv21 := blk_frozen aa.out ((aF).toNat)
        have cB := aS.out
        have cC := bc.out
        refine skip_ (w1 := ?_) (by rfl) rfl ?_ ?_
        rotate_left
        ·go_simp
         rfl
        refine hK.out _ _ ?_
        clear hK K
        refine done_ (done_of T_.out (by kernel_rfl)) ?_
        try go_wp2
        go_roundg k2
        case measure => have := bz.out; have := bA.out; omega
        case rel => exact ⟨(wrap64 (aF + 1)), ((updv ai 0 aF bd)), ((updv ak 1 aF bd)), ((updv al 2 aF bd)), ((updv am 3 aF bd)), (by first | rfl | (simp; done) | (simp [*]; done) | (simp; rfl) | (simp; decide +kernel)), H', ⟨by have := bz.out; have := bA.out; omega⟩, ⟨by refine sel_put (pre := []) (l := ([ai, ak, al, am] : List Int)) (post := []) ?_ rfl rfl (by simp) (of_decide_eq_true (by first | (with_reducible assumption) | assumption)) (of_decide_eq_true (by first | (with_reducible assumption) | assumption)); exact aa.out⟩, ⟨by refine blk_far ?_ aS.out _; exact ab.out⟩, ⟨by repeat (first | (with_reducible first | exact HB.out | apply below_alloc | apply pw_below_drewN | apply below_drew1 | refine below_set ?_ ax.out | refine below_set ?_ aH.out) | exact HB.out)⟩⟩
       ·rw [if_neg bB] at H
        exact absurd H (by simp)
      ·rw [if_neg bv] at H
       have c13b0 : decide (aF < 4) = false := decide_eq_false bv
       clear bv
       have H' := Aside0.mk H
       clear H
       go_wp2
       go_loopg [8] k2 (fun kq v8 w' => ∃ (aI : Int) (ac : Int) (ad : Int) (ae : Int) (af : Int), v8 = .int .i64 aI ∧ Aside0 (attestorref06_Round.l1 kq a0 aI ac ad ae af = some (r1, r2, r3, r4)) ∧ Aside0 (kq ≤ k2) ∧ Aside0 (w'.heap[az]? = some (.cells #[.int .u64 ac, .int .u64 ad, .int .u64 ae, .int .u64 af] 80 (0, 0))) ∧ Aside0 (w'.heap[aw]? = some (.cells #[.int .u64 0, .int .u64 0, .int .u64 0, .int .u64 0] 80 (0, 0))) ∧ Aside0 (Below w.heap.size w w'))
       case atStart => exact ⟨(0), (ai), (ak), (al), (am), (by first | rfl | (simp; done) | (simp [*]; done) | (simp; rfl) | (simp; decide +kernel)), H', ⟨Nat.le_refl _⟩, ⟨by exact aa.out⟩, ⟨by exact ab.out⟩, ⟨by repeat (first | (with_reducible first | exact HB.out | apply below_alloc | apply pw_below_drewN | apply below_drew1 | refine below_set ?_ ax.out | refine below_set ?_ aH.out) | exact HB.out)⟩⟩
       case round =>
        clear H'
        try clear c1
        try clear p2
        try clear c4
        try clear c6
        try clear p6
        try clear c7
        try clear c8
        try clear c9
        try clear c9b0
        try clear c10
        try clear co
        try clear bv
        try clear c13b0
        try clear bB
        try clear c14b0
        try clear c14b1
        try clear bm
        try clear bn
        try clear bo
        try clear bp
        try clear bq
        try clear br
        try clear bs
        try clear bu
        try clear p2
        obtain ⟨aI, ac, ad, ae, af, rfl, HA, bU, aa, ab, HB⟩ := hrel
        cases gk with
        | zero => exact absurd HA.out (by simp [attestorref06_Round.l1])
        | succ k3 =>
         have H := HA.out
         clear HA
         simp only [attestorref06_Round.l1] at H
         by_cases bC : aI < 4
         ·rw [if_pos bC] at H
          have c25b0 : decide (aI < 4) = true := decide_eq_true bC
          clear bC
          by_cases bM : 0 ≤ aI
          ·rw [if_pos bM] at H
           have c26b0 := eq_true bM
           have c26b1 : decide (0 ≤ aI) = true := decide_eq_true bM
           clear bM
           replace H := Option.bind_eq_some_iff.mp H
           obtain ⟨bI, cr, H⟩ := H
           have dd := Aside0.mk cr
           clear cr
           replace H := Option.bind_eq_some_iff.mp H
           obtain ⟨be, ct, H⟩ := H
           have de := Aside0.mk ct
           clear ct
           have H' := Aside0.mk H
           clear H
           try go_wp2
           have aP := Aside0.mk (blk_drew aa.out)
           have aQ := Aside0.mk (blk_drew ab.out)
           have aR := Aside0.mk (below_drew1 HB.out)
           clear aa
           clear ab
           clear HB
           have aa := aP
           have ab := aQ
           have HB := aR
           clear aP aQ aR
           have hlt30 : (aI < 4) = True := eq_true (of_decide_eq_true (by first | (with_reducible assumption) | assumption))
           have hge31 : (0 ≤ aI) = True := eq_true (of_decide_eq_true (by first | (with_reducible assumption) | assumption))
           have hlt34 : (aI < 4) = True := eq_true (of_decide_eq_true (by first | (with_reducible assumption) | assumption))
           have hge35 : (0 ≤ aI) = True := eq_true (of_decide_eq_true (by first | (with_reducible assumption) | assumption))
           refine start_ (n := 11) (S := fun w' => w'.cell? ⟨az, (aI).toNat, none⟩ = some (.int .u64 (rd ([ac, ad, ae, af] : List Int) aI))) (ds := [10]) z72_13_ (by kernel_rfl) rfl rfl ((sel_at (pre := []) (l := ([ac, ad, ae, af] : List Int)) (post := []) aa.out rfl (by simp) (of_decide_eq_true (by first | (with_reducible assumption) | assumption)) (of_decide_eq_true (by first | (with_reducible assumption) | assumption)))) (fun hL => ?_); refine with_tabW attestorref06_Round.tab10 attestorref06_Round.bits10 (fun T_ W_ => ?_)
           generalize wr.drew = bN at aa ab HB hL ⊢
           refine pz_ 0 44 z72_14_ ?_
           refine pz_ 1 45 z72_15_ ?_
           refine pz_ 2 46 z72_16_ ?_
           refine pz_ 3 47 z72_17_ ?_
           refine pz_ 5 49 z72_18_ ?_
           refine tz_ 4 48 z72_19_ ?_
           refine one_ (i := 6) (N := some 50) z72_20_ rfl rfl (on_ T_) (by decide) (fun K hK => ?_)
           refine goes_ Tryd.func76 (by kernel_rfl) rfl #[.int .i64 a0] (by rfl) rfl rfl (by (try simp only [List.map_toArray, List.map_cons, List.map_nil]); first | done | rfl | (go_simp; done)) ?_
           with_reducible refine (attestorref01_Exponent.calls k3 a0 bI _ dd.out).mono ?_
           rintro e w' ⟨rfl, ⟨nd, rfl⟩⟩
           refine ⟨_, rfl, ?_⟩
           (try (rw [drewN_self bN]; generalize q_ : World.drewN bN _ = bN; replace aa := ra_ q_ aa; replace ab := ra_ q_ ab; replace HB := rb_ q_ HB; clear q_))
           refine hK.out _ _ ((sel_at (pre := []) (l := ([ac, ad, ae, af] : List Int)) (post := []) aa.out rfl (by simp) (of_decide_eq_true (by first | (with_reducible assumption) | assumption)) (of_decide_eq_true (by first | (with_reducible assumption) | assumption)))) (fun hL => ?_)
           clear hK K
           refine norm_ (a' := ?_) ?_ ?_
           rotate_left
           ·show Act.put _ (some 50) _ = _
            simp only [Act.put, sa_, sb_, sc_, i64_w, i32_w]
            rfl
           refine pz_ 7 51 z72_21_ ?_
           refine one_ (i := 8) (N := some 52) z72_22_ rfl rfl (on_ T_) (by decide) (fun K hK => ?_)
           refine goes_ Tryd.func75 (by kernel_rfl) rfl #[.int .i64 a0, .int .u64 (rd ([ac, ad, ae, af] : List Int) aI), .int .u64 (IntKind.u64.wrap (bI))] (by rfl) rfl rfl (by (try simp only [List.map_toArray, List.map_cons, List.map_nil]); first | done | rfl | (go_simp; done)) ?_
           with_reducible refine (attestorref01_Pow.calls k3 a0 (rd ([ac, ad, ae, af] : List Int) aI) (IntKind.u64.wrap (bI)) be _ de.out).mono ?_
           rintro e w' ⟨rfl, ⟨nd, rfl⟩⟩
           refine ⟨_, rfl, ?_⟩
           (try (rw [drewN_self bN]; generalize q_ : World.drewN bN _ = bN; replace aa := ra_ q_ aa; replace ab := ra_ q_ ab; replace HB := rb_ q_ HB; clear q_))
           refine hK.out _ _ ((sel_at (pre := []) (l := ([ac, ad, ae, af] : List Int)) (post := []) aa.out rfl (by simp) (of_decide_eq_true (by first | (with_reducible assumption) | assumption)) (of_decide_eq_true (by first | (with_reducible assumption) | assumption)))) (fun hL => ?_)
           clear hK K
           refine norm_ (a' := ?_) ?_ ?_
           rotate_left
           ·show Act.put _ (some 52) _ = _
            simp only [Act.put, sa_, sb_, sc_, i64_w, i32_w]
            rfl
           refine pz_ 9 53 z72_23_ ?_
           refine last_ (i := 10) (N := none) z72_24_ rfl rfl (on_ T_) (by decide) (fun K hK => ?_)
           have hsv32 : bN.cell? ⟨az, (aI).toNat, none⟩ = some (.int .u64 (rd ([ac, ad, ae, af] : List Int) aI)) := (sel_at (pre := []) (l := ([ac, ad, ae, af] : List Int)) (post := []) aa.out rfl (by simp) (of_decide_eq_true (by first | (with_reducible assumption) | assumption)) (of_decide_eq_true (by first | (with_reducible assumption) | assumption)))
           have hfv33 := blk_frozen aa.out ((aI).toNat)
           have cD := aS.out
           have cE := bc.out
           refine skip_ (w1 := ?_) (by rfl) rfl ?_ ?_
           rotate_left
           ·go_simp
            rfl
           refine hK.out _ _ ?_
           clear hK K
           refine done_ (done_of T_.out (by kernel_rfl)) ?_
           try go_wp2
           go_roundg k3
           case measure => have := bz.out; have := bA.out; have := bU.out; omega
           case rel => exact ⟨(wrap64 (aI + 1)), ((updv ac 0 aI be)), ((updv ad 1 aI be)), ((updv ae 2 aI be)), ((updv af 3 aI be)), (by first | rfl | (simp; done) | (simp [*]; done) | (simp; rfl) | (simp; decide +kernel)), H', ⟨by have := bz.out; have := bA.out; have := bU.out; omega⟩, ⟨by refine sel_put (pre := []) (l := ([ac, ad, ae, af] : List Int)) (post := []) ?_ rfl rfl (by simp) (of_decide_eq_true (by first | (with_reducible assumption) | assumption)) (of_decide_eq_true (by first | (with_reducible assumption) | assumption)); exact aa.out⟩, ⟨by refine blk_far ?_ aS.out _; exact ab.out⟩, ⟨by repeat (first | (with_reducible first | exact HB.out | apply below_alloc | apply pw_below_drewN | apply below_drew1 | refine below_set ?_ ax.out | refine below_set ?_ aH.out) | exact HB.out)⟩⟩
          ·rw [if_neg bM] at H
           exact absurd H (by simp)
         ·rw [if_neg bC] at H
          have c25b0 : decide (aI < 4) = false := decide_eq_false bC
          clear bC
          have H' := Aside0.mk H
          clear H
          go_wp2_with (first | ((with_reducible refine gate_dst (N := 9) rfl ?_); refine box_event ?hg (N := 9) ?hd (cs := #[.int .u64 0, .int .u64 0, .int .u64 0, .int .u64 0]) (t := 80) ?hr ?_; (case hd => rfl); (case hg => rfl); (case hr => first | (go_simp; done) | (go_simp; rfl)); intro aO hg dD hbox hb; have aP := Aside0.mk (blk_below (g := az) (o := .cells #[.int .u64 ac, .int .u64 ad, .int .u64 ae, .int .u64 af] 80 (0, 0)) (by exact aa.out) hb); have aQ := Aside0.mk (blk_below (g := aw) (o := .cells #[.int .u64 0, .int .u64 0, .int .u64 0, .int .u64 0] 80 (0, 0)) (by exact ab.out) hb); have aR := Aside0.mk (below_step (by repeat (first | (with_reducible first | exact HB.out | apply below_alloc | apply pw_below_drewN | apply below_drew1 | refine below_set ?_ ax.out | refine below_set ?_ aH.out) | exact HB.out)) hb); have aW := Aside0.mk (hbox); have bi := Aside0.mk ((by rw [hg]; exact (below_size (by repeat (first | (with_reducible first | exact HB.out | apply below_alloc | apply pw_below_drewN | apply below_drew1 | refine below_set ?_ ax.out | refine below_set ?_ aH.out) | exact HB.out))) : w.heap.size ≤ aO)); have bw := Aside0.mk ((by rw [hg]; exact (below_size (by repeat (first | (with_reducible first | exact HB.out | apply below_alloc | apply pw_below_drewN | apply below_drew1 | refine below_set ?_ ax.out | refine below_set ?_ aH.out) | exact HB.out))) : w.heap.size ≤ aO)); have bx := Aside0.mk ((by rw [hg]; exact Nat.ne_of_lt (blk_lt (g := az) (o := .cells #[.int .u64 ac, .int .u64 ad, .int .u64 ae, .int .u64 af] 80 (0, 0)) (by exact aa.out)) : az ≠ aO)); have bY := Aside0.mk ((by rw [hg]; exact Nat.ne_of_gt (blk_lt (g := az) (o := .cells #[.int .u64 ac, .int .u64 ad, .int .u64 ae, .int .u64 af] 80 (0, 0)) (by exact aa.out)) : aO ≠ az)); have bZ := Aside0.mk ((by rw [hg]; exact Nat.ne_of_lt (blk_lt (g := aw) (o := .cells #[.int .u64 0, .int .u64 0, .int .u64 0, .int .u64 0] 80 (0, 0)) (by exact ab.out)) : aw ≠ aO)); have b0 := Aside0.mk ((by rw [hg]; exact Nat.ne_of_gt (blk_lt (g := aw) (o := .cells #[.int .u64 0, .int .u64 0, .int .u64 0, .int .u64 0] 80 (0, 0)) (by exact ab.out)) : aO ≠ aw)); clear aa; clear ab; clear HB; have aa := aP; have ab := aQ; have HB := aR; have ah := aW; have dn := bi; have a6 := bw; have bj := bx; have bD := bY; have bk := bZ; have bE := b0; clear aP aQ aR aW bi bw bx bY bZ b0; clear hb hbox hg))
          go_loopg [10] k3 (fun kq df w' => ∃ (ag : Int) (ao : Int) (av : Int) (ay : Int) (aG : Int), df = .int .i64 ag ∧ Aside0 (attestorref06_Round.l2 kq a0 ag ac ad ae af ao av ay aG = some (r1, r2, r3, r4)) ∧ Aside0 (kq ≤ k3) ∧ Aside0 (w'.heap[az]? = some (.cells #[.int .u64 ac, .int .u64 ad, .int .u64 ae, .int .u64 af] 80 (0, 0))) ∧ Aside0 (w'.heap[aw]? = some (.cells #[.int .u64 0, .int .u64 0, .int .u64 0, .int .u64 0] 80 (0, 0))) ∧ Aside0 (w'.heap[aO]? = some (.cells #[.int .u64 ao, .int .u64 av, .int .u64 ay, .int .u64 aG] 80 (0, 0))) ∧ Aside0 (Below w.heap.size w w'))
          case atStart => exact ⟨(0), (0), (0), (0), (0), (by first | rfl | (simp; done) | (simp [*]; done) | (simp; rfl) | (simp; decide +kernel)), H', ⟨Nat.le_refl _⟩, ⟨by exact aa.out⟩, ⟨by exact ab.out⟩, ⟨by exact ah.out⟩, ⟨by repeat (first | (with_reducible first | exact HB.out | apply below_alloc | apply pw_below_drewN | apply below_drew1 | refine below_set ?_ ax.out | refine below_set ?_ aH.out | refine below_set ?_ a6.out) | exact HB.out)⟩⟩
          case round =>
           clear H'
           try clear c1
           try clear c2
           try clear p2
           try clear c4
           try clear c6
           try clear p6
           try clear c7
           try clear c8
           try clear c9
           try clear c9b0
           try clear c10
           try clear co
           try clear bv
           try clear c13b0
           try clear bB
           try clear c14b0
           try clear c14b1
           try clear bC
           try clear c25b0
           try clear bM
           try clear c26b0
           try clear c26b1
           try clear bm
           try clear bn
           try clear bo
           try clear bp
           try clear bq
           try clear br
           try clear bs
           try clear bu
           try clear p2
           try clear p6
           obtain ⟨ag, ao, av, ay, aG, rfl, HA, b6, aa, ab, ah, HB⟩ := hrel
           cases gk with
           | zero => exact absurd HA.out (by simp [attestorref06_Round.l2])
           | succ k4 =>
            have H := HA.out
            clear HA
            simp only [attestorref06_Round.l2] at H
            by_cases bO : ag < 4
            ·rw [if_pos bO] at H
             have c38b0 : decide (ag < 4) = true := decide_eq_true bO
             clear bO
             replace H := Option.bind_eq_some_iff.mp H
             obtain ⟨⟨aV, aZ, bb, bg⟩, cu, H⟩ := H
             replace H : (attestorref06_Round.l3 k4 a0 ag 0 ac ad ae af ao av ay aG aV aZ bb bg) = some (r1, r2, r3, r4) := H
             have dg := Aside0.mk cu
             clear cu
             have H' := Aside0.mk H
             clear H
             go_wp2_with (first | ((with_reducible refine gate_callee (f := 77) rfl ?_); refine goesL_ (some 59) rfl rfl Tryd.func77 (by kernel_rfl) rfl #[.int .i64 ag] rfl (by (try simp only [List.map_toArray, List.map_cons, List.map_nil]); first | done | rfl | (go_simp; done)) ?_; (with_reducible refine (attestorref06_row.calls ag aV aZ bb bg _ dg.out).mono ?_); rintro e dE ⟨rfl, hb⟩; refine ⟨_, rfl, ?_⟩; have aP := Aside0.mk (blk_below (g := az) (o := .cells #[.int .u64 ac, .int .u64 ad, .int .u64 ae, .int .u64 af] 80 (0, 0)) (by exact aa.out) hb); have aQ := Aside0.mk (blk_below (g := aw) (o := .cells #[.int .u64 0, .int .u64 0, .int .u64 0, .int .u64 0] 80 (0, 0)) (by exact ab.out) hb); have aR := Aside0.mk (blk_below (g := aO) (o := .cells #[.int .u64 ao, .int .u64 av, .int .u64 ay, .int .u64 aG] 80 (0, 0)) (by exact ah.out) hb); have aW := Aside0.mk (below_step (by repeat (first | (with_reducible first | exact HB.out | apply below_alloc | apply pw_below_drewN | apply below_drew1 | refine below_set ?_ ax.out | refine below_set ?_ aH.out | refine below_set ?_ a6.out) | exact HB.out)) hb); clear aa; clear ab; clear ah; clear HB; have aa := aP; have ab := aQ; have ah := aR; have HB := aW; clear aP aQ aR aW; (try clear hb); (try clear hb2); (try clear hk); (try clear hi)) | ((with_reducible refine gate_dst (N := 11) rfl ?_); refine box_event ?hg (N := 11) ?hd (cs := #[.int .u64 0, .int .u64 0, .int .u64 0, .int .u64 0]) (t := 80) ?hr ?_; (case hd => rfl); (case hg => rfl); (case hr => first | (go_simp; done) | (go_simp; rfl)); intro aU hg b7 hbox hb; have aP := Aside0.mk (blk_below (g := az) (o := .cells #[.int .u64 ac, .int .u64 ad, .int .u64 ae, .int .u64 af] 80 (0, 0)) (by exact aa.out) hb); have aQ := Aside0.mk (blk_below (g := aw) (o := .cells #[.int .u64 0, .int .u64 0, .int .u64 0, .int .u64 0] 80 (0, 0)) (by exact ab.out) hb); have aR := Aside0.mk (blk_below (g := aO) (o := .cells #[.int .u64 ao, .int .u64 av, .int .u64 ay, .int .u64 aG] 80 (0, 0)) (by exact ah.out) hb); have aW := Aside0.mk (below_step (by repeat (first | (with_reducible first | exact HB.out | apply below_alloc | apply pw_below_drewN | apply below_drew1 | refine below_set ?_ ax.out | refine below_set ?_ aH.out | refine below_set ?_ a6.out) | exact HB.out)) hb); have bi := Aside0.mk (hbox); have bw := Aside0.mk ((by rw [hg]; exact (below_size (by repeat (first | (with_reducible first | exact HB.out | apply below_alloc | apply pw_below_drewN | apply below_drew1 | refine below_set ?_ ax.out | refine below_set ?_ aH.out | refine below_set ?_ a6.out) | exact HB.out))) : w.heap.size ≤ aU)); have bx := Aside0.mk ((by rw [hg]; exact (below_size (by repeat (first | (with_reducible first | exact HB.out | apply below_alloc | apply pw_below_drewN | apply below_drew1 | refine below_set ?_ ax.out | refine below_set ?_ aH.out | refine below_set ?_ a6.out) | exact HB.out))) : w.heap.size ≤ aU)); have bY := Aside0.mk ((by rw [hg]; exact Nat.ne_of_lt (blk_lt (g := az) (o := .cells #[.int .u64 ac, .int .u64 ad, .int .u64 ae, .int .u64 af] 80 (0, 0)) (by exact aa.out)) : az ≠ aU)); have bZ := Aside0.mk ((by rw [hg]; exact Nat.ne_of_gt (blk_lt (g := az) (o := .cells #[.int .u64 ac, .int .u64 ad, .int .u64 ae, .int .u64 af] 80 (0, 0)) (by exact aa.out)) : aU ≠ az)); have b0 := Aside0.mk ((by rw [hg]; exact Nat.ne_of_lt (blk_lt (g := aw) (o := .cells #[.int .u64 0, .int .u64 0, .int .u64 0, .int .u64 0] 80 (0, 0)) (by exact ab.out)) : aw ≠ aU)); have cv := Aside0.mk ((by rw [hg]; exact Nat.ne_of_gt (blk_lt (g := aw) (o := .cells #[.int .u64 0, .int .u64 0, .int .u64 0, .int .u64 0] 80 (0, 0)) (by exact ab.out)) : aU ≠ aw)); have cw := Aside0.mk ((by rw [hg]; exact Nat.ne_of_lt (blk_lt (g := aO) (o := .cells #[.int .u64 ao, .int .u64 av, .int .u64 ay, .int .u64 aG] 80 (0, 0)) (by exact ah.out)) : aO ≠ aU)); have cx := Aside0.mk ((by rw [hg]; exact Nat.ne_of_gt (blk_lt (g := aO) (o := .cells #[.int .u64 ao, .int .u64 av, .int .u64 ay, .int .u64 aG] 80 (0, 0)) (by exact ah.out)) : aU ≠ aO)); clear aa; clear ab; clear ah; clear HB; have aa := aP; have ab := aQ; have ah := aR; have HB := aW; have aJ := bi; have dp := bw; have bW := bx; have aX := bY; have b1 := bZ; have aY := b0; have b2 := cv; have aT := cw; have bl := cx; clear aP aQ aR aW bi bw bx bY bZ b0 cv cw cx; clear hb hbox hg; have dq := b1.out; have dr := aX.out; have dt := b2.out; have du := aY.out; have dv := bl.out; have dw := aT.out; have b9 : b7.cell? ⟨aU, 0, none⟩ = some (.int .u64 0) := bq_ aJ 0; have ca : b7.cell? ⟨aU, 1, none⟩ = some (.int .u64 0) := bq_ aJ 1; have cb : b7.cell? ⟨aU, 2, none⟩ = some (.int .u64 0) := bq_ aJ 2; have cc : b7.cell? ⟨aU, 3, none⟩ = some (.int .u64 0) := bq_ aJ 3; have cd := blk_frozen aJ.out 0; have ce := blk_frozen aJ.out 1; have cf := blk_frozen aJ.out 2; have cg := blk_frozen aJ.out 3))
             go_loopg [12] k4 (fun kq v12 w' => ∃ (aE : Int) (ap : Int) (aq : Int) (ar : Int) (au : Int), v12 = .int .i64 aE ∧ Aside0 (attestorref06_Round.l3 kq a0 ag aE ac ad ae af ap aq ar au aV aZ bb bg = some (r1, r2, r3, r4)) ∧ Aside0 (kq ≤ k4) ∧ Aside0 (w'.heap[az]? = some (.cells #[.int .u64 ac, .int .u64 ad, .int .u64 ae, .int .u64 af] 80 (0, 0))) ∧ Aside0 (w'.heap[aw]? = some (.cells #[.int .u64 0, .int .u64 0, .int .u64 0, .int .u64 0] 80 (0, 0))) ∧ Aside0 (w'.heap[aO]? = some (.cells #[.int .u64 ap, .int .u64 aq, .int .u64 ar, .int .u64 au] 80 (0, 0))) ∧ Aside0 (w'.heap[aU]? = some (.cells #[.int .u64 aV, .int .u64 aZ, .int .u64 bb, .int .u64 bg] 80 (0, 0))) ∧ Aside0 (Below w.heap.size w w'))
             case atStart => exact ⟨(0), (ao), (av), (ay), (aG), (by first | rfl | (simp; done) | (simp [*]; done) | (simp; rfl) | (simp; decide +kernel)), H', ⟨Nat.le_refl _⟩, ⟨by refine blk_far ?_ aX.out _; refine blk_far ?_ aX.out _; refine blk_far ?_ aX.out _; refine blk_far ?_ aX.out _; exact aa.out⟩, ⟨by refine blk_far ?_ aY.out _; refine blk_far ?_ aY.out _; refine blk_far ?_ aY.out _; refine blk_far ?_ aY.out _; exact ab.out⟩, ⟨by refine blk_far ?_ aT.out _; refine blk_far ?_ aT.out _; refine blk_far ?_ aT.out _; refine blk_far ?_ aT.out _; exact ah.out⟩, ⟨by refine blk_put (cs := #[.int .u64 aV, .int .u64 aZ, .int .u64 bb, .int .u64 0]) ?_ 3 _ rfl; refine blk_put (cs := #[.int .u64 aV, .int .u64 aZ, .int .u64 0, .int .u64 0]) ?_ 2 _ rfl; refine blk_put (cs := #[.int .u64 aV, .int .u64 0, .int .u64 0, .int .u64 0]) ?_ 1 _ rfl; refine blk_put (cs := #[.int .u64 0, .int .u64 0, .int .u64 0, .int .u64 0]) ?_ 0 _ rfl; exact aJ.out⟩, ⟨by repeat (first | (with_reducible first | exact HB.out | apply below_alloc | apply pw_below_drewN | apply below_drew1 | refine below_set ?_ ax.out | refine below_set ?_ aH.out | refine below_set ?_ a6.out | refine below_set ?_ bW.out) | exact HB.out)⟩⟩
             case round =>
              clear H'
              try clear c1
              try clear c2
              try clear p2
              try clear c3
              try clear c4
              try clear c6
              try clear p6
              try clear c7
              try clear c8
              try clear c9
              try clear c9b0
              try clear c10
              try clear co
              try clear bv
              try clear c13b0
              try clear bB
              try clear c14b0
              try clear c14b1
              try clear bC
              try clear c25b0
              try clear bM
              try clear c26b0
              try clear c26b1
              try clear bO
              try clear c38b0
              try clear dF
              try clear dG
              try clear dH
              try clear bm
              try clear bn
              try clear bo
              try clear bp
              try clear b9
              try clear ca
              try clear cb
              try clear cc
              try clear bq
              try clear br
              try clear bs
              try clear bu
              try clear cd
              try clear ce
              try clear cf
              try clear cg
              try clear p2
              try clear p6
              obtain ⟨aE, ap, aq, ar, au, rfl, HA, b8, aa, ab, ah, aJ, HB⟩ := hrel
              cases gk with
              | zero => exact absurd HA.out (by simp [attestorref06_Round.l3])
              | succ k5 =>
               have H := HA.out
               clear HA
               simp only [attestorref06_Round.l3] at H
               by_cases bV : aE < 4
               ·rw [if_pos bV] at H
                have c46b0 : decide (aE < 4) = true := decide_eq_true bV
                clear bV
                by_cases b3 : 0 ≤ ag
                ·rw [if_pos b3] at H
                 have c47b0 := eq_true b3
                 have c47b1 : decide (0 ≤ ag) = true := decide_eq_true b3
                 clear b3
                 by_cases b4 : ag < 4
                 ·rw [if_pos b4] at H
                  have c48b0 := eq_true b4
                  have c48b1 : decide (ag < 4) = true := decide_eq_true b4
                  clear b4
                  by_cases b5 : 0 ≤ aE
                  ·rw [if_pos b5] at H
                   have c49b0 := eq_true b5
                   have c49b1 : decide (0 ≤ aE) = true := decide_eq_true b5
                   clear b5
                   replace H := Option.bind_eq_some_iff.mp H
                   obtain ⟨bJ, cy, H⟩ := H
                   have dh := Aside0.mk cy
                   clear cy
                   replace H := Option.bind_eq_some_iff.mp H
                   obtain ⟨bf, cz, H⟩ := H
                   have di := Aside0.mk cz
                   clear cz
                   have H' := Aside0.mk H
                   clear H
                   try go_wp2
                   have aP := Aside0.mk (blk_drew aa.out)
                   have aQ := Aside0.mk (blk_drew ab.out)
                   have aR := Aside0.mk (blk_drew ah.out)
                   have aW := Aside0.mk (blk_drew aJ.out)
                   have bi := Aside0.mk (below_drew1 HB.out)
                   clear aa
                   clear ab
                   clear ah
                   clear aJ
                   clear HB
                   have aa := aP
                   have ab := aQ
                   have ah := aR
                   have aJ := aW
                   have HB := bi
                   clear aP aQ aR aW bi
                   have hlt53 : (ag < 4) = True := eq_true (of_decide_eq_true (by first | (with_reducible assumption) | assumption))
                   have hge54 : (0 ≤ ag) = True := eq_true (of_decide_eq_true (by first | (with_reducible assumption) | assumption))
                   have hlt55 : (aE < 4) = True := eq_true (of_decide_eq_true (by first | (with_reducible assumption) | assumption))
                   have hge56 : (0 ≤ aE) = True := eq_true (of_decide_eq_true (by first | (with_reducible assumption) | assumption))
                   have hlt57 : (aE < 4) = True := eq_true (of_decide_eq_true (by first | (with_reducible assumption) | assumption))
                   have hge58 : (0 ≤ aE) = True := eq_true (of_decide_eq_true (by first | (with_reducible assumption) | assumption))
                   have hlt61 : (ag < 4) = True := eq_true (of_decide_eq_true (by first | (with_reducible assumption) | assumption))
                   have hge62 : (0 ≤ ag) = True := eq_true (of_decide_eq_true (by first | (with_reducible assumption) | assumption))
                   refine start_ (n := 16) (S := fun w' => w'.cell? ⟨aO, (ag).toNat, none⟩ = some (.int .u64 (rd ([ap, aq, ar, au] : List Int) ag)) ∧ w'.cell? ⟨aU, (aE).toNat, none⟩ = some (.int .u64 (rd ([aV, aZ, bb, bg] : List Int) aE)) ∧ w'.cell? ⟨az, (aE).toNat, none⟩ = some (.int .u64 (rd ([ac, ad, ae, af] : List Int) aE))) (ds := [15]) z72_25_ (by kernel_rfl) rfl rfl ⟨(sel_at (pre := []) (l := ([ap, aq, ar, au] : List Int)) (post := []) ah.out rfl (by simp) (of_decide_eq_true (by first | (with_reducible assumption) | assumption)) (of_decide_eq_true (by first | (with_reducible assumption) | assumption))), (sel_at (pre := []) (l := ([aV, aZ, bb, bg] : List Int)) (post := []) aJ.out rfl (by simp) (of_decide_eq_true (by first | (with_reducible assumption) | assumption)) (of_decide_eq_true (by first | (with_reducible assumption) | assumption))), (sel_at (pre := []) (l := ([ac, ad, ae, af] : List Int)) (post := []) aa.out rfl (by simp) (of_decide_eq_true (by first | (with_reducible assumption) | assumption)) (of_decide_eq_true (by first | (with_reducible assumption) | assumption)))⟩ (fun hL => ?_); refine with_tabW attestorref06_Round.tab19 attestorref06_Round.bits19 (fun T_ W_ => ?_)
                   generalize wr.drew = bP at aa ab ah aJ HB hL ⊢
                   refine pz_ 0 64 z72_26_ ?_
                   refine pz_ 1 65 z72_27_ ?_
                   refine pz_ 2 66 z72_28_ ?_
                   refine pz_ 3 67 z72_29_ ?_
                   refine pz_ 5 69 z72_30_ ?_
                   refine pz_ 6 70 z72_31_ ?_
                   refine pz_ 7 71 z72_32_ ?_
                   refine pz_ 9 73 z72_33_ ?_
                   refine pz_ 10 74 z72_34_ ?_
                   refine tz_ 4 68 z72_35_ ?_
                   refine tz_ 8 72 z72_36_ ?_
                   refine tz_ 11 75 z72_37_ ?_
                   refine one_ (i := 12) (N := some 76) z72_38_ rfl rfl (on_ T_) (by decide) (fun K hK => ?_)
                   refine goes_ Tryd.func78 (by kernel_rfl) rfl #[.int .i64 a0, .int .u64 (rd ([aV, aZ, bb, bg] : List Int) aE), .int .u64 (rd ([ac, ad, ae, af] : List Int) aE)] (by rfl) rfl rfl (by (try simp only [List.map_toArray, List.map_cons, List.map_nil]); first | done | rfl | (go_simp; done)) ?_
                   with_reducible refine (attestorref01_Mul.calls a0 (rd ([aV, aZ, bb, bg] : List Int) aE) (rd ([ac, ad, ae, af] : List Int) aE) bJ _ dh.out).mono ?_
                   rintro e w' ⟨rfl, ⟨nd, rfl⟩⟩
                   refine ⟨_, rfl, ?_⟩
                   (try (rw [drewN_self bP]; generalize q_ : World.drewN bP _ = bP; replace aa := ra_ q_ aa; replace ab := ra_ q_ ab; replace ah := ra_ q_ ah; replace aJ := ra_ q_ aJ; replace HB := rb_ q_ HB; clear q_))
                   refine hK.out _ _ ⟨(sel_at (pre := []) (l := ([ap, aq, ar, au] : List Int)) (post := []) ah.out rfl (by simp) (of_decide_eq_true (by first | (with_reducible assumption) | assumption)) (of_decide_eq_true (by first | (with_reducible assumption) | assumption))), (sel_at (pre := []) (l := ([aV, aZ, bb, bg] : List Int)) (post := []) aJ.out rfl (by simp) (of_decide_eq_true (by first | (with_reducible assumption) | assumption)) (of_decide_eq_true (by first | (with_reducible assumption) | assumption))), (sel_at (pre := []) (l := ([ac, ad, ae, af] : List Int)) (post := []) aa.out rfl (by simp) (of_decide_eq_true (by first | (with_reducible assumption) | assumption)) (of_decide_eq_true (by first | (with_reducible assumption) | assumption)))⟩ (fun hL => ?_)
                   clear hK K
                   refine norm_ (a' := ?_) ?_ ?_
                   rotate_left
                   ·show Act.put _ (some 76) _ = _
                    simp only [Act.put, sa_, sb_, sc_, i64_w, i32_w]
                    rfl
                   refine one_ (i := 13) (N := some 77) z72_39_ rfl rfl (on_ T_) (by decide) (fun K hK => ?_)
                   refine goes_ Tryd.func63 (by kernel_rfl) rfl #[.int .i64 a0, .int .u64 (rd ([ap, aq, ar, au] : List Int) ag), .int .u64 bJ] (by rfl) rfl rfl (by (try simp only [List.map_toArray, List.map_cons, List.map_nil]); first | done | rfl | (go_simp; done)) ?_
                   with_reducible refine (attestorref01_Add.calls a0 (rd ([ap, aq, ar, au] : List Int) ag) bJ bf _ di.out).mono ?_
                   rintro e w' ⟨rfl, ⟨nd, rfl⟩⟩
                   refine ⟨_, rfl, ?_⟩
                   (try (rw [drewN_self bP]; generalize q_ : World.drewN bP _ = bP; replace aa := ra_ q_ aa; replace ab := ra_ q_ ab; replace ah := ra_ q_ ah; replace aJ := ra_ q_ aJ; replace HB := rb_ q_ HB; clear q_))
                   refine hK.out _ _ ⟨(sel_at (pre := []) (l := ([ap, aq, ar, au] : List Int)) (post := []) ah.out rfl (by simp) (of_decide_eq_true (by first | (with_reducible assumption) | assumption)) (of_decide_eq_true (by first | (with_reducible assumption) | assumption))), (sel_at (pre := []) (l := ([aV, aZ, bb, bg] : List Int)) (post := []) aJ.out rfl (by simp) (of_decide_eq_true (by first | (with_reducible assumption) | assumption)) (of_decide_eq_true (by first | (with_reducible assumption) | assumption))), (sel_at (pre := []) (l := ([ac, ad, ae, af] : List Int)) (post := []) aa.out rfl (by simp) (of_decide_eq_true (by first | (with_reducible assumption) | assumption)) (of_decide_eq_true (by first | (with_reducible assumption) | assumption)))⟩ (fun hL => ?_)
                   clear hK K
                   refine norm_ (a' := ?_) ?_ ?_
                   rotate_left
                   ·show Act.put _ (some 77) _ = _
                    simp only [Act.put, sa_, sb_, sc_, i64_w, i32_w]
                    rfl
                   refine pz_ 14 78 z72_40_ ?_
                   refine last_ (i := 15) (N := none) z72_41_ rfl rfl (on_ T_) (by decide) (fun K hK => ?_)
                   have hsv59 : bP.cell? ⟨aO, (ag).toNat, none⟩ = some (.int .u64 (rd ([ap, aq, ar, au] : List Int) ag)) := (sel_at (pre := []) (l := ([ap, aq, ar, au] : List Int)) (post := []) ah.out rfl (by simp) (of_decide_eq_true (by first | (with_reducible assumption) | assumption)) (of_decide_eq_true (by first | (with_reducible assumption) | assumption)))
                   have hfv60 := blk_frozen ah.out ((ag).toNat)
                   have cF := bj.out
                   have cG := bk.out
                   have cH := bl.out
                   have cI := bD.out
                   have cJ := bE.out
                   have cK := aT.out
                   refine skip_ (w1 := ?_) (by rfl) rfl ?_ ?_
                   rotate_left
                   ·go_simp
                    rfl
                   refine hK.out _ _ ?_
                   clear hK K
                   refine done_ (done_of T_.out (by kernel_rfl)) ?_
                   try go_wp2
                   go_roundg k5
                   case measure => have := bz.out; have := bA.out; have := bU.out; have := b6.out; have := b8.out; omega
                   case rel => exact ⟨(wrap64 (aE + 1)), ((updv ap 0 ag bf)), ((updv aq 1 ag bf)), ((updv ar 2 ag bf)), ((updv au 3 ag bf)), (by first | rfl | (simp; done) | (simp [*]; done) | (simp; rfl) | (simp; decide +kernel)), H', ⟨by have := bz.out; have := bA.out; have := bU.out; have := b6.out; have := b8.out; omega⟩, ⟨by refine blk_far ?_ bj.out _; exact aa.out⟩, ⟨by refine blk_far ?_ bk.out _; exact ab.out⟩, ⟨by refine sel_put (pre := []) (l := ([ap, aq, ar, au] : List Int)) (post := []) ?_ rfl rfl (by simp) (of_decide_eq_true (by first | (with_reducible assumption) | assumption)) (of_decide_eq_true (by first | (with_reducible assumption) | assumption)); exact ah.out⟩, ⟨by refine blk_far ?_ bl.out _; exact aJ.out⟩, ⟨by repeat (first | (with_reducible first | exact HB.out | apply below_alloc | apply pw_below_drewN | apply below_drew1 | refine below_set ?_ ax.out | refine below_set ?_ aH.out | refine below_set ?_ a6.out | refine below_set ?_ bW.out) | exact HB.out)⟩⟩
                  ·rw [if_neg b5] at H
                   exact absurd H (by simp)
                 ·rw [if_neg b4] at H
                  exact absurd H (by simp)
                ·rw [if_neg b3] at H
                 exact absurd H (by simp)
               ·rw [if_neg bV] at H
                have c46b0 : decide (aE < 4) = false := decide_eq_false bV
                clear bV
                have H' := Aside0.mk H
                clear H
                go_wp2
                go_roundg k5
                case measure => have := bz.out; have := bA.out; have := bU.out; have := b6.out; have := b8.out; omega
                case rel => exact ⟨(wrap64 (ag + 1)), (ap), (aq), (ar), (au), (by first | rfl | (simp; done) | (simp [*]; done) | (simp; rfl) | (simp; decide +kernel)), H', ⟨by have := bz.out; have := bA.out; have := bU.out; have := b6.out; have := b8.out; omega⟩, ⟨by exact aa.out⟩, ⟨by exact ab.out⟩, ⟨by exact ah.out⟩, ⟨by repeat (first | (with_reducible first | exact HB.out | apply below_alloc | apply pw_below_drewN | apply below_drew1 | refine below_set ?_ ax.out | refine below_set ?_ aH.out | refine below_set ?_ a6.out | refine below_set ?_ bW.out) | exact HB.out)⟩⟩
            ·rw [if_neg bO] at H
             have c38b0 : decide (ag < 4) = false := decide_eq_false bO
             clear bO
             simp only [Option.some.injEq, Prod.mk.injEq] at H
             obtain ⟨rfl, rfl, rfl, rfl⟩ := H
             have dx := bD.out
             have dy := bj.out
             have dz := bE.out
             have dA := bk.out
             have cL : wr.cell? ⟨aO, 0, none⟩ = some (.int .u64 ao) := bq_ ah 0
             have cM : wr.cell? ⟨aO, 1, none⟩ = some (.int .u64 av) := bq_ ah 1
             have cN : wr.cell? ⟨aO, 2, none⟩ = some (.int .u64 ay) := bq_ ah 2
             have cO : wr.cell? ⟨aO, 3, none⟩ = some (.int .u64 aG) := bq_ ah 3
             have cP := blk_frozen ah.out 0
             have cQ := blk_frozen ah.out 1
             have cR := blk_frozen ah.out 2
             have cS := blk_frozen ah.out 3
             have dB := aS.out
             have dC := bc.out
             have cT : wr.cell? ⟨aw, 0, none⟩ = some (.int .u64 0) := bq_ ab 0
             have cU : wr.cell? ⟨aw, 1, none⟩ = some (.int .u64 0) := bq_ ab 1
             have cV : wr.cell? ⟨aw, 2, none⟩ = some (.int .u64 0) := bq_ ab 2
             have cW : wr.cell? ⟨aw, 3, none⟩ = some (.int .u64 0) := bq_ ab 3
             have cX := blk_frozen ab.out 0
             have cY := blk_frozen ab.out 1
             have cZ := blk_frozen ab.out 2
             have c0 := blk_frozen ab.out 3
             go_wp2
             refine bodyPost_ret (results_cell_row rfl _ _ aw 80 #[.int .u64 ao, .int .u64 av, .int .u64 ay, .int .u64 aG] (0, 0) _ rfl (by refine blk_put (cs := #[.int .u64 ao, .int .u64 av, .int .u64 ay, .int .u64 0]) ?_ 3 _ rfl; refine blk_put (cs := #[.int .u64 ao, .int .u64 av, .int .u64 0, .int .u64 0]) ?_ 2 _ rfl; refine blk_put (cs := #[.int .u64 ao, .int .u64 0, .int .u64 0, .int .u64 0]) ?_ 1 _ rfl; refine blk_put (cs := #[.int .u64 0, .int .u64 0, .int .u64 0, .int .u64 0]) ?_ 0 _ rfl; exact ab.out) Tryd.underlying80 rfl (by kernel_rfl)) rfl ?_
             exact ⟨by first | rfl | (simp [errW_none, errW_some] <;> rfl) | (simp [*, errW_none, errW_some] <;> rfl), by repeat (first | (with_reducible first | exact HB.out | apply below_alloc | apply pw_below_drewN | apply below_drew1 | refine below_set ?_ ax.out | refine below_set ?_ aH.out | refine below_set ?_ a6.out) | exact HB.out)⟩

end Go.Proofs.YtpnpmeogffodgaaDoor.Q
end
section
namespace Go.Proofs.YtpnpmeogffodgaaDoor.Q
open Go.RowKit Go.Proofs.YtpnpmeogffodgaaDoorW.PrintWords Go.Proofs.YtpnpmeogffodgaaDoorW.PrintLast Go.Proofs.YtpnpmeogffodgaaDoorW.PrintMore
attribute [local go_sem] max2_int min2_int max_two min_two max_three min_three max_four min_four run_store_fnV run_store_fnc run_store_nfn   -- for this text's walks alone
set_option linter.unusedVariables false
set_option linter.unusedSimpArgs false

/-! ### attestorref06_Perm: function 62 -/
def attestorref06_Perm.l0 : Nat → Int → Int → Int → Int → Int → Int → Option (Int × Int × Int × Int)
  | 0, _, _, _, _, _, _ => none
  | k + 1, x0, x5, aD, aE, aF, aG => if x5 < 8 then ((attestorref06_Round.f k x0 x5 aD aE aF aG).bind fun ay => (attestorref06_Perm.l0 k x0 (wrap64 (x5 + 1)) ay.1 ay.2.1 ay.2.2.1 ay.2.2.2)) else (some (aD, aE, aF, aG))
def attestorref06_Perm.f (k : Nat) (a0 : Int) (am : Int) (ao : Int) (ap : Int) (aq : Int) : Option (Int × Int × Int × Int) := (attestorref01_Valid.f a0).bind fun aB => (if aB = true then (attestorref06_Perm.l0 k a0 0 am ao ap aq) else (some (0, 0, 0, 0)))
theorem attestorref06_Perm.mono_l : ∀ k, (∀ y0 y1 y2 y3 y4 y5, LeO (attestorref06_Perm.l0 k y0 y1 y2 y3 y4 y5) (attestorref06_Perm.l0 (k + 1) y0 y1 y2 y3 y4 y5))
  | 0 => fun _ _ _ _ _ _ r h => by simp [attestorref06_Perm.l0] at h
  | k + 1 => by
    have ih0 := attestorref06_Perm.mono_l k
    · intro y0 y1 y2 y3 y4 y5
      unfold attestorref06_Perm.l0
      repeat' first
      | (with_reducible exact ih0 _ _ _ _ _ _)
      | (with_reducible exact attestorref06_Round.mono _ _ _ _ _ _ _)
      | (with_reducible exact LeO.refl _)
      | (with_reducible exact LeO.none _)
      | (with_reducible refine LeO.ite ?_ ?_)
      | (with_reducible refine LeO.bind ?_ (fun _ => ?_))
      | exact ih0 _ _ _ _ _ _
      | exact attestorref06_Round.mono _ _ _ _ _ _ _
      | exact LeO.none _
      | refine LeO.ite ?_ ?_
      | refine LeO.bind ?_ (fun _ => ?_)
theorem attestorref06_Perm.mono : ∀ a0 a1 a2 a3 a4 k, LeO (attestorref06_Perm.f k a0 a1 a2 a3 a4) (attestorref06_Perm.f (k + 1) a0 a1 a2 a3 a4) := by
  intro a0 a1 a2 a3 a4 k
  have ih0 := attestorref06_Perm.mono_l k
  unfold attestorref06_Perm.f
  repeat' first
      | (with_reducible exact ih0 _ _ _ _ _ _)
      | (with_reducible exact attestorref06_Round.mono _ _ _ _ _ _ _)
      | (with_reducible exact LeO.refl _)
      | (with_reducible exact LeO.none _)
      | (with_reducible refine LeO.ite ?_ ?_)
      | (with_reducible refine LeO.bind ?_ (fun _ => ?_))
      | exact ih0 _ _ _ _ _ _
      | exact attestorref06_Round.mono _ _ _ _ _ _ _
      | exact LeO.none _
      | refine LeO.ite ?_ ?_
      | refine LeO.bind ?_ (fun _ => ?_)
set_option maxHeartbeats 8000000 in
set_option maxRecDepth 100000 in
theorem attestorref06_Perm.calls (k : Nat) (a0 : Int) (am : Int) (ao : Int) (ap : Int) (aq : Int) (r1 : Int) (r2 : Int) (r3 : Int) (r4 : Int) (w : World) (h : attestorref06_Perm.f k a0 am ao ap aq = some (r1, r2, r3, r4)) :
  Calls Tryd.prog 62 #[.int .i64 a0, .agg #[.int .u64 am, .int .u64 ao, .int .u64 ap, .int .u64 aq]] w fun e w' => e = .returned (.agg #[.int .u64 r1, .int .u64 r2, .int .u64 r3, .int .u64 r4]) ∧ Below w.heap.size w w' := by
 have hu80 := Tryd.underlying80
 have HB := aj (Below.refl w.heap.size w)
 have H : ((attestorref01_Valid.f a0).bind fun aB => (if aB = true then (attestorref06_Perm.l0 k a0 0 am ao ap aq) else (some (0, 0, 0, 0)))) = some (r1, r2, r3, r4) := h
 clear h
 replace H := Option.bind_eq_some_iff.mp H
 obtain ⟨aB, aO, H⟩ := H
 have A3 := aj aO
 clear aO
 by_cases c4 : aB = true
 ·subst c4
  have H1 : (attestorref06_Perm.l0 k a0 0 am ao ap aq) = some (r1, r2, r3, r4) := by rw [if_pos rfl] at H; exact H
  clear H
  have H := H1
  clear H1
  have H' := aj H
  clear H
  go_enter Tryd.func62, Tryd.ntmps62
  go_wp2_with (first | ((with_reducible refine gate_dst (N := 3) rfl ?_); refine box_event ?hg (N := 3) ?hd (cs := #[.int .u64 am, .int .u64 ao, .int .u64 ap, .int .u64 aq]) (t := 80) ?hr ?_; (case hd => rfl); (case hg => rfl); (case hr => first | (go_simp; done) | (go_simp; rfl)); intro ag hg w5 hbox hb; have ak := aj (below_step HB.out hb); have al := aj (hbox); have aI := aj ((by rw [hg]; exact (below_size HB.out) : w.heap.size ≤ ag)); clear HB; have HB := ak; have aa := al; have az := aI; clear ak al aI; clear hb hbox hg) | ((with_reducible refine gate_dst (N := 4) rfl ?_); refine box_event ?hg (N := 4) ?hd (cs := #[.int .u64 0, .int .u64 0, .int .u64 0, .int .u64 0]) (t := 80) ?hr ?_; (case hd => rfl); (case hg => rfl); (case hr => first | (go_simp; done) | (go_simp; rfl)); intro ah hg w6 hbox hb; have ak := aj (blk_below aa.out hb); have al := aj (below_step HB.out hb); have au := aj (hbox); have aJ := aj ((by rw [hg]; exact (below_size HB.out) : w.heap.size ≤ ah)); have aK := aj ((by rw [hg]; exact Nat.ne_of_lt (blk_lt aa.out) : ag ≠ ah)); have aL := aj ((by rw [hg]; exact Nat.ne_of_gt (blk_lt aa.out) : ah ≠ ag)); clear aa; clear HB; have aa := ak; have HB := al; have af := au; have aA := aJ; have ax := aK; have ai := aL; clear ak al au aJ aK aL; clear hb hbox hg) | ((with_reducible refine gate_callee (f := 42) rfl ?_); refine goesL_ (some 7) rfl rfl Tryd.func42 (by kernel_rfl) rfl #[.int .i64 a0] rfl (by (try simp only [List.map_toArray, List.map_cons, List.map_nil]); first | done | rfl | (go_simp; done)) ?_; (with_reducible refine (attestorref01_Valid.calls a0 true _ A3.out).mono ?_); rintro e w' ⟨rfl, ⟨nd, rfl⟩⟩; refine ⟨_, rfl, ?_⟩))
  go_loopg [5] k (fun kq v5 w' => ∃ (ar : Int) (ab : Int) (ac : Int) (ad : Int) (ae : Int), v5 = .int .i64 ar ∧ Aside0 (attestorref06_Perm.l0 kq a0 ar ab ac ad ae = some (r1, r2, r3, r4)) ∧ Aside0 (kq ≤ k) ∧ Aside0 (w'.heap[ag]? = some (.cells #[.int .u64 ab, .int .u64 ac, .int .u64 ad, .int .u64 ae] 80 (0, 0))) ∧ Aside0 (w'.heap[ah]? = some (.cells #[.int .u64 0, .int .u64 0, .int .u64 0, .int .u64 0] 80 (0, 0))) ∧ Aside0 (Below w.heap.size w w'))
  case atStart => exact ⟨(0), (am), (ao), (ap), (aq), (by first | rfl | simp), H', ⟨Nat.le_refl _⟩, ⟨by exact aa.out⟩, ⟨by exact af.out⟩, ⟨(by first | exact HB.out | exact below_drew1 HB.out | exact pw_below_drewN HB.out _)⟩⟩
  case round =>
   clear H'
   obtain ⟨ar, ab, ac, ad, ae, rfl, HA, aP, aa, af, HB⟩ := hrel
   cases gk with
   | zero => exact absurd HA.out (by simp [attestorref06_Perm.l0])
   | succ k1 =>
    have H := HA.out
    clear HA
    simp only [attestorref06_Perm.l0] at H
    by_cases c7 : ar < 8
    ·rw [if_pos c7] at H
     have c7b0 : decide (ar < 8) = true := decide_eq_true c7
     clear c7
     replace H := Option.bind_eq_some_iff.mp H
     obtain ⟨⟨aw, aC, aH, aM⟩, aQ, H⟩ := H
     replace H : (attestorref06_Perm.l0 k1 a0 (wrap64 (ar + 1)) aw aC aH aM) = some (r1, r2, r3, r4) := H
     have A8 := aj aQ
     clear aQ
     have H' := aj H
     clear H
     have aR : wr.cell? ⟨ag, 0, none⟩ = some (.int .u64 ab) := bq_ aa 0
     have aS : wr.cell? ⟨ag, 1, none⟩ = some (.int .u64 ac) := bq_ aa 1
     have aT : wr.cell? ⟨ag, 2, none⟩ = some (.int .u64 ad) := bq_ aa 2
     have aU : wr.cell? ⟨ag, 3, none⟩ = some (.int .u64 ae) := bq_ aa 3
     have aV := blk_frozen aa.out 0
     have aW := blk_frozen aa.out 1
     have aX := blk_frozen aa.out 2
     have aY := blk_frozen aa.out 3
     go_wp2_with (first | ((with_reducible refine gate_callee (f := 72) rfl ?_); refine goesL_ (some 17) rfl rfl Tryd.func72 (by kernel_rfl) rfl #[.int .i64 a0, .int .i64 ar, .agg #[.int .u64 ab, .int .u64 ac, .int .u64 ad, .int .u64 ae]] rfl (by (try simp only [List.map_toArray, List.map_cons, List.map_nil]); first | done | rfl | (go_simp; done)) ?_; (with_reducible refine (attestorref06_Round.calls k1 a0 ar ab ac ad ae aw aC aH aM _ A8.out).mono ?_); rintro e aN ⟨rfl, hb⟩; refine ⟨_, rfl, ?_⟩; have ak := aj (blk_below aa.out hb); have al := aj (blk_below af.out hb); have au := aj (below_step HB.out hb); clear aa; clear af; clear HB; have aa := ak; have af := al; have HB := au; clear ak al au; (try clear hb); (try clear hb2); (try clear hk); (try clear hi); have aZ : aN.cell? ⟨ag, 0, none⟩ = some (.int .u64 ab) := bq_ aa 0; have a5 : aN.cell? ⟨ag, 1, none⟩ = some (.int .u64 ac) := bq_ aa 1; have a6 : aN.cell? ⟨ag, 2, none⟩ = some (.int .u64 ad) := bq_ aa 2; have a7 : aN.cell? ⟨ag, 3, none⟩ = some (.int .u64 ae) := bq_ aa 3; have a8 := blk_frozen aa.out 0; have a9 := blk_frozen aa.out 1; have ba := blk_frozen aa.out 2; have bb := blk_frozen aa.out 3))
     go_roundg k1
     case measure => have := aP.out; omega
     case rel => exact ⟨(wrap64 (ar + 1)), (aw), (aC), (aH), (aM), (by first | rfl | simp), H', ⟨by have := aP.out; omega⟩, ⟨by refine blk_put (cs := #[.int .u64 aw, .int .u64 aC, .int .u64 aH, .int .u64 ae]) ?_ 3 _ rfl; refine blk_put (cs := #[.int .u64 aw, .int .u64 aC, .int .u64 ad, .int .u64 ae]) ?_ 2 _ rfl; refine blk_put (cs := #[.int .u64 aw, .int .u64 ac, .int .u64 ad, .int .u64 ae]) ?_ 1 _ rfl; refine blk_put (cs := #[.int .u64 ab, .int .u64 ac, .int .u64 ad, .int .u64 ae]) ?_ 0 _ rfl; exact aa.out⟩, ⟨by refine blk_far ?_ ai.out _; refine blk_far ?_ ai.out _; refine blk_far ?_ ai.out _; refine blk_far ?_ ai.out _; exact af.out⟩, ⟨by repeat (first | (with_reducible first | exact HB.out | apply below_alloc | apply pw_below_drewN | apply below_drew1 | refine below_set ?_ az.out | refine below_set ?_ aA.out) | exact HB.out)⟩⟩
    ·rw [if_neg c7] at H
     have c7b0 : decide (ar < 8) = false := decide_eq_false c7
     clear c7
     simp only [Option.some.injEq, Prod.mk.injEq] at H
     obtain ⟨rfl, rfl, rfl, rfl⟩ := H
     have bc : wr.cell? ⟨ag, 0, none⟩ = some (.int .u64 ab) := bq_ aa 0
     have bd : wr.cell? ⟨ag, 1, none⟩ = some (.int .u64 ac) := bq_ aa 1
     have be : wr.cell? ⟨ag, 2, none⟩ = some (.int .u64 ad) := bq_ aa 2
     have bf : wr.cell? ⟨ag, 3, none⟩ = some (.int .u64 ae) := bq_ aa 3
     have bg := blk_frozen aa.out 0
     have bh := blk_frozen aa.out 1
     have bi := blk_frozen aa.out 2
     have bj := blk_frozen aa.out 3
     have bl : wr.cell? ⟨ah, 0, none⟩ = some (.int .u64 0) := bq_ af 0
     have bm : wr.cell? ⟨ah, 1, none⟩ = some (.int .u64 0) := bq_ af 1
     have bn : wr.cell? ⟨ah, 2, none⟩ = some (.int .u64 0) := bq_ af 2
     have bo : wr.cell? ⟨ah, 3, none⟩ = some (.int .u64 0) := bq_ af 3
     have bp := blk_frozen af.out 0
     have bq := blk_frozen af.out 1
     have br := blk_frozen af.out 2
     have bs := blk_frozen af.out 3
     go_wp2
     refine bodyPost_ret (results_cell_row rfl _ _ ah 80 #[.int .u64 ab, .int .u64 ac, .int .u64 ad, .int .u64 ae] (0, 0) _ rfl (by refine blk_put (cs := #[.int .u64 ab, .int .u64 ac, .int .u64 ad, .int .u64 0]) ?_ 3 _ rfl; refine blk_put (cs := #[.int .u64 ab, .int .u64 ac, .int .u64 0, .int .u64 0]) ?_ 2 _ rfl; refine blk_put (cs := #[.int .u64 ab, .int .u64 0, .int .u64 0, .int .u64 0]) ?_ 1 _ rfl; refine blk_put (cs := #[.int .u64 0, .int .u64 0, .int .u64 0, .int .u64 0]) ?_ 0 _ rfl; exact af.out) Tryd.underlying80 rfl (by kernel_rfl)) rfl ?_
     exact ⟨by first | rfl | (simp [errW_none, errW_some] <;> rfl) | (simp [*, errW_none, errW_some] <;> rfl), by repeat (first | (with_reducible first | exact HB.out | apply below_alloc | apply pw_below_drewN | apply below_drew1 | refine below_set ?_ az.out | refine below_set ?_ aA.out) | exact HB.out)⟩
 ·replace c4 := Bool.eq_false_iff.mpr c4
  subst c4
  have H1 : (some (0, 0, 0, 0)) = some (r1, r2, r3, r4) := by rw [if_neg (show ¬ (false = true) by decide)] at H; exact H
  clear H
  have H := H1
  clear H1
  simp only [Option.some.injEq, Prod.mk.injEq] at H
  obtain ⟨rfl, rfl, rfl, rfl⟩ := H
  go_enter Tryd.func62, Tryd.ntmps62
  go_wp2_with (first | ((with_reducible refine gate_dst (N := 3) rfl ?_); refine box_event ?hg (N := 3) ?hd (cs := #[.int .u64 am, .int .u64 ao, .int .u64 ap, .int .u64 aq]) (t := 80) ?hr ?_; (case hd => rfl); (case hg => rfl); (case hr => first | (go_simp; done) | (go_simp; rfl)); intro ag hg bF hbox hb; have ak := aj (below_step HB.out hb); have al := aj (hbox); have aI := aj ((by rw [hg]; exact (below_size HB.out) : w.heap.size ≤ ag)); clear HB; have HB := ak; have aa := al; have az := aI; clear ak al aI; clear hb hbox hg) | ((with_reducible refine gate_dst (N := 4) rfl ?_); refine box_event ?hg (N := 4) ?hd (cs := #[.int .u64 0, .int .u64 0, .int .u64 0, .int .u64 0]) (t := 80) ?hr ?_; (case hd => rfl); (case hg => rfl); (case hr => first | (go_simp; done) | (go_simp; rfl)); intro ah hg av hbox hb; have ak := aj (blk_below aa.out hb); have al := aj (below_step HB.out hb); have au := aj (hbox); have aJ := aj ((by rw [hg]; exact (below_size HB.out) : w.heap.size ≤ ah)); have aK := aj ((by rw [hg]; exact Nat.ne_of_lt (blk_lt aa.out) : ag ≠ ah)); have aL := aj ((by rw [hg]; exact Nat.ne_of_gt (blk_lt aa.out) : ah ≠ ag)); clear aa; clear HB; have aa := ak; have HB := al; have af := au; have aA := aJ; have ax := aK; have ai := aL; clear ak al au aJ aK aL; clear hb hbox hg) | ((with_reducible refine gate_callee (f := 42) rfl ?_); refine goesL_ (some 7) rfl rfl Tryd.func42 (by kernel_rfl) rfl #[.int .i64 a0] rfl (by (try simp only [List.map_toArray, List.map_cons, List.map_nil]); first | done | rfl | (go_simp; done)) ?_; (with_reducible refine (attestorref01_Valid.calls a0 false _ A3.out).mono ?_); rintro e w' ⟨rfl, ⟨nd, rfl⟩⟩; refine ⟨_, rfl, ?_⟩; (try (rw [drewN_self av]; generalize q_ : World.drewN av _ = av; have ak : Aside0 (av.heap[ag]? = some (.cells #[.int .u64 am, .int .u64 ao, .int .u64 ap, .int .u64 aq] 80 (0, 0))) := ⟨by rw [← q_]; exact aa.out⟩; have al : Aside0 (av.heap[ah]? = some (.cells #[.int .u64 0, .int .u64 0, .int .u64 0, .int .u64 0] 80 (0, 0))) := ⟨by rw [← q_]; exact af.out⟩; have au : Aside0 (Below w.heap.size w av) := ⟨by rw [← q_]; exact HB.out⟩; clear aa af HB q_; have aa := ak; have af := al; have HB := au; clear ak al au)); have bD := ai.out; have bE := ax.out; have bu : av.cell? ⟨ah, 0, none⟩ = some (.int .u64 0) := bq_ af 0; have bv : av.cell? ⟨ah, 1, none⟩ = some (.int .u64 0) := bq_ af 1; have bw : av.cell? ⟨ah, 2, none⟩ = some (.int .u64 0) := bq_ af 2; have bx : av.cell? ⟨ah, 3, none⟩ = some (.int .u64 0) := bq_ af 3; have bz := blk_frozen af.out 0; have bA := blk_frozen af.out 1; have bB := blk_frozen af.out 2; have bC := blk_frozen af.out 3))
  refine bodyPost_ret (results_cell_row rfl _ _ ah 80 #[.int .u64 0, .int .u64 0, .int .u64 0, .int .u64 0] (0, 0) _ rfl (by refine blk_put (cs := #[.int .u64 0, .int .u64 0, .int .u64 0, .int .u64 0]) ?_ 3 _ rfl; refine blk_put (cs := #[.int .u64 0, .int .u64 0, .int .u64 0, .int .u64 0]) ?_ 2 _ rfl; refine blk_put (cs := #[.int .u64 0, .int .u64 0, .int .u64 0, .int .u64 0]) ?_ 1 _ rfl; refine blk_put (cs := #[.int .u64 0, .int .u64 0, .int .u64 0, .int .u64 0]) ?_ 0 _ rfl; exact af.out) Tryd.underlying80 rfl (by kernel_rfl)) rfl ?_
  exact ⟨by first | rfl | (simp [errW_none, errW_some] <;> rfl) | (simp [*, errW_none, errW_some] <;> rfl), by repeat (first | (with_reducible first | exact HB.out | apply below_alloc | apply pw_below_drewN | apply below_drew1 | refine below_set ?_ az.out | refine below_set ?_ aA.out) | exact HB.out)⟩

end Go.Proofs.YtpnpmeogffodgaaDoor.Q
end
section
namespace Go.Proofs.YtpnpmeogffodgaaDoor.Q
open Go.RowKit Go.Proofs.YtpnpmeogffodgaaDoorW.PrintWords Go.Proofs.YtpnpmeogffodgaaDoorW.PrintLast Go.Proofs.YtpnpmeogffodgaaDoorW.PrintMore
open Go.Proofs.YtpnpmeogffodgaaDoor.Num
set_option linter.unusedVariables false
set_option linter.unusedSimpArgs false
theorem rconst_yes {f : Int} {p g e : Nat} (D : Fd f p g e) (k r pl : Nat) (hk : 66 < k) (hr : r < 8) (hp : pl < 4) : attestorref06_Constant.f k f r pl = some ((cst p g (4 * r + (pl + 1)) : Nat) : Int) := by
  obtain ⟨k, rfl⟩ : ∃ j, k = j + 1 + 1 := ⟨k - 2, by omega⟩
  unfold attestorref06_Constant.f
  rw [rvalid_yes D.F]
  simp only [Option.bind_some, if_true]
  rw [if_neg (by omega), if_neg (by omega), if_neg (by omega), decide_eq_false (by omega)]
  simp only [attestorref06_Constant.j0, Bool.false_eq_true, if_false]
  rw [rgen_eq, D.gen]
  simp only [Option.bind_some]
  rw [expo r pl hr hp, rpow_f D.F 6 (k + 1) g _ (by omega) (by omega) (by omega)]
  simp only [Option.bind_some]
  rw [show (7 : Int) = ((7 : Nat) : Int) from rfl, radd_f D.F]
  rfl
theorem pm (p e a c : Nat) : ((a + c) % p) ^ e % p = (a % p + c) ^ e % p := by
  rw [Nat.pow_mod (a % p + c) e p, Nat.mod_add_mod]
theorem rl0_0 (k : Nat) (f r s0 s1 s2 s3 : Int) : attestorref06_Round.l0 (k + 1) f r 0 s0 s1 s2 s3 = (attestorref06_Constant.f k f r 0).bind fun c => (attestorref01_Add.f f s0 c).bind fun v => attestorref06_Round.l0 k f r 1 v s1 s2 s3 := by
  rw [attestorref06_Round.l0, if_pos (by decide), if_pos (by decide), v01]
  rfl
theorem rl1_0 (k : Nat) (f s0 s1 s2 s3 : Int) : attestorref06_Round.l1 (k + 1) f 0 s0 s1 s2 s3 = (attestorref01_Exponent.f k f).bind fun c => (attestorref01_Pow.f k f s0 (IntKind.u64.wrap c)).bind fun v => attestorref06_Round.l1 k f 1 v s1 s2 s3 := by
  rw [attestorref06_Round.l1, if_pos (by decide), if_pos (by decide), v01]
  rfl
theorem rl2_0 (k : Nat) (f s0 s1 s2 s3 t0 t1 t2 t3 : Int) : attestorref06_Round.l2 (k + 1) f 0 s0 s1 s2 s3 t0 t1 t2 t3 = (attestorref06_row.f 0).bind fun m => attestorref06_Round.l3 k f 0 0 s0 s1 s2 s3 t0 t1 t2 t3 m.1 m.2.1 m.2.2.1 m.2.2.2 := by
  rw [attestorref06_Round.l2, if_pos (by decide)]
theorem rl3_00 (k : Nat) (f s0 s1 s2 s3 t0 t1 t2 t3 m0 m1 m2 m3 : Int) : attestorref06_Round.l3 (k + 1) f 0 0 s0 s1 s2 s3 t0 t1 t2 t3 m0 m1 m2 m3 = (attestorref01_Mul.f f m0 s0).bind fun c => (attestorref01_Add.f f t0 c).bind fun v => attestorref06_Round.l3 k f 0 1 s0 s1 s2 s3 v t1 t2 t3 m0 m1 m2 m3 := by
  rw [attestorref06_Round.l3, if_pos (by decide), if_pos (by decide), if_pos (by decide), if_pos (by decide), v01]
  rfl
theorem rl3_01 (k : Nat) (f s0 s1 s2 s3 t0 t1 t2 t3 m0 m1 m2 m3 : Int) : attestorref06_Round.l3 (k + 1) f 0 1 s0 s1 s2 s3 t0 t1 t2 t3 m0 m1 m2 m3 = (attestorref01_Mul.f f m1 s1).bind fun c => (attestorref01_Add.f f t0 c).bind fun v => attestorref06_Round.l3 k f 0 2 s0 s1 s2 s3 v t1 t2 t3 m0 m1 m2 m3 := by
  rw [attestorref06_Round.l3, if_pos (by decide), if_pos (by decide), if_pos (by decide), if_pos (by decide), v12]
  rfl
theorem rl3_02 (k : Nat) (f s0 s1 s2 s3 t0 t1 t2 t3 m0 m1 m2 m3 : Int) : attestorref06_Round.l3 (k + 1) f 0 2 s0 s1 s2 s3 t0 t1 t2 t3 m0 m1 m2 m3 = (attestorref01_Mul.f f m2 s2).bind fun c => (attestorref01_Add.f f t0 c).bind fun v => attestorref06_Round.l3 k f 0 3 s0 s1 s2 s3 v t1 t2 t3 m0 m1 m2 m3 := by
  rw [attestorref06_Round.l3, if_pos (by decide), if_pos (by decide), if_pos (by decide), if_pos (by decide), v23]
  rfl
theorem rl3_03 (k : Nat) (f s0 s1 s2 s3 t0 t1 t2 t3 m0 m1 m2 m3 : Int) : attestorref06_Round.l3 (k + 1) f 0 3 s0 s1 s2 s3 t0 t1 t2 t3 m0 m1 m2 m3 = (attestorref01_Mul.f f m3 s3).bind fun c => (attestorref01_Add.f f t0 c).bind fun v => attestorref06_Round.l3 k f 0 4 s0 s1 s2 s3 v t1 t2 t3 m0 m1 m2 m3 := by
  rw [attestorref06_Round.l3, if_pos (by decide), if_pos (by decide), if_pos (by decide), if_pos (by decide), v34]
  rfl
theorem rl3_04 (k : Nat) (f s0 s1 s2 s3 t0 t1 t2 t3 m0 m1 m2 m3 : Int) : attestorref06_Round.l3 (k + 1) f 0 4 s0 s1 s2 s3 t0 t1 t2 t3 m0 m1 m2 m3 = attestorref06_Round.l2 k f 1 s0 s1 s2 s3 t0 t1 t2 t3 := by
  rw [attestorref06_Round.l3, if_neg (by decide), v01]
theorem rl0_1 (k : Nat) (f r s0 s1 s2 s3 : Int) : attestorref06_Round.l0 (k + 1) f r 1 s0 s1 s2 s3 = (attestorref06_Constant.f k f r 1).bind fun c => (attestorref01_Add.f f s1 c).bind fun v => attestorref06_Round.l0 k f r 2 s0 v s2 s3 := by
  rw [attestorref06_Round.l0, if_pos (by decide), if_pos (by decide), v12]
  rfl
theorem rl1_1 (k : Nat) (f s0 s1 s2 s3 : Int) : attestorref06_Round.l1 (k + 1) f 1 s0 s1 s2 s3 = (attestorref01_Exponent.f k f).bind fun c => (attestorref01_Pow.f k f s1 (IntKind.u64.wrap c)).bind fun v => attestorref06_Round.l1 k f 2 s0 v s2 s3 := by
  rw [attestorref06_Round.l1, if_pos (by decide), if_pos (by decide), v12]
  rfl
theorem rl2_1 (k : Nat) (f s0 s1 s2 s3 t0 t1 t2 t3 : Int) : attestorref06_Round.l2 (k + 1) f 1 s0 s1 s2 s3 t0 t1 t2 t3 = (attestorref06_row.f 1).bind fun m => attestorref06_Round.l3 k f 1 0 s0 s1 s2 s3 t0 t1 t2 t3 m.1 m.2.1 m.2.2.1 m.2.2.2 := by
  rw [attestorref06_Round.l2, if_pos (by decide)]
theorem rl3_10 (k : Nat) (f s0 s1 s2 s3 t0 t1 t2 t3 m0 m1 m2 m3 : Int) : attestorref06_Round.l3 (k + 1) f 1 0 s0 s1 s2 s3 t0 t1 t2 t3 m0 m1 m2 m3 = (attestorref01_Mul.f f m0 s0).bind fun c => (attestorref01_Add.f f t1 c).bind fun v => attestorref06_Round.l3 k f 1 1 s0 s1 s2 s3 t0 v t2 t3 m0 m1 m2 m3 := by
  rw [attestorref06_Round.l3, if_pos (by decide), if_pos (by decide), if_pos (by decide), if_pos (by decide), v01]
  rfl
theorem rl3_11 (k : Nat) (f s0 s1 s2 s3 t0 t1 t2 t3 m0 m1 m2 m3 : Int) : attestorref06_Round.l3 (k + 1) f 1 1 s0 s1 s2 s3 t0 t1 t2 t3 m0 m1 m2 m3 = (attestorref01_Mul.f f m1 s1).bind fun c => (attestorref01_Add.f f t1 c).bind fun v => attestorref06_Round.l3 k f 1 2 s0 s1 s2 s3 t0 v t2 t3 m0 m1 m2 m3 := by
  rw [attestorref06_Round.l3, if_pos (by decide), if_pos (by decide), if_pos (by decide), if_pos (by decide), v12]
  rfl
theorem rl3_12 (k : Nat) (f s0 s1 s2 s3 t0 t1 t2 t3 m0 m1 m2 m3 : Int) : attestorref06_Round.l3 (k + 1) f 1 2 s0 s1 s2 s3 t0 t1 t2 t3 m0 m1 m2 m3 = (attestorref01_Mul.f f m2 s2).bind fun c => (attestorref01_Add.f f t1 c).bind fun v => attestorref06_Round.l3 k f 1 3 s0 s1 s2 s3 t0 v t2 t3 m0 m1 m2 m3 := by
  rw [attestorref06_Round.l3, if_pos (by decide), if_pos (by decide), if_pos (by decide), if_pos (by decide), v23]
  rfl
theorem rl3_13 (k : Nat) (f s0 s1 s2 s3 t0 t1 t2 t3 m0 m1 m2 m3 : Int) : attestorref06_Round.l3 (k + 1) f 1 3 s0 s1 s2 s3 t0 t1 t2 t3 m0 m1 m2 m3 = (attestorref01_Mul.f f m3 s3).bind fun c => (attestorref01_Add.f f t1 c).bind fun v => attestorref06_Round.l3 k f 1 4 s0 s1 s2 s3 t0 v t2 t3 m0 m1 m2 m3 := by
  rw [attestorref06_Round.l3, if_pos (by decide), if_pos (by decide), if_pos (by decide), if_pos (by decide), v34]
  rfl
theorem rl3_14 (k : Nat) (f s0 s1 s2 s3 t0 t1 t2 t3 m0 m1 m2 m3 : Int) : attestorref06_Round.l3 (k + 1) f 1 4 s0 s1 s2 s3 t0 t1 t2 t3 m0 m1 m2 m3 = attestorref06_Round.l2 k f 2 s0 s1 s2 s3 t0 t1 t2 t3 := by
  rw [attestorref06_Round.l3, if_neg (by decide), v12]
theorem rl0_2 (k : Nat) (f r s0 s1 s2 s3 : Int) : attestorref06_Round.l0 (k + 1) f r 2 s0 s1 s2 s3 = (attestorref06_Constant.f k f r 2).bind fun c => (attestorref01_Add.f f s2 c).bind fun v => attestorref06_Round.l0 k f r 3 s0 s1 v s3 := by
  rw [attestorref06_Round.l0, if_pos (by decide), if_pos (by decide), v23]
  rfl
theorem rl1_2 (k : Nat) (f s0 s1 s2 s3 : Int) : attestorref06_Round.l1 (k + 1) f 2 s0 s1 s2 s3 = (attestorref01_Exponent.f k f).bind fun c => (attestorref01_Pow.f k f s2 (IntKind.u64.wrap c)).bind fun v => attestorref06_Round.l1 k f 3 s0 s1 v s3 := by
  rw [attestorref06_Round.l1, if_pos (by decide), if_pos (by decide), v23]
  rfl
theorem rl2_2 (k : Nat) (f s0 s1 s2 s3 t0 t1 t2 t3 : Int) : attestorref06_Round.l2 (k + 1) f 2 s0 s1 s2 s3 t0 t1 t2 t3 = (attestorref06_row.f 2).bind fun m => attestorref06_Round.l3 k f 2 0 s0 s1 s2 s3 t0 t1 t2 t3 m.1 m.2.1 m.2.2.1 m.2.2.2 := by
  rw [attestorref06_Round.l2, if_pos (by decide)]
theorem rl3_20 (k : Nat) (f s0 s1 s2 s3 t0 t1 t2 t3 m0 m1 m2 m3 : Int) : attestorref06_Round.l3 (k + 1) f 2 0 s0 s1 s2 s3 t0 t1 t2 t3 m0 m1 m2 m3 = (attestorref01_Mul.f f m0 s0).bind fun c => (attestorref01_Add.f f t2 c).bind fun v => attestorref06_Round.l3 k f 2 1 s0 s1 s2 s3 t0 t1 v t3 m0 m1 m2 m3 := by
  rw [attestorref06_Round.l3, if_pos (by decide), if_pos (by decide), if_pos (by decide), if_pos (by decide), v01]
  rfl
theorem rl3_21 (k : Nat) (f s0 s1 s2 s3 t0 t1 t2 t3 m0 m1 m2 m3 : Int) : attestorref06_Round.l3 (k + 1) f 2 1 s0 s1 s2 s3 t0 t1 t2 t3 m0 m1 m2 m3 = (attestorref01_Mul.f f m1 s1).bind fun c => (attestorref01_Add.f f t2 c).bind fun v => attestorref06_Round.l3 k f 2 2 s0 s1 s2 s3 t0 t1 v t3 m0 m1 m2 m3 := by
  rw [attestorref06_Round.l3, if_pos (by decide), if_pos (by decide), if_pos (by decide), if_pos (by decide), v12]
  rfl
theorem rl3_22 (k : Nat) (f s0 s1 s2 s3 t0 t1 t2 t3 m0 m1 m2 m3 : Int) : attestorref06_Round.l3 (k + 1) f 2 2 s0 s1 s2 s3 t0 t1 t2 t3 m0 m1 m2 m3 = (attestorref01_Mul.f f m2 s2).bind fun c => (attestorref01_Add.f f t2 c).bind fun v => attestorref06_Round.l3 k f 2 3 s0 s1 s2 s3 t0 t1 v t3 m0 m1 m2 m3 := by
  rw [attestorref06_Round.l3, if_pos (by decide), if_pos (by decide), if_pos (by decide), if_pos (by decide), v23]
  rfl
theorem rl3_23 (k : Nat) (f s0 s1 s2 s3 t0 t1 t2 t3 m0 m1 m2 m3 : Int) : attestorref06_Round.l3 (k + 1) f 2 3 s0 s1 s2 s3 t0 t1 t2 t3 m0 m1 m2 m3 = (attestorref01_Mul.f f m3 s3).bind fun c => (attestorref01_Add.f f t2 c).bind fun v => attestorref06_Round.l3 k f 2 4 s0 s1 s2 s3 t0 t1 v t3 m0 m1 m2 m3 := by
  rw [attestorref06_Round.l3, if_pos (by decide), if_pos (by decide), if_pos (by decide), if_pos (by decide), v34]
  rfl
theorem rl3_24 (k : Nat) (f s0 s1 s2 s3 t0 t1 t2 t3 m0 m1 m2 m3 : Int) : attestorref06_Round.l3 (k + 1) f 2 4 s0 s1 s2 s3 t0 t1 t2 t3 m0 m1 m2 m3 = attestorref06_Round.l2 k f 3 s0 s1 s2 s3 t0 t1 t2 t3 := by
  rw [attestorref06_Round.l3, if_neg (by decide), v23]
theorem rl0_3 (k : Nat) (f r s0 s1 s2 s3 : Int) : attestorref06_Round.l0 (k + 1) f r 3 s0 s1 s2 s3 = (attestorref06_Constant.f k f r 3).bind fun c => (attestorref01_Add.f f s3 c).bind fun v => attestorref06_Round.l0 k f r 4 s0 s1 s2 v := by
  rw [attestorref06_Round.l0, if_pos (by decide), if_pos (by decide), v34]
  rfl
theorem rl1_3 (k : Nat) (f s0 s1 s2 s3 : Int) : attestorref06_Round.l1 (k + 1) f 3 s0 s1 s2 s3 = (attestorref01_Exponent.f k f).bind fun c => (attestorref01_Pow.f k f s3 (IntKind.u64.wrap c)).bind fun v => attestorref06_Round.l1 k f 4 s0 s1 s2 v := by
  rw [attestorref06_Round.l1, if_pos (by decide), if_pos (by decide), v34]
  rfl
theorem rl2_3 (k : Nat) (f s0 s1 s2 s3 t0 t1 t2 t3 : Int) : attestorref06_Round.l2 (k + 1) f 3 s0 s1 s2 s3 t0 t1 t2 t3 = (attestorref06_row.f 3).bind fun m => attestorref06_Round.l3 k f 3 0 s0 s1 s2 s3 t0 t1 t2 t3 m.1 m.2.1 m.2.2.1 m.2.2.2 := by
  rw [attestorref06_Round.l2, if_pos (by decide)]
theorem rl3_30 (k : Nat) (f s0 s1 s2 s3 t0 t1 t2 t3 m0 m1 m2 m3 : Int) : attestorref06_Round.l3 (k + 1) f 3 0 s0 s1 s2 s3 t0 t1 t2 t3 m0 m1 m2 m3 = (attestorref01_Mul.f f m0 s0).bind fun c => (attestorref01_Add.f f t3 c).bind fun v => attestorref06_Round.l3 k f 3 1 s0 s1 s2 s3 t0 t1 t2 v m0 m1 m2 m3 := by
  rw [attestorref06_Round.l3, if_pos (by decide), if_pos (by decide), if_pos (by decide), if_pos (by decide), v01]
  rfl
theorem rl3_31 (k : Nat) (f s0 s1 s2 s3 t0 t1 t2 t3 m0 m1 m2 m3 : Int) : attestorref06_Round.l3 (k + 1) f 3 1 s0 s1 s2 s3 t0 t1 t2 t3 m0 m1 m2 m3 = (attestorref01_Mul.f f m1 s1).bind fun c => (attestorref01_Add.f f t3 c).bind fun v => attestorref06_Round.l3 k f 3 2 s0 s1 s2 s3 t0 t1 t2 v m0 m1 m2 m3 := by
  rw [attestorref06_Round.l3, if_pos (by decide), if_pos (by decide), if_pos (by decide), if_pos (by decide), v12]
  rfl
theorem rl3_32 (k : Nat) (f s0 s1 s2 s3 t0 t1 t2 t3 m0 m1 m2 m3 : Int) : attestorref06_Round.l3 (k + 1) f 3 2 s0 s1 s2 s3 t0 t1 t2 t3 m0 m1 m2 m3 = (attestorref01_Mul.f f m2 s2).bind fun c => (attestorref01_Add.f f t3 c).bind fun v => attestorref06_Round.l3 k f 3 3 s0 s1 s2 s3 t0 t1 t2 v m0 m1 m2 m3 := by
  rw [attestorref06_Round.l3, if_pos (by decide), if_pos (by decide), if_pos (by decide), if_pos (by decide), v23]
  rfl
theorem rl3_33 (k : Nat) (f s0 s1 s2 s3 t0 t1 t2 t3 m0 m1 m2 m3 : Int) : attestorref06_Round.l3 (k + 1) f 3 3 s0 s1 s2 s3 t0 t1 t2 t3 m0 m1 m2 m3 = (attestorref01_Mul.f f m3 s3).bind fun c => (attestorref01_Add.f f t3 c).bind fun v => attestorref06_Round.l3 k f 3 4 s0 s1 s2 s3 t0 t1 t2 v m0 m1 m2 m3 := by
  rw [attestorref06_Round.l3, if_pos (by decide), if_pos (by decide), if_pos (by decide), if_pos (by decide), v34]
  rfl
theorem rl3_34 (k : Nat) (f s0 s1 s2 s3 t0 t1 t2 t3 m0 m1 m2 m3 : Int) : attestorref06_Round.l3 (k + 1) f 3 4 s0 s1 s2 s3 t0 t1 t2 t3 m0 m1 m2 m3 = attestorref06_Round.l2 k f 4 s0 s1 s2 s3 t0 t1 t2 t3 := by
  rw [attestorref06_Round.l3, if_neg (by decide), v34]
theorem rl0_4 (k : Nat) (f r s0 s1 s2 s3 : Int) : attestorref06_Round.l0 (k + 1) f r 4 s0 s1 s2 s3 = attestorref06_Round.l1 k f 0 s0 s1 s2 s3 := by
  rw [attestorref06_Round.l0, if_neg (by decide)]
theorem rl1_4 (k : Nat) (f s0 s1 s2 s3 : Int) : attestorref06_Round.l1 (k + 1) f 4 s0 s1 s2 s3 = attestorref06_Round.l2 k f 0 s0 s1 s2 s3 0 0 0 0 := by
  rw [attestorref06_Round.l1, if_neg (by decide)]
theorem rl2_4 (k : Nat) (f s0 s1 s2 s3 t0 t1 t2 t3 : Int) : attestorref06_Round.l2 (k + 1) f 4 s0 s1 s2 s3 t0 t1 t2 t3 = some (t0, t1, t2, t3) := by
  rw [attestorref06_Round.l2, if_neg (by decide)]
set_option maxRecDepth 100000 in
theorem rround_yes {f : Int} {p g e : Nat} (D : Fd f p g e) (k r : Nat) (hk : 120 < k) (hr : r < 8) (s : S4) : attestorref06_Round.f k f r s.a s.b s.c s.d = some (rn p g e (4 * r) (red p s)).o := by
  obtain ⟨k, rfl⟩ : ∃ j, k = j + 40 := ⟨k - 40, by omega⟩
  have c0 : ∀ k, 66 < k → attestorref06_Constant.f k f r 0 = some ((cst p g (4 * r + 1) : Nat) : Int) := fun k hk => rconst_yes D k r 0 hk hr (by omega)
  have c1 : ∀ k, 66 < k → attestorref06_Constant.f k f r 1 = some ((cst p g (4 * r + 2) : Nat) : Int) := fun k hk => rconst_yes D k r 1 hk hr (by omega)
  have c2 : ∀ k, 66 < k → attestorref06_Constant.f k f r 2 = some ((cst p g (4 * r + 3) : Nat) : Int) := fun k hk => rconst_yes D k r 2 hk hr (by omega)
  have c3 : ∀ k, 66 < k → attestorref06_Constant.f k f r 3 = some ((cst p g (4 * r + 4) : Nat) : Int) := fun k hk => rconst_yes D k r 3 hk hr (by omega)
  have he : e < 8 := by rcases D.e53 with h | h <;> omega
  have ex : ∀ k, 0 < k → attestorref01_Exponent.f k f = some (e : Int) := fun k hk => by
    obtain ⟨j, rfl⟩ : ∃ j, k = j + 1 := ⟨k - 1, by omega⟩
    rw [rexp_eq, D.exp]
  have rp : ∀ (k a : Nat), 10 < k → attestorref01_Pow.f k f a (IntKind.u64.wrap (e : Int)) = some ((a ^ e % p : Nat) : Int) := fun k a hk => by
    rw [wrapU (by omega)]
    exact rpow_f D.F 3 k a e (by omega) (by omega) (by omega)
  have ra : ∀ a b : Nat, attestorref01_Add.f f a b = some (((a + b) % p : Nat) : Int) := fun a b => radd_f D.F a b
  have ra0 : ∀ b : Nat, attestorref01_Add.f f 0 b = some (((0 + b) % p : Nat) : Int) := fun b => radd_f D.F 0 b
  have m1 : ∀ b : Nat, attestorref01_Mul.f f 1 b = some ((1 * b % p : Nat) : Int) := fun b => rmul_f D.F 1 b
  have m2 : ∀ b : Nat, attestorref01_Mul.f f 2 b = some ((2 * b % p : Nat) : Int) := fun b => rmul_f D.F 2 b
  have m3 : ∀ b : Nat, attestorref01_Mul.f f 3 b = some ((3 * b % p : Nat) : Int) := fun b => rmul_f D.F 3 b
  have w0 : attestorref06_row.f 0 = some (2, 3, 1, 1) := by simp [attestorref06_row.f]
  have w1 : attestorref06_row.f 1 = some (1, 2, 3, 1) := by simp [attestorref06_row.f]
  have w2 : attestorref06_row.f 2 = some (1, 1, 2, 3) := by simp [attestorref06_row.f]
  have w3 : attestorref06_row.f 3 = some (3, 1, 1, 2) := by simp [attestorref06_row.f]
  unfold attestorref06_Round.f
  refine bnd (rvalid_yes D.F) ?_
  rw [if_pos rfl, if_neg (by omega), decide_eq_false (by omega)]
  rw [attestorref06_Round.j0]
  rw [if_neg (by decide)]
  clear he
  rw [rl0_0]
  refine bnd (c0 _ (by omega)) (bnd (ra _ _) ?_)
  rw [rl0_1]
  refine bnd (c1 _ (by omega)) (bnd (ra _ _) ?_)
  rw [rl0_2]
  refine bnd (c2 _ (by omega)) (bnd (ra _ _) ?_)
  rw [rl0_3]
  refine bnd (c3 _ (by omega)) (bnd (ra _ _) ?_)
  rw [rl0_4]
  rw [rl1_0]
  refine bnd (ex _ (by omega)) (bnd (rp _ _ (by omega)) ?_)
  rw [rl1_1]
  refine bnd (ex _ (by omega)) (bnd (rp _ _ (by omega)) ?_)
  rw [rl1_2]
  refine bnd (ex _ (by omega)) (bnd (rp _ _ (by omega)) ?_)
  rw [rl1_3]
  refine bnd (ex _ (by omega)) (bnd (rp _ _ (by omega)) ?_)
  rw [rl1_4]
  rw [rl2_0]
  refine bnd w0 ?_
  rw [rl3_00]
  refine bnd (m2 _) (bnd (ra0 _) ?_)
  rw [rl3_01]
  refine bnd (m3 _) (bnd (ra _ _) ?_)
  rw [rl3_02]
  refine bnd (m1 _) (bnd (ra _ _) ?_)
  rw [rl3_03]
  refine bnd (m1 _) (bnd (ra _ _) ?_)
  rw [rl3_04]
  rw [rl2_1]
  refine bnd w1 ?_
  rw [rl3_10]
  refine bnd (m1 _) (bnd (ra0 _) ?_)
  rw [rl3_11]
  refine bnd (m2 _) (bnd (ra _ _) ?_)
  rw [rl3_12]
  refine bnd (m3 _) (bnd (ra _ _) ?_)
  rw [rl3_13]
  refine bnd (m1 _) (bnd (ra _ _) ?_)
  rw [rl3_14]
  rw [rl2_2]
  refine bnd w2 ?_
  rw [rl3_20]
  refine bnd (m1 _) (bnd (ra0 _) ?_)
  rw [rl3_21]
  refine bnd (m1 _) (bnd (ra _ _) ?_)
  rw [rl3_22]
  refine bnd (m2 _) (bnd (ra _ _) ?_)
  rw [rl3_23]
  refine bnd (m3 _) (bnd (ra _ _) ?_)
  rw [rl3_24]
  rw [rl2_3]
  refine bnd w3 ?_
  rw [rl3_30]
  refine bnd (m3 _) (bnd (ra0 _) ?_)
  rw [rl3_31]
  refine bnd (m1 _) (bnd (ra _ _) ?_)
  rw [rl3_32]
  refine bnd (m1 _) (bnd (ra _ _) ?_)
  rw [rl3_33]
  refine bnd (m2 _) (bnd (ra _ _) ?_)
  rw [rl3_34]
  rw [rl2_4]
  congr 1
  simp only [pm, S4.o, rn, mixd, red]
  generalize (s.a % p + cst p g (4 * r + 1)) ^ e % p = w
  generalize (s.b % p + cst p g (4 * r + 2)) ^ e % p = x
  generalize (s.c % p + cst p g (4 * r + 3)) ^ e % p = y
  generalize (s.d % p + cst p g (4 * r + 4)) ^ e % p = z
  simp only [Nat.zero_add, Nat.one_mul, Nat.mod_mod, Nat.add_mod_mod, Nat.mod_add_mod]
theorem rperm_l0 {f : Int} {p g e : Nat} (D : Fd f p g e) (s : S4) : ∀ (m n k : Nat), n + m = 8 → 120 + m < k → ∀ t : S4, red p t = prm p g e n (red p s) → (m = 0 → t = prm p g e n (red p s)) →
    attestorref06_Perm.l0 k f n t.a t.b t.c t.d = some (prm p g e 8 (red p s)).o := by
  intro m
  induction m with
  | zero =>
    intro n k hn hk t _ ht
    obtain rfl : n = 8 := by omega
    obtain ⟨k, rfl⟩ : ∃ j, k = j + 1 := ⟨k - 1, by omega⟩
    rw [attestorref06_Perm.l0, if_neg (by omega), ht rfl]
    rfl
  | succ m ih =>
    intro n k hn hk t ht _
    obtain ⟨k, rfl⟩ : ∃ j, k = j + 1 := ⟨k - 1, by omega⟩
    rw [attestorref06_Perm.l0, if_pos (by omega)]
    refine bnd (rround_yes D k n (by omega) (by omega) t) ?_
    rw [ht, ← prm_succ]
    simp only [S4.o]
    rw [wrapS (x := (n : Int) + 1) (by omega) (by omega), show ((n : Int) + 1) = ((n + 1 : Nat) : Int) from rfl]
    exact ih (n + 1) k (by omega) (by omega) _ (red_id (prm_lt D.pos g e (red p s) (red_lt D.pos s) (n + 1))) (fun _ => rfl)
theorem rPerm_f {f : Int} {p g e : Nat} (D : Fd f p g e) (k : Nat) (hk : 130 < k) (s : S4) : attestorref06_Perm.f k f s.a s.b s.c s.d = some (prm p g e 8 (red p s)).o := by
  unfold attestorref06_Perm.f
  refine bnd (rvalid_yes D.F) ?_
  rw [if_pos rfl]
  exact rperm_l0 D s 8 0 k rfl (by omega) s rfl (fun h => absurd h (by decide))
end Go.Proofs.YtpnpmeogffodgaaDoor.Q
end
section
namespace Go.Proofs.YtpnpmeogffodgaaDoor.Q
open Go.RowKit Go.Proofs.YtpnpmeogffodgaaDoorW.PrintWords Go.Proofs.YtpnpmeogffodgaaDoorW.PrintLast Go.Proofs.YtpnpmeogffodgaaDoorW.PrintMore
attribute [local go_sem] max2_int min2_int max_two min_two max_three min_three max_four min_four run_store_fnV run_store_fnc run_store_nfn   -- for this text's walks alone
set_option linter.unusedVariables false
set_option linter.unusedSimpArgs false

/-! ### attestorlaw07_cut: function 12 -/
def attestorlaw07_cut.f (l0 : List (S36)) (a1 : Int) : Option ((List (S36))) := if 0 ≤ (mn (l0.length : Int) a1) then (if (mn (l0.length : Int) a1) ≤ (l0.length : Int) then ((some (l0.take ((mn (l0.length : Int) a1) : Int).toNat : List (S36))).bind fun y101 => (if ([] : List (S36)).length + y101.length < 8796093022208 then (some (([] : List (S36)) ++ y101)) else (none))) else (none)) else (none)
set_option maxHeartbeats 8000000 in
set_option maxRecDepth 100000 in
theorem attestorlaw07_cut.calls (A0 : Option Addr) (c0 : Nat) (l0 : List (S36)) (a1 : Int) (r : List (S36)) (w : World) (hr0 : Kd.C k36 w A0 l0.length l0) (hc0 : l0.length ≤ c0) (h : attestorlaw07_cut.f l0 a1 = some r) :
    Calls Tryd.prog 12 #[.slice A0 l0.length c0, .int .i64 a1] w fun e w' => ∃ v0_ : Value, e = .returned (v0_) ∧ Kd.R k36 36 w' w.heap.size (fun _ => True) v0_ r ∧ Below w.heap.size w w' := by
  have HR0 := Aside0.mk hr0
  have HC0 := Aside0.mk hc0
  clear hr0 hc0
  have HB := Aside0.mk (Below.refl w.heap.size w)
  have H : (if 0 ≤ (mn (l0.length : Int) a1) then (if (mn (l0.length : Int) a1) ≤ (l0.length : Int) then ((some (l0.take ((mn (l0.length : Int) a1) : Int).toNat : List (S36))).bind fun y101 => (if ([] : List (S36)).length + y101.length < 8796093022208 then (some (([] : List (S36)) ++ y101)) else (none))) else (none)) else (none)) = some r := h
  clear h
  obtain ⟨ji3, hji3⟩ : ∃ j_ : Int, (mn (l0.length : Int) a1) = j_ := ⟨_, rfl⟩
  replace H : (if 0 ≤ (ji3) then (if (ji3) ≤ (l0.length : Int) then ((some (l0.take ((ji3) : Int).toNat : List (S36))).bind fun y101 => (if ([] : List (S36)).length + y101.length < 8796093022208 then (some (([] : List (S36)) ++ y101)) else (none))) else (none)) else (none)) = some r := by first | (rw [hji3] at H; exact H) | (simp only [hji3] at H ⊢; exact H)
  have hji3_ : (if a1 < (l0.length : Int) then a1 else (l0.length : Int)) = ji3 := hji3
  by_cases c4 : 0 ≤ (ji3)
  · rw [if_pos c4] at H
    have c4b0 := eq_true c4
    have c4b1 : decide (0 ≤ (ji3)) = true := decide_eq_true c4
    clear c4
    by_cases c5 : (ji3) ≤ (l0.length : Int)
    · rw [if_pos c5] at H
      have c5b0 := eq_true c5
      have c5b1 : decide ((ji3) ≤ (l0.length : Int)) = true := decide_eq_true c5
      clear c5
      obtain ⟨y101, hy101⟩ : ∃ y_ : List (S36), y_ = (l0.take ((ji3) : Int).toNat) := ⟨_, rfl⟩
      replace H : (if ([] : List (S36)).length + y101.length < 8796093022208 then (some (([] : List (S36)) ++ y101)) else (none)) = some r := by first | (rw [hy101]; with_reducible exact H) | (have H2_ := (Option.bind_some _ _).symm.trans H; rw [hy101]; with_reducible exact H2_) | (have H2_ := (Option.bind_some _ _).symm.trans H; with_reducible exact H2_) | with_reducible exact H | (rw [hy101]; exact H) | exact H
      have Ny101 := Aside0.mk hy101
      clear hy101
      by_cases c6 : ([] : List (S36)).length + y101.length < 8796093022208
      · rw [if_pos c6] at H
        have LMc6 := Aside0.mk c6
        clear c6
        obtain ⟨y105, hy105⟩ : ∃ y_ : List (S36), y_ = (([] : List (S36)) ++ y101) := ⟨_, rfl⟩
        replace H : (some y105) = some r := by first | (rw [hy105]; with_reducible exact H) | (have H2_ := (Option.bind_some _ _).symm.trans H; rw [hy105]; with_reducible exact H2_) | (have H2_ := (Option.bind_some _ _).symm.trans H; with_reducible exact H2_) | with_reducible exact H | (rw [hy105]; exact H) | exact H
        have Ny105 := Aside0.mk hy105
        clear hy105
        obtain rfl := Option.some.inj H
        have q7 : ((ji3) : Int) ≤ ((l0.length : Int) : Int) := of_decide_eq_true (by first | (with_reducible assumption) | assumption)
        obtain ⟨i07, hi07, _, hsz7, _⟩ := info_parts info36
        have hroom7 : l0.length ≤ c0 := HC0.out
        have hC7 : Kd.C k36 _ A0 l0.length l0 := HR0.out
        have hcut7 := cut_to (P := Tryd.prog) 22 36 .i64 Tryd.underlying22 hi07 A0 l0.length c0 (ji3) (of_decide_eq_true (by first | (with_reducible assumption) | assumption)) q7 hroom7
        have hr7 := Kd.C_take (m := ((ji3) : Int).toNat) hC7 (by omega)
        have hy7 : y101.length = ((ji3) : Int).toNat := (by rw [Ny101.out, List.length_take]; omega)
        rw [← Ny101.out] at hr7
        rw [← hy7] at hcut7
        have HR104 := Aside0.mk hr7
        have HC104 := Aside0.mk (show y101.length ≤ c0 from by omega)
        clear hr7 hC7 hroom7 hi07 hsz7
        have KY7 := Aside0.mk hy7
        clear hy7
        replace q7 := eq_true q7
        go_enter Tryd.func12, Tryd.ntmps12
        go_wp2_with (first | ((with_reducible refine gate_builtin (b := .append) (xs := #[.tmp 6, .tmp 12]) rfl ?_); at_builtin; refine Kd.R_append_rows k36 (w0 := w) w.heap.size rfl (.tmp 6) (.tmp 12) 22 36 (.agg #[(.int .u64 0), (.int .u64 0)]) 16 rfl Tryd.underlying22 info36 rfl (by decide) (by omega) (.slice none 0 0) ([] : List (S36)) y101 _ _ _ (fun _ => True) (fun _ => False) rfl rfl ?aO ?aR (fun _ _ h => h) (fun _ h => h.elim) ?aF ?aB ?aS ?aL ?_; (case aR => repeat (first | exact HR104.out | (with_reducible refine Kd.C_alloc ?_ _) | (with_reducible refine Kd.C_drewN ?_ _) | (with_reducible refine Kd.C_drew ?_))); (case aB => exact (by repeat (first | (with_reducible first | exact HB.out | apply below_alloc | apply pw_below_drewN | apply below_drew1) | exact HB.out))); (case aF => exact (fun _ _ => trivial)); (case aO => exact ((Kd.R_nil _ _ _ _ (fun _ => True)))); (case aS => exact (below_size (by repeat (first | (with_reducible first | exact HB.out | apply below_alloc | apply pw_below_drewN | apply below_drew1) | exact HB.out)))); (case aL => have := LMc6.out; omega); intro v106 w8 ho hb hg hat; rw [← Ny105.out] at ho; have n0_ := Aside0.mk (hb); have n1_ := Aside0.mk (ho); clear HB; have HB := n0_; have HO107 := n1_; clear n0_ n1_; clear ho hb hg hat))
        go_ret
        exact ⟨_, by first | rfl | (simp [errW_none, errW_some] <;> rfl) | (simp only [← hji3]; first | rfl | (simp [errW_none, errW_some] <;> rfl)) | (simp [*, errW_none, errW_some] <;> rfl), by (with_reducible repeat (first | apply Kd.R_alloc | apply Kd.R_drewN | apply Kd.R_drew)); exact HO107.out, by repeat (first | (with_reducible first | exact HB.out | apply below_alloc | apply pw_below_drewN | apply below_drew1) | exact HB.out)⟩
      · rw [if_neg c6] at H
        exact absurd H (by simp)
    · rw [if_neg c5] at H
      exact absurd H (by simp)
  · rw [if_neg c4] at H
    exact absurd H (by simp)

-- NOT PRINTED: function 68 (bits_TrailingZeros32)

-- NOT PRINTED: function 69 (bits_TrailingZeros64)

-- NOT PRINTED: function 57 (bits_TrailingZeros)

end Go.Proofs.YtpnpmeogffodgaaDoor.Q
end
section
namespace Go.Proofs.YtpnpmeogffodgaaDoor.Q
open Go.RowKit Go.Proofs.YtpnpmeogffodgaaDoorW.PrintWords Go.Proofs.YtpnpmeogffodgaaDoorW.PrintLast Go.Proofs.YtpnpmeogffodgaaDoorW.PrintMore
section
variable {P : Program} {d : Nat} {xs ys : Array Value} {e : TypeId} {c j : Nat} {js : List Nat} {a b : Value} {r s : Bool} {w : World}
theorem eqi_last (ha : (part e xs (j * c)).run P w = .ok a w) (hb : (part e ys (j * c)).run P w = .ok b w) (he : (Op.equalIn d e a b).run P w = .ok r w) : (Op.eqItems d e c xs ys [j]).run P w = .ok r w := by
  simp only [Op.eqItems, Sem.run_bind, ha, hb, he, Result.andThen_ok]
  cases r <;> simp
theorem eqi_cons (ha : (part e xs (j * c)).run P w = .ok a w) (hb : (part e ys (j * c)).run P w = .ok b w) (he : (Op.equalIn d e a b).run P w = .ok r w) (hr : (Op.eqItems d e c xs ys js).run P w = .ok s w) : (Op.eqItems d e c xs ys (j :: js)).run P w = .ok (r && s) w := by
  simp only [Op.eqItems, Sem.run_bind, ha, hb, he, Result.andThen_ok]
  cases r
  · simp
  · simpa using hr
theorem eqarr_of {t : TypeId} {n : Nat} {l : List Nat} (hu : P.underlying t = some (.array n e)) (hi : (P.info? e).isSome = true) (hc : P.cellsOf e = c) (hl : List.range n = l) (h : (Op.eqItems d e c xs ys l).run P w = .ok r w) : (Op.equalIn (d + 1) t (.agg xs) (.agg ys)).run P w = .ok r w := by
  obtain ⟨i, hi⟩ := Option.isSome_iff_exists.mp hi
  rw [Go.run_equalIn_array w d xs ys hu hi, hc, hl]
  exact h
end
end Go.Proofs.YtpnpmeogffodgaaDoor.Q
end
section
namespace Go.Proofs.YtpnpmeogffodgaaDoor.Q
open Go.RowKit Go.Proofs.YtpnpmeogffodgaaDoorW.PrintWords Go.Proofs.YtpnpmeogffodgaaDoorW.PrintLast Go.Proofs.YtpnpmeogffodgaaDoorW.PrintMore
attribute [local go_sem] max2_int min2_int max_two min_two max_three min_three max_four min_four run_store_fnV run_store_fnc run_store_nfn   -- for this text's walks alone
set_option linter.unusedVariables false
set_option linter.unusedSimpArgs false

theorem eqA36 (d : Nat) (w : World) (x0 y0 : Int) (x1 y1 : Int) :
    (Op.equalIn (d + 2) 36 (.agg #[.int .u64 x0, .int .u64 x1]) (.agg #[.int .u64 y0, .int .u64 y1])).run Tryd.prog w = .ok (x0 == y0 && (x1 == y1)) w := by
  refine eqarr_of (c := 1) (l := [0, 1]) Tryd.underlying36 (by kernel_rfl) (by kernel_rfl) (by rfl) ?_
  refine eqi_cons (by go_simp; rfl) (by go_simp; rfl) (by go_simp) ?_
  exact eqi_last (by go_simp; rfl) (by go_simp; rfl) (by go_simp)
end Go.Proofs.YtpnpmeogffodgaaDoor.Q
end
section
namespace Go.Proofs.YtpnpmeogffodgaaDoor.Q
open Go.RowKit Go.Proofs.YtpnpmeogffodgaaDoorW.PrintWords Go.Proofs.YtpnpmeogffodgaaDoorW.PrintLast Go.Proofs.YtpnpmeogffodgaaDoorW.PrintMore
attribute [local go_sem] max2_int min2_int max_two min_two max_three min_three max_four min_four run_store_fnV run_store_fnc run_store_nfn   -- for this text's walks alone
set_option linter.unusedVariables false
set_option linter.unusedSimpArgs false

attribute [local go_sem high] eqA36
/-! ### attestorref07_Equal: function 18 -/
def attestorref07_Equal.l0 : Nat → List (S36) → List (S36) → Int → Option (Bool)
  | 0, _, _, _ => none
  | k + 1, x0, x1, x5 => if x5 < (x0.length : Int) then (if 0 ≤ x5 then (if x5 < (x1.length : Int) then (if (!(((rd_T36 x0 x5).f0) == ((rd_T36 x1 x5).f0)) || (!(((rd_T36 x0 x5).f1) == ((rd_T36 x1 x5).f1)))) = true then (some false) else (attestorref07_Equal.l0 k x0 x1 (wrap64 (x5 + 1)))) else (none)) else (none)) else (some true)
def attestorref07_Equal.f (k : Nat) (l0 : List (S36)) (l1 : List (S36)) : Option (Bool) := if (l0.length : Int) = (l1.length : Int) then (attestorref07_Equal.l0 k l0 l1 0) else (some false)
theorem attestorref07_Equal.mono_l : ∀ k, (∀ y0 y1 y2, LeO (attestorref07_Equal.l0 k y0 y1 y2) (attestorref07_Equal.l0 (k + 1) y0 y1 y2))
  | 0 => fun _ _ _ r h => by simp [attestorref07_Equal.l0] at h
  | k + 1 => by
    have ih0 := attestorref07_Equal.mono_l k
    · intro y0 y1 y2
      unfold attestorref07_Equal.l0
      repeat' first
      | (with_reducible exact ih0 _ _ _)
      | (with_reducible exact LeO.refl _)
      | (with_reducible exact LeO.none _)
      | (with_reducible refine LeO.ite ?_ ?_)
      | (with_reducible refine LeO.bind ?_ (fun _ => ?_))
      | exact ih0 _ _ _
      | exact LeO.none _
      | refine LeO.ite ?_ ?_
      | refine LeO.bind ?_ (fun _ => ?_)
theorem attestorref07_Equal.mono : ∀ a0 a1 k, LeO (attestorref07_Equal.f k a0 a1) (attestorref07_Equal.f (k + 1) a0 a1) := by
  intro a0 a1 k
  have ih0 := attestorref07_Equal.mono_l k
  unfold attestorref07_Equal.f
  repeat' first
      | (with_reducible exact ih0 _ _ _)
      | (with_reducible exact LeO.refl _)
      | (with_reducible exact LeO.none _)
      | (with_reducible refine LeO.ite ?_ ?_)
      | (with_reducible refine LeO.bind ?_ (fun _ => ?_))
      | exact ih0 _ _ _
      | exact LeO.none _
      | refine LeO.ite ?_ ?_
      | refine LeO.bind ?_ (fun _ => ?_)
set_option maxHeartbeats 8000000 in
set_option maxRecDepth 100000 in
theorem attestorref07_Equal.calls (k : Nat) (A0 : Option Addr) (c0 : Nat) (l0 : List (S36)) (A1 : Option Addr) (c1 : Nat) (l1 : List (S36)) (r : Bool) (w : World) (hr0 : Kd.C k36 w A0 l0.length l0) (hc0 : l0.length ≤ c0) (hr1 : Kd.C k36 w A1 l1.length l1) (hc1 : l1.length ≤ c1) (h : attestorref07_Equal.f k l0 l1 = some r) :
    Calls Tryd.prog 18 #[.slice A0 l0.length c0, .slice A1 l1.length c1] w fun e w' => e = .returned (.bool r) ∧ Drawn0 w w' := by
  have hu36 := Tryd.underlying36
  have HR0 := Aside0.mk hr0
  have HC0 := Aside0.mk hc0
  clear hr0 hc0
  have HR1 := Aside0.mk hr1
  have HC1 := Aside0.mk hc1
  clear hr1 hc1
  have H : (if (l0.length : Int) = (l1.length : Int) then (attestorref07_Equal.l0 k l0 l1 0) else (some false)) = some r := h
  clear h
  by_cases c3 : (l0.length : Int) = (l1.length : Int)
  · rw [if_pos c3] at H
    have c3b0 : ((l0.length : Int) == (l1.length : Int)) = true := beq_iff_eq.mpr c3
    have c3b1 : ((l0.length : Int) != (l1.length : Int)) = false := bne_eq_false_iff_eq.mpr c3
    have c3b2 : (l0.length == l1.length) = true := by first | simpa using c3 | (simp at c3 ⊢; omega)
    clear c3
    have H' := Aside0.mk H
    clear H
    go_enter Tryd.func18, Tryd.ntmps18
    go_wp2
    repeat (go_quiet (fail); try go_wp2)
    go_loopg [5] k (fun kq v5 w' => ∃ (x5_1 : Int), v5 = .int .i64 x5_1 ∧ Aside0 (attestorref07_Equal.l0 kq l0 l1 x5_1 = some r) ∧ Aside0 (kq ≤ k) ∧ Drawn0 w w')
    case atStart => exact ⟨(0), (by first | rfl | (simp; done) | (simp [*]; done) | (simp; rfl) | (simp; decide +kernel)), H', ⟨Nat.le_refl _⟩, by repeat (first | exact Drawn0.refl _ | apply Drawn0.step)⟩
    case round =>
      clear H'
      try clear c1
      try clear p2
      try clear c3
      try clear c3b0
      try clear c3b1
      try clear c3b2
      obtain ⟨x5_1, rfl, HA, HK1, ⟨m1, rfl⟩⟩ := hrel
      cases gk with
      | zero => exact absurd HA.out (by simp [attestorref07_Equal.l0])
      | succ k1 =>
        have H := HA.out
        clear HA
        simp only [attestorref07_Equal.l0] at H
        by_cases c4 : x5_1 < (l0.length : Int)
        · rw [if_pos c4] at H
          have c4b0 : decide (x5_1 < (l0.length : Int)) = true := decide_eq_true c4
          clear c4
          by_cases c5 : 0 ≤ x5_1
          · rw [if_pos c5] at H
            have c5b0 : decide (0 ≤ x5_1) = true := decide_eq_true c5
            clear c5
            by_cases c6 : x5_1 < (l1.length : Int)
            · rw [if_pos c6] at H
              have c6b0 : decide (x5_1 < (l1.length : Int)) = true := decide_eq_true c6
              clear c6
              by_cases c7 : (!(((rd_T36 l0 x5_1).f0) == ((rd_T36 l1 x5_1).f0)) || (!(((rd_T36 l0 x5_1).f1) == ((rd_T36 l1 x5_1).f1)))) = true
              · rw [if_pos c7] at H
                have c7b0 : (!(((rd_T36 l0 x5_1).f0) == ((rd_T36 l1 x5_1).f0)) || (!(((rd_T36 l0 x5_1).f1) == ((rd_T36 l1 x5_1).f1)))) = true := c7
                clear c7
                obtain rfl := Option.some.inj H
                have p151 : 0 ≤ (x5_1 : Int) := of_decide_eq_true (by first | (with_reducible assumption) | assumption)
                have q151 : x5_1 < (l0.length : Int) := of_decide_eq_true (by first | (with_reducible assumption) | assumption)
                obtain ⟨ad151, e151, hx151_0, hx151_1⟩ := at_T36 HR0.out x5_1 p151 q151
                cases e151
                replace p151 := eq_true p151
                replace q151 := eq_true q151
                have p152 : 0 ≤ (x5_1 : Int) := of_decide_eq_true (by first | (with_reducible assumption) | assumption)
                have q152 : x5_1 < (l1.length : Int) := of_decide_eq_true (by first | (with_reducible assumption) | assumption)
                obtain ⟨ad152, e152, hx152_0, hx152_1⟩ := at_T36 HR1.out x5_1 p152 q152
                cases e152
                replace p152 := eq_true p152
                replace q152 := eq_true q152
                go_wp2
                repeat (go_quiet (fail); try go_wp2)
                go_ret
                exact ⟨by first | rfl | (simp; done) | (simp [*]; done), by repeat (first | exact Drawn0.refl _ | apply Drawn0.step)⟩
              · rw [if_neg c7] at H
                have c7b0 : (!(((rd_T36 l0 x5_1).f0) == ((rd_T36 l1 x5_1).f0)) || (!(((rd_T36 l0 x5_1).f1) == ((rd_T36 l1 x5_1).f1)))) = false := by simpa using c7
                clear c7
                have H' := Aside0.mk H
                clear H
                have p151 : 0 ≤ (x5_1 : Int) := of_decide_eq_true (by first | (with_reducible assumption) | assumption)
                have q151 : x5_1 < (l0.length : Int) := of_decide_eq_true (by first | (with_reducible assumption) | assumption)
                obtain ⟨ad151, e151, hx151_0, hx151_1⟩ := at_T36 HR0.out x5_1 p151 q151
                cases e151
                replace p151 := eq_true p151
                replace q151 := eq_true q151
                have p152 : 0 ≤ (x5_1 : Int) := of_decide_eq_true (by first | (with_reducible assumption) | assumption)
                have q152 : x5_1 < (l1.length : Int) := of_decide_eq_true (by first | (with_reducible assumption) | assumption)
                obtain ⟨ad152, e152, hx152_0, hx152_1⟩ := at_T36 HR1.out x5_1 p152 q152
                cases e152
                replace p152 := eq_true p152
                replace q152 := eq_true q152
                go_wp2
                repeat (go_quiet (fail); try go_wp2)
                go_roundg k1
                case measure => have := HK1.out; omega
                case rel => exact ⟨(wrap64 (x5_1 + 1)), (by first | rfl | (simp; done) | (simp [*]; done) | (simp; rfl) | (simp; decide +kernel)), H', ⟨by have := HK1.out; omega⟩, by repeat (first | exact Drawn0.refl _ | apply Drawn0.step)⟩
            · rw [if_neg c6] at H
              exact absurd H (by simp)
          · rw [if_neg c5] at H
            exact absurd H (by simp)
        · rw [if_neg c4] at H
          have c4b0 : decide (x5_1 < (l0.length : Int)) = false := decide_eq_false c4
          clear c4
          obtain rfl := Option.some.inj H
          go_wp2
          repeat (go_quiet (fail); try go_wp2)
          go_ret
          exact ⟨by first | rfl | (simp; done) | (simp [*]; done), by repeat (first | exact Drawn0.refl _ | apply Drawn0.step)⟩
  · rw [if_neg c3] at H
    have c3b0 : ((l0.length : Int) == (l1.length : Int)) = false := beq_eq_false_iff_ne.mpr c3
    have c3b1 : ((l0.length : Int) != (l1.length : Int)) = true := bne_iff_ne.mpr c3
    have c3b2 : (l0.length == l1.length) = false := by first | simpa using c3 | (simp at c3 ⊢; omega)
    obtain rfl := Option.some.inj H
    go_enter Tryd.func18, Tryd.ntmps18
    go_wp2
    repeat (go_quiet (fail); try go_wp2)
    go_ret
    exact ⟨by first | rfl | (simp; done) | (simp [*]; done), by repeat (first | exact Drawn0.refl _ | apply Drawn0.step)⟩

end Go.Proofs.YtpnpmeogffodgaaDoor.Q
end
section
namespace Go.Proofs.YtpnpmeogffodgaaDoor.Q
open Go.RowKit Go.Proofs.YtpnpmeogffodgaaDoorW.PrintWords Go.Proofs.YtpnpmeogffodgaaDoorW.PrintLast Go.Proofs.YtpnpmeogffodgaaDoorW.PrintMore
attribute [local go_sem] max2_int min2_int max_two min_two max_three min_three max_four min_four run_store_fnV run_store_fnc run_store_nfn   -- for this text's walks alone
set_option linter.unusedVariables false
set_option linter.unusedSimpArgs false

/-! ### tree_Valid: function 16 -/
mutual
def tree_Valid.j0 : Nat → Bool → Int → Int → Int → List (List (S36)) → Option (Bool)
  | 0, _, _, _, _, _ => none
  | k + 1, x42, x154000, x154001, x154002, x154003 => if x42 = true then (some false) else (tree_Valid.l0 k x154003 (x154003.length : Int) 0 x154000 x154001 x154002 x154003)
def tree_Valid.l0 : Nat → List (List (S36)) → Int → Int → Int → Int → Int → List (List (S36)) → Option (Bool)
  | 0, _, _, _, _, _, _, _ => none
  | k + 1, x44, x45, x46, x154000, x154001, x154002, x154003 => if x46 < x45 then (if 0 ≤ x46 then (if x46 < (x44.length : Int) then (if 0 ≤ (wrap64 (x154001 - x46)) then (if ((rd_L3 x44 x46).length : Int) = (shl .i64 1 (wrap64 (x154001 - x46))) then ((tree_proper.f x154000 (rd_L3 x44 x46)).bind fun t156 => (if t156 = true then (tree_Valid.l0 k x44 x45 (wrap64 (x46 + 1)) x154000 x154001 x154002 x154003) else (some false))) else (some false)) else (none)) else (none)) else (none)) else (some true)
end
def tree_Valid.f (k : Nat) (a0_0 : Int) (a0_1 : Int) (a0_2 : Int) (l0_3 : List (List (S36))) : Option (Bool) := (field_Valid.f a0_0).bind fun t154 => (if t154 = true then (if a0_1 < 0 then (tree_Valid.j0 k true a0_0 a0_1 a0_2 l0_3) else (if a0_1 > 18 then (tree_Valid.j0 k true a0_0 a0_1 a0_2 l0_3) else (if a0_2 < 0 then (tree_Valid.j0 k true a0_0 a0_1 a0_2 l0_3) else (if a0_2 > a0_1 then (tree_Valid.j0 k true a0_0 a0_1 a0_2 l0_3) else (tree_Valid.j0 k ((l0_3.length : Int) != (wrap64 ((wrap64 (a0_1 - a0_2)) + 1))) a0_0 a0_1 a0_2 l0_3))))) else (tree_Valid.j0 k true a0_0 a0_1 a0_2 l0_3))
theorem tree_Valid.mono_l : ∀ k, (∀ y0 y1 y2 y3 y4, LeO (tree_Valid.j0 k y0 y1 y2 y3 y4) (tree_Valid.j0 (k + 1) y0 y1 y2 y3 y4)) ∧ (∀ y0 y1 y2 y3 y4 y5 y6, LeO (tree_Valid.l0 k y0 y1 y2 y3 y4 y5 y6) (tree_Valid.l0 (k + 1) y0 y1 y2 y3 y4 y5 y6))
  | 0 => ⟨fun _ _ _ _ _ r h => by simp [tree_Valid.j0] at h, fun _ _ _ _ _ _ _ r h => by simp [tree_Valid.l0] at h⟩
  | k + 1 => by
    obtain ⟨ih0, ih1⟩ := tree_Valid.mono_l k
    refine ⟨?_, ?_⟩
    · intro y0 y1 y2 y3 y4
      unfold tree_Valid.j0
      repeat' first
      | (with_reducible exact ih0 _ _ _ _ _)
      | (with_reducible exact ih1 _ _ _ _ _ _ _)
      | (with_reducible exact LeO.refl _)
      | (with_reducible exact LeO.none _)
      | (with_reducible refine LeO.ite ?_ ?_)
      | (with_reducible refine LeO.bind ?_ (fun _ => ?_))
      | exact ih0 _ _ _ _ _
      | exact ih1 _ _ _ _ _ _ _
      | exact LeO.none _
      | refine LeO.ite ?_ ?_
      | refine LeO.bind ?_ (fun _ => ?_)
    · intro y0 y1 y2 y3 y4 y5 y6
      unfold tree_Valid.l0
      repeat' first
      | (with_reducible exact ih0 _ _ _ _ _)
      | (with_reducible exact ih1 _ _ _ _ _ _ _)
      | (with_reducible exact LeO.refl _)
      | (with_reducible exact LeO.none _)
      | (with_reducible refine LeO.ite ?_ ?_)
      | (with_reducible refine LeO.bind ?_ (fun _ => ?_))
      | exact ih0 _ _ _ _ _
      | exact ih1 _ _ _ _ _ _ _
      | exact LeO.none _
      | refine LeO.ite ?_ ?_
      | refine LeO.bind ?_ (fun _ => ?_)
theorem tree_Valid.mono : ∀ a0 a1 a2 a3 k, LeO (tree_Valid.f k a0 a1 a2 a3) (tree_Valid.f (k + 1) a0 a1 a2 a3) := by
  intro a0 a1 a2 a3 k
  obtain ⟨ih0, ih1⟩ := tree_Valid.mono_l k
  unfold tree_Valid.f
  repeat' first
      | (with_reducible exact ih0 _ _ _ _ _)
      | (with_reducible exact ih1 _ _ _ _ _ _ _)
      | (with_reducible exact LeO.refl _)
      | (with_reducible exact LeO.none _)
      | (with_reducible refine LeO.ite ?_ ?_)
      | (with_reducible refine LeO.bind ?_ (fun _ => ?_))
      | exact ih0 _ _ _ _ _
      | exact ih1 _ _ _ _ _ _ _
      | exact LeO.none _
      | refine LeO.ite ?_ ?_
      | refine LeO.bind ?_ (fun _ => ?_)
set_option maxHeartbeats 8000000 in
set_option maxRecDepth 100000 in
theorem tree_Valid.calls (k : Nat) (a0_0 : Int) (a0_1 : Int) (a0_2 : Int) (A0_3 : Option Addr) (c0_3 : Nat) (l0_3 : List (List (S36))) (r : Bool) (w : World) (hr0_3 : Kd.C (Kd.slice 36 k36) w A0_3 l0_3.length l0_3) (hc0_3 : l0_3.length ≤ c0_3) (hrG : GL w) (h : tree_Valid.f k a0_0 a0_1 a0_2 l0_3 = some r) :
  Calls Tryd.prog 16 #[.agg #[.int .i64 a0_0, .int .i64 a0_1, .int .i64 a0_2, .slice A0_3 l0_3.length c0_3]] w fun e w' => e = .returned (.bool r) ∧ Below w.heap.size w w' := by
 have hu26 := Tryd.underlying26
 have HRG := Aside0.mk hrG
 clear hrG
 have HR0_3 := Aside0.mk hr0_3
 have HC0_3 := Aside0.mk hc0_3
 clear hr0_3 hc0_3
 have HB := Aside0.mk (Below.refl w.heap.size w)
 have H : ((field_Valid.f a0_0).bind fun t154 => (if t154 = true then (if a0_1 < 0 then (tree_Valid.j0 k true a0_0 a0_1 a0_2 l0_3) else (if a0_1 > 18 then (tree_Valid.j0 k true a0_0 a0_1 a0_2 l0_3) else (if a0_2 < 0 then (tree_Valid.j0 k true a0_0 a0_1 a0_2 l0_3) else (if a0_2 > a0_1 then (tree_Valid.j0 k true a0_0 a0_1 a0_2 l0_3) else (tree_Valid.j0 k ((l0_3.length : Int) != (wrap64 ((wrap64 (a0_1 - a0_2)) + 1))) a0_0 a0_1 a0_2 l0_3))))) else (tree_Valid.j0 k true a0_0 a0_1 a0_2 l0_3))) = some r := h
 clear h
 have HC2 := Aside0.mk H
 clear H
 go_enter Tryd.func16, Tryd.ntmps16
 go_upto_region 1 with (first | ((with_reducible refine gate_dst (N := 1) rfl ?_); (try (refine gate_guard (by rfl) ?_; dsimp only)); refine box_event ?hg (N := 1) ?hd (cs := #[.int .i64 a0_0, .int .i64 a0_1, .int .i64 a0_2, .slice A0_3 l0_3.length c0_3]) (t := 26) ?hr ?_; (case hd => rfl); (case hg => rfl); (case hr => first | (go_simp; done) | (go_simp; rfl)); intro g153 hg w3 hbox hb; have n0_ := Aside0.mk (below_step (by repeat (first | (with_reducible first | exact HB.out | apply below_alloc | apply pw_below_drewN | apply below_drew1) | exact HB.out)) hb); have n1_ := Aside0.mk (hbox); have n2_ := Aside0.mk ((by rw [hg]; exact (below_size (by repeat (first | (with_reducible first | exact HB.out | apply below_alloc | apply pw_below_drewN | apply below_drew1) | exact HB.out))) : w.heap.size ≤ g153)); have n3_ := Aside0.mk ((by rw [hg]; exact (below_size (by repeat (first | (with_reducible first | exact HB.out | apply below_alloc | apply pw_below_drewN | apply below_drew1) | exact HB.out))) : w.heap.size ≤ g153)); clear HB; have HB := n0_; have B153 := n1_; have GW153 := n2_; have GE153 := n3_; clear n0_ n1_ n2_ n3_; clear hb hbox hg))
 (try simp only [Act.put, sa_, sb_, sc_])
 go_cut [42] (fun v42 wc => ∃ (kq : Nat) (x42_1 : Bool), v42 = .bool x42_1 ∧ Aside0 (tree_Valid.j0 kq x42_1 a0_0 a0_1 a0_2 l0_3 = some r) ∧ Aside0 (kq ≤ k) ∧ Aside0 (wc.heap[g153]? = some (.cells #[.int .i64 a0_0, .int .i64 a0_1, .int .i64 a0_2, (.slice A0_3 l0_3.length c0_3)] 26 (0, 0))) ∧ Aside0 (Below w.heap.size w wc))
 case first =>
  have H := HC2.out
  clear HC2
  replace H := Option.bind_eq_some_iff.mp H
  obtain ⟨t154, A40, H⟩ := H
  have A4 := Aside0.mk A40
  clear A40
  by_cases c5 : t154 = true
  ·subst c5
   have H1 : (if a0_1 < 0 then (tree_Valid.j0 k true a0_0 a0_1 a0_2 l0_3) else (if a0_1 > 18 then (tree_Valid.j0 k true a0_0 a0_1 a0_2 l0_3) else (if a0_2 < 0 then (tree_Valid.j0 k true a0_0 a0_1 a0_2 l0_3) else (if a0_2 > a0_1 then (tree_Valid.j0 k true a0_0 a0_1 a0_2 l0_3) else (tree_Valid.j0 k ((l0_3.length : Int) != (wrap64 ((wrap64 (a0_1 - a0_2)) + 1))) a0_0 a0_1 a0_2 l0_3))))) = some r := by rw [if_pos rfl] at H; exact H
   clear H
   have H := H1
   clear H1
   by_cases c6 : a0_1 < 0
   ·rw [if_pos c6] at H
    have c6b0 : decide (a0_1 < 0) = true := decide_eq_true c6
    clear c6
    (first | rw [c6b0] | (simp only [i64_w, i32_w]; rw [c6b0]) | skip)
    have H' := Aside0.mk H
    clear H
    have hcz7_0 : w3.cell? ⟨g153, 0, none⟩ = some (.int .i64 a0_0) := bq_ B153 0
    have hcz7_1 : w3.cell? ⟨g153, 1, none⟩ = some (.int .i64 a0_1) := bq_ B153 1
    have hcz7_2 : w3.cell? ⟨g153, 2, none⟩ = some (.int .i64 a0_2) := bq_ B153 2
    have hcz7_3 : w3.cell? ⟨g153, 3, none⟩ = some (.slice A0_3 l0_3.length c0_3) := bq_ B153 3
    have hfz7_0 := blk_frozen B153.out 0
    have hfz7_1 := blk_frozen B153.out 1
    have hfz7_2 := blk_frozen B153.out 2
    have hfz7_3 := blk_frozen B153.out 3
    go_wp2_with (first | ((with_reducible refine gate_callee (f := 38) rfl ?_); refine goesL_ (some 7) rfl rfl Tryd.func38 (by kernel_rfl) rfl #[.int .i64 a0_0] rfl (by (try simp only [List.map_toArray, List.map_cons, List.map_nil]); first | done | rfl | (go_simp; done)) ?_; (with_reducible refine (field_Valid.calls a0_0 true _ A4.out).mono ?_); rintro e w' ⟨rfl, ⟨nd, rfl⟩⟩; refine ⟨_, rfl, ?_⟩))
    go_meet
    case rel => exact ⟨_, (true), (by first | rfl | (simp; done) | (simp [*]; done) | (simp; rfl) | (simp; decide +kernel)), H', ⟨by first | omega | exact Nat.le_refl _⟩, ⟨by exact B153.out⟩, ⟨by repeat (first | (with_reducible first | exact HB.out | apply below_alloc | apply pw_below_drewN | apply below_drew1 | refine below_set ?_ GE153.out) | exact HB.out)⟩⟩
   ·rw [if_neg c6] at H
    have c6b0 : decide (a0_1 < 0) = false := decide_eq_false c6
    clear c6
    (first | rw [c6b0] | (simp only [i64_w, i32_w]; rw [c6b0]) | skip)
    by_cases c8 : a0_1 > 18
    ·rw [if_pos c8] at H
     have c8b0 : decide (18 < a0_1) = true := decide_eq_true c8
     clear c8
     have H' := Aside0.mk H
     clear H
     have hcz9_0 : w3.cell? ⟨g153, 0, none⟩ = some (.int .i64 a0_0) := bq_ B153 0
     have hcz9_1 : w3.cell? ⟨g153, 1, none⟩ = some (.int .i64 a0_1) := bq_ B153 1
     have hcz9_2 : w3.cell? ⟨g153, 2, none⟩ = some (.int .i64 a0_2) := bq_ B153 2
     have hcz9_3 : w3.cell? ⟨g153, 3, none⟩ = some (.slice A0_3 l0_3.length c0_3) := bq_ B153 3
     have hfz9_0 := blk_frozen B153.out 0
     have hfz9_1 := blk_frozen B153.out 1
     have hfz9_2 := blk_frozen B153.out 2
     have hfz9_3 := blk_frozen B153.out 3
     go_wp2_with (first | ((with_reducible refine gate_callee (f := 38) rfl ?_); refine goesL_ (some 7) rfl rfl Tryd.func38 (by kernel_rfl) rfl #[.int .i64 a0_0] rfl (by (try simp only [List.map_toArray, List.map_cons, List.map_nil]); first | done | rfl | (go_simp; done)) ?_; (with_reducible refine (field_Valid.calls a0_0 true _ A4.out).mono ?_); rintro e w' ⟨rfl, ⟨nd, rfl⟩⟩; refine ⟨_, rfl, ?_⟩))
     go_meet
     case rel => exact ⟨_, (true), (by first | rfl | (simp; done) | (simp [*]; done) | (simp; rfl) | (simp; decide +kernel)), H', ⟨by first | omega | exact Nat.le_refl _⟩, ⟨by exact B153.out⟩, ⟨by repeat (first | (with_reducible first | exact HB.out | apply below_alloc | apply pw_below_drewN | apply below_drew1 | refine below_set ?_ GE153.out) | exact HB.out)⟩⟩
    ·rw [if_neg c8] at H
     have c8b0 : decide (18 < a0_1) = false := decide_eq_false c8
     clear c8
     by_cases c10 : a0_2 < 0
     ·rw [if_pos c10] at H
      have c10b0 : decide (a0_2 < 0) = true := decide_eq_true c10
      clear c10
      have H' := Aside0.mk H
      clear H
      have hcz11_0 : w3.cell? ⟨g153, 0, none⟩ = some (.int .i64 a0_0) := bq_ B153 0
      have hcz11_1 : w3.cell? ⟨g153, 1, none⟩ = some (.int .i64 a0_1) := bq_ B153 1
      have hcz11_2 : w3.cell? ⟨g153, 2, none⟩ = some (.int .i64 a0_2) := bq_ B153 2
      have hcz11_3 : w3.cell? ⟨g153, 3, none⟩ = some (.slice A0_3 l0_3.length c0_3) := bq_ B153 3
      have hfz11_0 := blk_frozen B153.out 0
      have hfz11_1 := blk_frozen B153.out 1
      have hfz11_2 := blk_frozen B153.out 2
      have hfz11_3 := blk_frozen B153.out 3
      go_wp2_with (first | ((with_reducible refine gate_callee (f := 38) rfl ?_); refine goesL_ (some 7) rfl rfl Tryd.func38 (by kernel_rfl) rfl #[.int .i64 a0_0] rfl (by (try simp only [List.map_toArray, List.map_cons, List.map_nil]); first | done | rfl | (go_simp; done)) ?_; (with_reducible refine (field_Valid.calls a0_0 true _ A4.out).mono ?_); rintro e w' ⟨rfl, ⟨nd, rfl⟩⟩; refine ⟨_, rfl, ?_⟩))
      go_meet
      case rel => exact ⟨_, (true), (by first | rfl | (simp; done) | (simp [*]; done) | (simp; rfl) | (simp; decide +kernel)), H', ⟨by first | omega | exact Nat.le_refl _⟩, ⟨by exact B153.out⟩, ⟨by repeat (first | (with_reducible first | exact HB.out | apply below_alloc | apply pw_below_drewN | apply below_drew1 | refine below_set ?_ GE153.out) | exact HB.out)⟩⟩
     ·rw [if_neg c10] at H
      have c10b0 : decide (a0_2 < 0) = false := decide_eq_false c10
      clear c10
      by_cases c12 : a0_2 > a0_1
      ·rw [if_pos c12] at H
       have c12b0 : decide (a0_1 < a0_2) = true := decide_eq_true c12
       clear c12
       have H' := Aside0.mk H
       clear H
       have hcz13_0 : w3.cell? ⟨g153, 0, none⟩ = some (.int .i64 a0_0) := bq_ B153 0
       have hcz13_1 : w3.cell? ⟨g153, 1, none⟩ = some (.int .i64 a0_1) := bq_ B153 1
       have hcz13_2 : w3.cell? ⟨g153, 2, none⟩ = some (.int .i64 a0_2) := bq_ B153 2
       have hcz13_3 : w3.cell? ⟨g153, 3, none⟩ = some (.slice A0_3 l0_3.length c0_3) := bq_ B153 3
       have hfz13_0 := blk_frozen B153.out 0
       have hfz13_1 := blk_frozen B153.out 1
       have hfz13_2 := blk_frozen B153.out 2
       have hfz13_3 := blk_frozen B153.out 3
       go_wp2_with (first | ((with_reducible refine gate_callee (f := 38) rfl ?_); refine goesL_ (some 7) rfl rfl Tryd.func38 (by kernel_rfl) rfl #[.int .i64 a0_0] rfl (by (try simp only [List.map_toArray, List.map_cons, List.map_nil]); first | done | rfl | (go_simp; done)) ?_; (with_reducible refine (field_Valid.calls a0_0 true _ A4.out).mono ?_); rintro e w' ⟨rfl, ⟨nd, rfl⟩⟩; refine ⟨_, rfl, ?_⟩))
       go_meet
       case rel => exact ⟨_, (true), (by first | rfl | (simp; done) | (simp [*]; done) | (simp; rfl) | (simp; decide +kernel)), H', ⟨by first | omega | exact Nat.le_refl _⟩, ⟨by exact B153.out⟩, ⟨by repeat (first | (with_reducible first | exact HB.out | apply below_alloc | apply pw_below_drewN | apply below_drew1 | refine below_set ?_ GE153.out) | exact HB.out)⟩⟩
      ·rw [if_neg c12] at H
       have c12b0 : decide (a0_1 < a0_2) = false := decide_eq_false c12
       clear c12
       have H' := Aside0.mk H
       clear H
       have hcz14_0 : w3.cell? ⟨g153, 0, none⟩ = some (.int .i64 a0_0) := bq_ B153 0
       have hcz14_1 : w3.cell? ⟨g153, 1, none⟩ = some (.int .i64 a0_1) := bq_ B153 1
       have hcz14_2 : w3.cell? ⟨g153, 2, none⟩ = some (.int .i64 a0_2) := bq_ B153 2
       have hcz14_3 : w3.cell? ⟨g153, 3, none⟩ = some (.slice A0_3 l0_3.length c0_3) := bq_ B153 3
       have hfz14_0 := blk_frozen B153.out 0
       have hfz14_1 := blk_frozen B153.out 1
       have hfz14_2 := blk_frozen B153.out 2
       have hfz14_3 := blk_frozen B153.out 3
       go_wp2_with (first | ((with_reducible refine gate_callee (f := 38) rfl ?_); refine goesL_ (some 7) rfl rfl Tryd.func38 (by kernel_rfl) rfl #[.int .i64 a0_0] rfl (by (try simp only [List.map_toArray, List.map_cons, List.map_nil]); first | done | rfl | (go_simp; done)) ?_; (with_reducible refine (field_Valid.calls a0_0 true _ A4.out).mono ?_); rintro e w' ⟨rfl, ⟨nd, rfl⟩⟩; refine ⟨_, rfl, ?_⟩))
       go_meet
       case rel => exact ⟨_, (((l0_3.length : Int) != (wrap64 ((wrap64 (a0_1 - a0_2)) + 1)))), (by first | rfl | (simp; done) | (simp [*]; done) | (simp; rfl) | (simp; decide +kernel)), H', ⟨by first | omega | exact Nat.le_refl _⟩, ⟨by exact B153.out⟩, ⟨by repeat (first | (with_reducible first | exact HB.out | apply below_alloc | apply pw_below_drewN | apply below_drew1 | refine below_set ?_ GE153.out) | exact HB.out)⟩⟩
  ·replace c5 := Bool.eq_false_iff.mpr c5
   subst c5
   have H1 : (tree_Valid.j0 k true a0_0 a0_1 a0_2 l0_3) = some r := by rw [if_neg (show ¬ (false = true) by decide)] at H; exact H
   clear H
   have H := H1
   clear H1
   have H' := Aside0.mk H
   clear H
   have hcz15_0 : w3.cell? ⟨g153, 0, none⟩ = some (.int .i64 a0_0) := bq_ B153 0
   have hcz15_1 : w3.cell? ⟨g153, 1, none⟩ = some (.int .i64 a0_1) := bq_ B153 1
   have hcz15_2 : w3.cell? ⟨g153, 2, none⟩ = some (.int .i64 a0_2) := bq_ B153 2
   have hcz15_3 : w3.cell? ⟨g153, 3, none⟩ = some (.slice A0_3 l0_3.length c0_3) := bq_ B153 3
   have hfz15_0 := blk_frozen B153.out 0
   have hfz15_1 := blk_frozen B153.out 1
   have hfz15_2 := blk_frozen B153.out 2
   have hfz15_3 := blk_frozen B153.out 3
   go_wp2_with (first | ((with_reducible refine gate_callee (f := 38) rfl ?_); refine goesL_ (some 7) rfl rfl Tryd.func38 (by kernel_rfl) rfl #[.int .i64 a0_0] rfl (by (try simp only [List.map_toArray, List.map_cons, List.map_nil]); first | done | rfl | (go_simp; done)) ?_; (with_reducible refine (field_Valid.calls a0_0 false _ A4.out).mono ?_); rintro e w' ⟨rfl, ⟨nd, rfl⟩⟩; refine ⟨_, rfl, ?_⟩))
   go_meet
   case rel => exact ⟨_, (true), (by first | rfl | (simp; done) | (simp [*]; done) | (simp; rfl) | (simp; decide +kernel)), H', ⟨by first | omega | exact Nat.le_refl _⟩, ⟨by exact B153.out⟩, ⟨by repeat (first | (with_reducible first | exact HB.out | apply below_alloc | apply pw_below_drewN | apply below_drew1 | refine below_set ?_ GE153.out) | exact HB.out)⟩⟩
 case rest =>
  clear HC2
  try clear c1
  try clear p2
  try clear c3
  try clear c5
  try clear c6
  try clear c6b0
  try clear p6
  try clear c8
  try clear c8b0
  try clear c10
  try clear c10b0
  try clear c12
  try clear c12b0
  try clear hcz11_0
  try clear hcz11_1
  try clear hcz11_2
  try clear hcz11_3
  try clear hcz13_0
  try clear hcz13_1
  try clear hcz13_2
  try clear hcz13_3
  try clear hcz14_0
  try clear hcz14_1
  try clear hcz14_2
  try clear hcz14_3
  try clear hcz15_0
  try clear hcz15_1
  try clear hcz15_2
  try clear hcz15_3
  try clear hcz7_0
  try clear hcz7_1
  try clear hcz7_2
  try clear hcz7_3
  try clear hcz9_0
  try clear hcz9_1
  try clear hcz9_2
  try clear hcz9_3
  try clear hfz11_0
  try clear hfz11_1
  try clear hfz11_2
  try clear hfz11_3
  try clear hfz13_0
  try clear hfz13_1
  try clear hfz13_2
  try clear hfz13_3
  try clear hfz14_0
  try clear hfz14_1
  try clear hfz14_2
  try clear hfz14_3
  try clear hfz15_0
  try clear hfz15_1
  try clear hfz15_2
  try clear hfz15_3
  try clear hfz7_0
  try clear hfz7_1
  try clear hfz7_2
  try clear hfz7_3
  try clear hfz9_0
  try clear hfz9_1
  try clear hfz9_2
  try clear hfz9_3
  obtain ⟨kq, x42_1, rfl, HA, HJ1, B153, HB⟩ := hcut
  cases kq with
  | zero => exact absurd HA.out (by simp [tree_Valid.j0])
  | succ kj1 =>
   have H := HA.out
   clear HA
   simp only [tree_Valid.j0] at H
   by_cases c16 : x42_1 = true
   ·subst c16
    have H1 : (some false) = some r := by rw [if_pos rfl] at H; exact H
    clear H
    have H := H1
    clear H1
    obtain rfl := Option.some.inj H
    go_wp2
    go_ret
    exact ⟨by first | rfl | (simp [errW_none, errW_some] <;> rfl) | (simp [*, errW_none, errW_some] <;> rfl), by repeat (first | (with_reducible first | exact HB.out | apply below_alloc | apply pw_below_drewN | apply below_drew1 | refine below_set ?_ GE153.out) | exact HB.out)⟩
   ·replace c16 := Bool.eq_false_iff.mpr c16
    subst c16
    have H1 : (tree_Valid.l0 kj1 l0_3 (l0_3.length : Int) 0 a0_0 a0_1 a0_2 l0_3) = some r := by rw [if_neg (show ¬ (false = true) by decide)] at H; exact H
    clear H
    have H := H1
    clear H1
    have H' := Aside0.mk H
    clear H
    have hcz17_0 : wc.cell? ⟨g153, 0, none⟩ = some (.int .i64 a0_0) := bq_ B153 0
    have hcz17_1 : wc.cell? ⟨g153, 1, none⟩ = some (.int .i64 a0_1) := bq_ B153 1
    have hcz17_2 : wc.cell? ⟨g153, 2, none⟩ = some (.int .i64 a0_2) := bq_ B153 2
    have hcz17_3 : wc.cell? ⟨g153, 3, none⟩ = some (.slice A0_3 l0_3.length c0_3) := bq_ B153 3
    have hfz17_0 := blk_frozen B153.out 0
    have hfz17_1 := blk_frozen B153.out 1
    have hfz17_2 := blk_frozen B153.out 2
    have hfz17_3 := blk_frozen B153.out 3
    go_wp2
    go_loopg [46] kj1 (fun kq v46 w' => ∃ (x46_2 : Int), v46 = .int .i64 x46_2 ∧ Aside0 (tree_Valid.l0 kq l0_3 (l0_3.length : Int) x46_2 a0_0 a0_1 a0_2 l0_3 = some r) ∧ Aside0 (kq ≤ kj1) ∧ Aside0 (w'.heap[g153]? = some (.cells #[.int .i64 a0_0, .int .i64 a0_1, .int .i64 a0_2, (.slice A0_3 l0_3.length c0_3)] 26 (0, 0))) ∧ Aside0 (Below w.heap.size w w'))
    case atStart => exact ⟨(0), (by first | rfl | (simp; done) | (simp [*]; done) | (simp; rfl) | (simp; decide +kernel)), H', ⟨Nat.le_refl _⟩, ⟨by exact B153.out⟩, ⟨by repeat (first | (with_reducible first | exact HB.out | apply below_alloc | apply pw_below_drewN | apply below_drew1 | refine below_set ?_ GE153.out) | exact HB.out)⟩⟩
    case round =>
     clear H'
     try clear c1
     try clear p2
     try clear c3
     try clear c5
     try clear c6
     try clear c6b0
     try clear p6
     try clear c8
     try clear c8b0
     try clear c10
     try clear c10b0
     try clear c12
     try clear c12b0
     try clear c16
     try clear hcz11_0
     try clear hcz11_1
     try clear hcz11_2
     try clear hcz11_3
     try clear hcz13_0
     try clear hcz13_1
     try clear hcz13_2
     try clear hcz13_3
     try clear hcz14_0
     try clear hcz14_1
     try clear hcz14_2
     try clear hcz14_3
     try clear hcz15_0
     try clear hcz15_1
     try clear hcz15_2
     try clear hcz15_3
     try clear hcz17_0
     try clear hcz17_1
     try clear hcz17_2
     try clear hcz17_3
     try clear hcz7_0
     try clear hcz7_1
     try clear hcz7_2
     try clear hcz7_3
     try clear hcz9_0
     try clear hcz9_1
     try clear hcz9_2
     try clear hcz9_3
     try clear hfz11_0
     try clear hfz11_1
     try clear hfz11_2
     try clear hfz11_3
     try clear hfz13_0
     try clear hfz13_1
     try clear hfz13_2
     try clear hfz13_3
     try clear hfz14_0
     try clear hfz14_1
     try clear hfz14_2
     try clear hfz14_3
     try clear hfz15_0
     try clear hfz15_1
     try clear hfz15_2
     try clear hfz15_3
     try clear hfz17_0
     try clear hfz17_1
     try clear hfz17_2
     try clear hfz17_3
     try clear hfz7_0
     try clear hfz7_1
     try clear hfz7_2
     try clear hfz7_3
     try clear hfz9_0
     try clear hfz9_1
     try clear hfz9_2
     try clear hfz9_3
     try clear p2
     try clear p6
     obtain ⟨x46_2, rfl, HA, HK2, B153, HB⟩ := hrel
     cases gk with
     | zero => exact absurd HA.out (by simp [tree_Valid.l0])
     | succ k2 =>
      have H := HA.out
      clear HA
      simp only [tree_Valid.l0] at H
      by_cases c18 : x46_2 < (l0_3.length : Int)
      ·rw [if_pos c18] at H
       have c18b0 : decide (x46_2 < (l0_3.length : Int)) = true := decide_eq_true c18
       clear c18
       by_cases c19 : 0 ≤ x46_2
       ·rw [if_pos c19] at H
        have c19b0 : decide (0 ≤ x46_2) = true := decide_eq_true c19
        clear c19
        by_cases c20 : x46_2 < (l0_3.length : Int)
        ·rw [if_pos c20] at H
         have c20b0 : decide (x46_2 < (l0_3.length : Int)) = true := decide_eq_true c20
         clear c20
         obtain ⟨ji21, hji21⟩ : ∃ j_ : Int, (wrap64 (a0_1 - x46_2)) = j_ := ⟨_, rfl⟩
         replace H : (if 0 ≤ (ji21) then (if ((rd_L3 l0_3 x46_2).length : Int) = (shl .i64 1 (ji21)) then ((tree_proper.f a0_0 (rd_L3 l0_3 x46_2)).bind fun t156 => (if t156 = true then (tree_Valid.l0 k2 l0_3 (l0_3.length : Int) (wrap64 (x46_2 + 1)) a0_0 a0_1 a0_2 l0_3) else (some false))) else (some false)) else (none)) = some r := by first | (rw [hji21] at H; exact H) | (simp only [hji21] at H ⊢; exact H)
         have hji21w : (IntKind.i64.wrap (a0_1 - x46_2)) = ji21 := (i64_w _).trans hji21
         by_cases c22 : 0 ≤ (ji21)
         ·rw [if_pos c22] at H
          have c22b0 := eq_true c22
          have c22b1 : decide (0 ≤ (ji21)) = true := decide_eq_true c22
          clear c22
          obtain ⟨ji23, hji23⟩ : ∃ j_ : Int, (shl .i64 1 (ji21)) = j_ := ⟨_, rfl⟩
          replace H : (if ((rd_L3 l0_3 x46_2).length : Int) = (ji23) then ((tree_proper.f a0_0 (rd_L3 l0_3 x46_2)).bind fun t156 => (if t156 = true then (tree_Valid.l0 k2 l0_3 (l0_3.length : Int) (wrap64 (x46_2 + 1)) a0_0 a0_1 a0_2 l0_3) else (some false))) else (some false)) = some r := by first | (rw [hji23] at H; exact H) | (simp only [hji23] at H ⊢; exact H)
          have hji23_ : (IntKind.i64.wrap (1 * 2 ^ min (ji21).toNat 64)) = ji23 := hji23
          have hji23z : (ji21) ≤ 64 → (IntKind.i64.wrap (1 * 2 ^ (ji21).toNat)) = ji23 := shl_small hji23
          have hji23u : (IntKind.i64.wrap (2 ^ min (ji21).toNat 64)) = ji23 := by have h_ := hji23_; rw [Int.one_mul] at h_; exact h_
          have hji23v : (ji21) ≤ 64 → (IntKind.i64.wrap (2 ^ (ji21).toNat)) = ji23 := fun hle_ => by have h_ := hji23z hle_; rw [Int.one_mul] at h_; exact h_
          have hji23y : (wrap64 (1 * 2 ^ min (ji21).toNat 64)) = ji23 := (i64_w _).symm.trans hji23_
          have hji23x : (ji21) ≤ 64 → (wrap64 (1 * 2 ^ (ji21).toNat)) = ji23 := fun h_ => (i64_w _).symm.trans (hji23z h_)
          by_cases c24 : ((rd_L3 l0_3 x46_2).length : Int) = (ji23)
          ·rw [if_pos c24] at H
           have c24b0 : (((rd_L3 l0_3 x46_2).length : Int) == (ji23)) = true := beq_iff_eq.mpr c24
           have c24b1 : (((rd_L3 l0_3 x46_2).length : Int) != (ji23)) = false := bne_eq_false_iff_eq.mpr c24
           clear c24
           replace H := Option.bind_eq_some_iff.mp H
           obtain ⟨t156, A250, H⟩ := H
           have A25 := Aside0.mk A250
           clear A250
           by_cases c26 : t156 = true
           ·subst c26
            have H1 : (tree_Valid.l0 k2 l0_3 (l0_3.length : Int) (wrap64 (x46_2 + 1)) a0_0 a0_1 a0_2 l0_3) = some r := by rw [if_pos rfl] at H; exact H
            clear H
            have H := H1
            clear H1
            have H' := Aside0.mk H
            clear H
            have p155 : 0 ≤ (x46_2 : Int) := of_decide_eq_true (by first | (with_reducible assumption) | assumption)
            have q155 : x46_2 < (l0_3.length : Int) := of_decide_eq_true (by first | (with_reducible assumption) | assumption)
            obtain ⟨ad155, A155_0, c155_0, e155, hx155_0, hl155_0, hi155_0⟩ := at_L3 HR0_3.out x46_2 p155 q155
            cases e155
            replace hx155_0 := (HB.out.cell (World.block_lt_of_cell? w _ hx155_0)).trans hx155_0
            have HR155_0 := Aside0.mk hi155_0
            have HC155_0 := Aside0.mk hl155_0
            clear hi155_0 hl155_0
            replace p155 := eq_true p155
            replace q155 := eq_true q155
            have hcz27_0 : wr.cell? ⟨g153, 0, none⟩ = some (.int .i64 a0_0) := bq_ B153 0
            have hcz27_1 : wr.cell? ⟨g153, 1, none⟩ = some (.int .i64 a0_1) := bq_ B153 1
            have hcz27_2 : wr.cell? ⟨g153, 2, none⟩ = some (.int .i64 a0_2) := bq_ B153 2
            have hcz27_3 : wr.cell? ⟨g153, 3, none⟩ = some (.slice (some ad155) l0_3.length c0_3) := bq_ B153 3
            have hfz27_0 := blk_frozen B153.out 0
            have hfz27_1 := blk_frozen B153.out 1
            have hfz27_2 := blk_frozen B153.out 2
            have hfz27_3 := blk_frozen B153.out 3
            go_wp2_with (first | (go_at_call 39; (with_reducible refine (tree_proper.calls a0_0 _ _ (rd_L3 l0_3 x46_2) true _ ?side1 ?side2 ?side3 A25.out).mono ?_); (case side1 => repeat (first | exact (Kd.C_below HR155_0.out HB.out) | (with_reducible refine Kd.C_alloc ?_ _) | (with_reducible refine Kd.C_drewN ?_ _) | (with_reducible refine Kd.C_drew ?_))); (case side2 => exact HC155_0.out); (case side3 => repeat (first | exact (GL.below HRG.out HB.out) | (with_reducible refine GL.alloc ?_ _) | (with_reducible refine GL.drewN ?_ _) | (with_reducible refine GL.drew ?_))); rintro e w28 ⟨rfl, hb⟩; have n0_ := Aside0.mk (blk_below (g := g153) (o := .cells #[.int .i64 a0_0, .int .i64 a0_1, .int .i64 a0_2, .slice (some ad155) l0_3.length c0_3] 26 (0, 0)) (by exact B153.out) hb); have n1_ := Aside0.mk (below_step (by repeat (first | (with_reducible first | exact HB.out | apply below_alloc | apply pw_below_drewN | apply below_drew1 | refine below_set ?_ GE153.out) | exact HB.out)) hb); clear B153; clear HB; have B153 := n0_; have HB := n1_; clear n0_ n1_; (try clear hb); (try clear hb2); (try clear hk); (try clear hi)))
            go_roundg k2
            case measure => have := HJ1.out; have := HK2.out; omega
            case rel => exact ⟨(wrap64 (x46_2 + 1)), (by first | rfl | (simp; done) | (simp [*]; done) | (simp; rfl) | (simp; decide +kernel)), H', ⟨by have := HJ1.out; have := HK2.out; omega⟩, ⟨by exact B153.out⟩, ⟨by repeat (first | (with_reducible first | exact HB.out | apply below_alloc | apply pw_below_drewN | apply below_drew1 | refine below_set ?_ GE153.out) | exact HB.out)⟩⟩
           ·replace c26 := Bool.eq_false_iff.mpr c26
            subst c26
            have H1 : (some false) = some r := by rw [if_neg (show ¬ (false = true) by decide)] at H; exact H
            clear H
            have H := H1
            clear H1
            obtain rfl := Option.some.inj H
            have p155 : 0 ≤ (x46_2 : Int) := of_decide_eq_true (by first | (with_reducible assumption) | assumption)
            have q155 : x46_2 < (l0_3.length : Int) := of_decide_eq_true (by first | (with_reducible assumption) | assumption)
            obtain ⟨ad155, A155_0, c155_0, e155, hx155_0, hl155_0, hi155_0⟩ := at_L3 HR0_3.out x46_2 p155 q155
            cases e155
            replace hx155_0 := (HB.out.cell (World.block_lt_of_cell? w _ hx155_0)).trans hx155_0
            have HR155_0 := Aside0.mk hi155_0
            have HC155_0 := Aside0.mk hl155_0
            clear hi155_0 hl155_0
            replace p155 := eq_true p155
            replace q155 := eq_true q155
            have hcz29_0 : wr.cell? ⟨g153, 0, none⟩ = some (.int .i64 a0_0) := bq_ B153 0
            have hcz29_1 : wr.cell? ⟨g153, 1, none⟩ = some (.int .i64 a0_1) := bq_ B153 1
            have hcz29_2 : wr.cell? ⟨g153, 2, none⟩ = some (.int .i64 a0_2) := bq_ B153 2
            have hcz29_3 : wr.cell? ⟨g153, 3, none⟩ = some (.slice (some ad155) l0_3.length c0_3) := bq_ B153 3
            have hfz29_0 := blk_frozen B153.out 0
            have hfz29_1 := blk_frozen B153.out 1
            have hfz29_2 := blk_frozen B153.out 2
            have hfz29_3 := blk_frozen B153.out 3
            go_wp2_with (first | (go_at_call 39; (with_reducible refine (tree_proper.calls a0_0 _ _ (rd_L3 l0_3 x46_2) false _ ?side1 ?side2 ?side3 A25.out).mono ?_); (case side1 => repeat (first | exact (Kd.C_below HR155_0.out HB.out) | (with_reducible refine Kd.C_alloc ?_ _) | (with_reducible refine Kd.C_drewN ?_ _) | (with_reducible refine Kd.C_drew ?_))); (case side2 => exact HC155_0.out); (case side3 => repeat (first | exact (GL.below HRG.out HB.out) | (with_reducible refine GL.alloc ?_ _) | (with_reducible refine GL.drewN ?_ _) | (with_reducible refine GL.drew ?_))); rintro e w30 ⟨rfl, hb⟩; have n0_ := Aside0.mk (blk_below (g := g153) (o := .cells #[.int .i64 a0_0, .int .i64 a0_1, .int .i64 a0_2, .slice (some ad155) l0_3.length c0_3] 26 (0, 0)) (by exact B153.out) hb); have n1_ := Aside0.mk (below_step (by repeat (first | (with_reducible first | exact HB.out | apply below_alloc | apply pw_below_drewN | apply below_drew1 | refine below_set ?_ GE153.out) | exact HB.out)) hb); clear B153; clear HB; have B153 := n0_; have HB := n1_; clear n0_ n1_; (try clear hb); (try clear hb2); (try clear hk); (try clear hi)))
            go_ret
            exact ⟨by first | rfl | (simp [errW_none, errW_some] <;> rfl) | (simp only [← hji21, ← hji23]; first | rfl | (simp [errW_none, errW_some] <;> rfl)) | (simp [*, errW_none, errW_some] <;> rfl), by repeat (first | (with_reducible first | exact HB.out | apply below_alloc | apply pw_below_drewN | apply below_drew1 | refine below_set ?_ GE153.out) | exact HB.out)⟩
          ·rw [if_neg c24] at H
           have c24b0 : (((rd_L3 l0_3 x46_2).length : Int) == (ji23)) = false := beq_eq_false_iff_ne.mpr c24
           have c24b1 : (((rd_L3 l0_3 x46_2).length : Int) != (ji23)) = true := bne_iff_ne.mpr c24
           obtain rfl := Option.some.inj H
           have p155 : 0 ≤ (x46_2 : Int) := of_decide_eq_true (by first | (with_reducible assumption) | assumption)
           have q155 : x46_2 < (l0_3.length : Int) := of_decide_eq_true (by first | (with_reducible assumption) | assumption)
           obtain ⟨ad155, A155_0, c155_0, e155, hx155_0, hl155_0, hi155_0⟩ := at_L3 HR0_3.out x46_2 p155 q155
           cases e155
           replace hx155_0 := (HB.out.cell (World.block_lt_of_cell? w _ hx155_0)).trans hx155_0
           have HR155_0 := Aside0.mk hi155_0
           have HC155_0 := Aside0.mk hl155_0
           clear hi155_0 hl155_0
           replace p155 := eq_true p155
           replace q155 := eq_true q155
           have hcz31_0 : wr.cell? ⟨g153, 0, none⟩ = some (.int .i64 a0_0) := bq_ B153 0
           have hcz31_1 : wr.cell? ⟨g153, 1, none⟩ = some (.int .i64 a0_1) := bq_ B153 1
           have hcz31_2 : wr.cell? ⟨g153, 2, none⟩ = some (.int .i64 a0_2) := bq_ B153 2
           have hcz31_3 : wr.cell? ⟨g153, 3, none⟩ = some (.slice (some ad155) l0_3.length c0_3) := bq_ B153 3
           have hfz31_0 := blk_frozen B153.out 0
           have hfz31_1 := blk_frozen B153.out 1
           have hfz31_2 := blk_frozen B153.out 2
           have hfz31_3 := blk_frozen B153.out 3
           go_wp2
           go_ret
           exact ⟨by first | rfl | (simp [errW_none, errW_some] <;> rfl) | (simp only [← hji21, ← hji23]; first | rfl | (simp [errW_none, errW_some] <;> rfl)) | (simp [*, errW_none, errW_some] <;> rfl), by repeat (first | (with_reducible first | exact HB.out | apply below_alloc | apply pw_below_drewN | apply below_drew1 | refine below_set ?_ GE153.out) | exact HB.out)⟩
         ·rw [if_neg c22] at H
          exact absurd H (by simp)
        ·rw [if_neg c20] at H
         exact absurd H (by simp)
       ·rw [if_neg c19] at H
        exact absurd H (by simp)
      ·rw [if_neg c18] at H
       have c18b0 : decide (x46_2 < (l0_3.length : Int)) = false := decide_eq_false c18
       clear c18
       obtain rfl := Option.some.inj H
       go_wp2
       go_ret
       exact ⟨by first | rfl | (simp [errW_none, errW_some] <;> rfl) | (simp [*, errW_none, errW_some] <;> rfl), by repeat (first | (with_reducible first | exact HB.out | apply below_alloc | apply pw_below_drewN | apply below_drew1 | refine below_set ?_ GE153.out) | exact HB.out)⟩

end Go.Proofs.YtpnpmeogffodgaaDoor.Q
end
section
namespace Go.Proofs.YtpnpmeogffodgaaDoor.Q
open Go.RowKit Go.Proofs.YtpnpmeogffodgaaDoorW.PrintWords Go.Proofs.YtpnpmeogffodgaaDoorW.PrintLast Go.Proofs.YtpnpmeogffodgaaDoorW.PrintMore
attribute [local go_sem] max2_int min2_int max_two min_two max_three min_three max_four min_four   -- for this text's walks alone
set_option linter.unusedVariables false
set_option linter.unusedSimpArgs false

/-! ### slices_Clone: function 45 -/
def slices_Clone.f (l0 : List (S36)) : Option ((List (S36))) := (some (([] : List (S36)) : List (S36))).bind fun y101 => (if y101.length + l0.length < 8796093022208 then (some (y101 ++ l0)) else (none))
set_option maxHeartbeats 8000000 in
set_option maxRecDepth 100000 in
theorem slices_Clone.calls_some (a0_ : Addr) (c0 : Nat) (l0 : List (S36)) (r : List (S36)) (w : World) (hr0 : Kd.C k36 w (some a0_) l0.length l0) (hc0 : l0.length ≤ c0) (h : slices_Clone.f l0 = some r) :
    Calls Tryd.prog 45 #[.slice (some a0_) l0.length c0] w fun e w' => ∃ v0_ : Value, e = .returned (v0_) ∧ Kd.R k36 36 w' w.heap.size (fun _ => True) v0_ r ∧ Below w.heap.size w w' := by
  have HR0 := Aside0.mk hr0
  have HC0 := Aside0.mk hc0
  clear hr0 hc0
  have HB := Aside0.mk (Below.refl w.heap.size w)
  have H : ((some (([] : List (S36)) : List (S36))).bind fun y101 => (if y101.length + l0.length < 8796093022208 then (some (y101 ++ l0)) else (none))) = some r := h
  clear h
  obtain ⟨y101, hy101⟩ : ∃ y_ : List (S36), y_ = (([] : List (S36))) := ⟨_, rfl⟩
  replace H : (if y101.length + l0.length < 8796093022208 then (some (y101 ++ l0)) else (none)) = some r := by first | (rw [hy101]; with_reducible exact H) | (have H2_ := (Option.bind_some _ _).symm.trans H; rw [hy101]; with_reducible exact H2_) | (have H2_ := (Option.bind_some _ _).symm.trans H; with_reducible exact H2_) | with_reducible exact H | (rw [hy101]; exact H) | exact H
  have Ny101 := Aside0.mk hy101
  clear hy101
  by_cases c2 : y101.length + l0.length < 8796093022208
  · rw [if_pos c2] at H
    have LMc2 := Aside0.mk c2
    clear c2
    obtain ⟨y104, hy104⟩ : ∃ y_ : List (S36), y_ = (y101 ++ l0) := ⟨_, rfl⟩
    replace H : (some y104) = some r := by first | (rw [hy104]; with_reducible exact H) | (have H2_ := (Option.bind_some _ _).symm.trans H; rw [hy104]; with_reducible exact H2_) | (have H2_ := (Option.bind_some _ _).symm.trans H; with_reducible exact H2_) | with_reducible exact H | (rw [hy104]; exact H) | exact H
    have Ny104 := Aside0.mk hy104
    clear hy104
    obtain rfl := Option.some.inj H
    have hnil := fun (W : World) => Lib.run_eql_slice_nil (P := Tryd.prog) W 22 36 (some a0_) l0.length c0 0 0 Tryd.underlying22
    go_enter Tryd.func45, Tryd.ntmps45
    go_wp2_with (first | ((with_reducible refine gate_dst (N := 5) rfl ?_); refine Kd.R_lit k36 _ 36 ?hg (N := 5) ?hd (xs := ([] : List (S36))) (inner := []) (ok := fun _ => True) (okp := fun _ => True) ?hr ?hp (fun _ hk => hk) trivial (Below.refl _ _) (Nat.le_refl _) (by simp) ?_; (case hd => rfl); (case hg => rfl); (case hr => first | (go_simp; done) | (go_simp; rfl)); (case hp => exact (Reps.none _ _)); intro v102 w3 ho4 hb hg_ hnew_; clear hg_ hnew_; (first | rw [← Ny101.out] at ho4 | (simp only [Int.reduceToNat] at ho4; rw [← Ny101.out] at ho4)); have n0_ := Aside0.mk (Kd.R_lower ho4 (below_size (by repeat (first | (with_reducible first | exact HB.out | apply below_alloc | apply pw_below_drewN | apply below_drew1) | exact HB.out)))); have n1_ := Aside0.mk (below_step (by repeat (first | (with_reducible first | exact HB.out | apply below_alloc | apply pw_below_drewN | apply below_drew1) | exact HB.out)) hb); clear HB; have HO103 := n0_; have HB := n1_; clear n0_ n1_; clear hb ho4) | ((with_reducible refine gate_builtin (b := .append) (xs := #[.tmp 5, .tmp 6]) rfl ?_); at_builtin; refine Kd.R_append_rows k36 (w0 := w) w.heap.size rfl (.tmp 5) (.tmp 6) 22 36 (.agg #[(.int .u64 0), (.int .u64 0)]) 16 rfl Tryd.underlying22 info36 rfl (by decide) (by omega) v102 y101 l0 _ _ _ (fun _ => True) (fun _ => False) rfl rfl ?aO ?aR (fun _ _ h => h) (fun _ h => h.elim) ?aF ?aB ?aS ?aL ?_; (case aR => repeat (first | exact (Kd.C_below HR0.out HB.out) | (with_reducible refine Kd.C_alloc ?_ _) | (with_reducible refine Kd.C_drewN ?_ _) | (with_reducible refine Kd.C_drew ?_))); (case aB => exact (by repeat (first | (with_reducible first | exact HB.out | apply below_alloc | apply pw_below_drewN | apply below_drew1) | exact HB.out))); (case aF => exact (fun _ _ => trivial)); (case aO => exact (by (with_reducible repeat (first | apply Kd.R_alloc | apply Kd.R_drewN | apply Kd.R_drew)); exact HO103.out)); (case aS => exact (below_size (by repeat (first | (with_reducible first | exact HB.out | apply below_alloc | apply pw_below_drewN | apply below_drew1) | exact HB.out)))); (case aL => have := LMc2.out; omega); intro v105 w5 ho hb hg hat; rw [← Ny104.out] at ho; have n0_ := Aside0.mk (hb); have n1_ := Aside0.mk (ho); clear HB; clear HO103; have HB := n0_; have HO106 := n1_; clear n0_ n1_; clear ho hb hg hat))
    go_ret
    exact ⟨_, by first | rfl | (simp [errW_none, errW_some] <;> rfl) | (simp [*, errW_none, errW_some] <;> rfl), by (with_reducible repeat (first | apply Kd.R_alloc | apply Kd.R_drewN | apply Kd.R_drew)); exact HO106.out, by repeat (first | (with_reducible first | exact HB.out | apply below_alloc | apply pw_below_drewN | apply below_drew1) | exact HB.out)⟩
  · rw [if_neg c2] at H
    exact absurd H (by simp)
set_option maxHeartbeats 1000000 in
theorem slices_Clone.calls_none (c0 : Nat) (l0 : List (S36)) (r : List (S36)) (w : World) (hr0 : Kd.C k36 w none l0.length l0) (hc0 : l0.length ≤ c0) (h : slices_Clone.f l0 = some r) :
    Calls Tryd.prog 45 #[.slice none l0.length c0] w fun e w' => ∃ v0_ : Value, e = .returned (v0_) ∧ Kd.R k36 36 w' w.heap.size (fun _ => True) v0_ r ∧ Below w.heap.size w w' := by
  have hl0 : l0 = [] := by
    by_cases hz : l0.length = 0
    · exact List.eq_nil_of_length_eq_zero hz
    · obtain ⟨ad, c, e, _⟩ := Kd.C_get hr0 z36 0 (by omega) (by omega)
      cases e
  subst hl0
  unfold slices_Clone.f at h
  have hr : r = [] := by simp at h; first | exact h | exact h.symm
  subst hr
  clear h hr0 hc0
  have hnil := fun (W : World) => Lib.run_eql_slice_nil (P := Tryd.prog) W 22 36 none 0 c0 0 0 Tryd.underlying22
  go_enter Tryd.func45, Tryd.ntmps45
  go_wp2
  go_ret
  exact ⟨_, rfl, by first | exact Kd.R_nil _ _ _ _ _ | exact Kd.S_nil _ _ _ _ _ | exact Kd.N_nil _ _ _ _ _ | exact Kd.V_nil _ _ _ _ _ | exact Kd.Q_nil _ _ _ _ _, Below.refl _ _⟩
theorem slices_Clone.calls (A0 : Option Addr) (c0 : Nat) (l0 : List (S36)) (r : List (S36)) (w : World) (hr0 : Kd.C k36 w A0 l0.length l0) (hc0 : l0.length ≤ c0) (h : slices_Clone.f l0 = some r) :
    Calls Tryd.prog 45 #[.slice A0 l0.length c0] w fun e w' => ∃ v0_ : Value, e = .returned (v0_) ∧ Kd.R k36 36 w' w.heap.size (fun _ => True) v0_ r ∧ Below w.heap.size w w' := by
  cases A0 with
  | none => exact slices_Clone.calls_none c0 l0 r w hr0 hc0 h
  | some a => exact slices_Clone.calls_some a c0 l0 r w hr0 hc0 h
end Go.Proofs.YtpnpmeogffodgaaDoor.Q
end
