/- Several texts in one, in build order. What they prove, each by its own first remark:
Written by our own copy of a printing program (a twelfth state) out of the translation. Not trusted: Lean checks it.
Of PRepl what this claim needs.
Rows of rows told by their headers: what tree.Replace keeps of them. -/
import Derived.Test.YtpnpmeogffodgaaDoorM2
import Derived.Test.YtpnpmeogffodgaaDoorM3
import Derived.Test.YtpnpmeogffodgaaDoorM4
section
namespace Go.Proofs.YtpnpmeogffodgaaDoor.Q
open Go.RowKit Go.Proofs.YtpnpmeogffodgaaDoorW.PrintWords Go.Proofs.YtpnpmeogffodgaaDoorW.PrintLast Go.Proofs.YtpnpmeogffodgaaDoorW.PrintMore
attribute [local go_sem] max2_int min2_int max_two min_two max_three min_three max_four min_four run_store_fnV run_store_fnc run_store_nfn   -- for this text's walks alone
set_option linter.unusedVariables false
set_option linter.unusedSimpArgs false

/-! ### attestorref07_Same: function 15 -/
mutual
def attestorref07_Same.j0 : Nat → Bool → Int → Int → Int → List (List (S36)) → Int → Int → Int → List (List (S36)) → Option (Bool)
  | 0, _, _, _, _, _, _, _, _, _ => none
  | k + 1, dt, aR, aS, aT, aG, aU, aV, aW, aH => if dt = true then (some false) else (attestorref07_Same.l0 k 0 aR aS aT aG aU aV aW aH)
def attestorref07_Same.l0 : Nat → Int → Int → Int → Int → List (List (S36)) → Int → Int → Int → List (List (S36)) → Option (Bool)
  | 0, _, _, _, _, _, _, _, _, _ => none
  | k + 1, x5, aR, aS, aT, aG, aU, aV, aW, aH => if x5 < (aG.length : Int) then (if 0 ≤ x5 then (if x5 < (aH.length : Int) then ((attestorref07_Equal.f k (rd_L3 aG x5) (rd_L3 aH x5)).bind fun bd => (if bd = true then (attestorref07_Same.l0 k (wrap64 (x5 + 1)) aR aS aT aG aU aV aW aH) else (some false))) else (none)) else (none)) else (some true)
end
def attestorref07_Same.f (k : Nat) (ae : Int) (af : Int) (ag : Int) (ad : List (List (S36))) (al : Int) (am : Int) (ao : Int) (ah : List (List (S36))) : Option (Bool) := if ae = al then (if af = am then (if ag = ao then (attestorref07_Same.j0 k ((ad.length : Int) != (ah.length : Int)) ae af ag ad al am ao ah) else (attestorref07_Same.j0 k true ae af ag ad al am ao ah)) else (attestorref07_Same.j0 k true ae af ag ad al am ao ah)) else (attestorref07_Same.j0 k true ae af ag ad al am ao ah)
theorem attestorref07_Same.mono_l : ∀ k, (∀ y0 y1 y2 y3 y4 y5 y6 y7 y8, LeO (attestorref07_Same.j0 k y0 y1 y2 y3 y4 y5 y6 y7 y8) (attestorref07_Same.j0 (k + 1) y0 y1 y2 y3 y4 y5 y6 y7 y8)) ∧ (∀ y0 y1 y2 y3 y4 y5 y6 y7 y8, LeO (attestorref07_Same.l0 k y0 y1 y2 y3 y4 y5 y6 y7 y8) (attestorref07_Same.l0 (k + 1) y0 y1 y2 y3 y4 y5 y6 y7 y8))
  | 0 => ⟨fun _ _ _ _ _ _ _ _ _ r h => by simp [attestorref07_Same.j0] at h, fun _ _ _ _ _ _ _ _ _ r h => by simp [attestorref07_Same.l0] at h⟩
  | k + 1 => by
    obtain ⟨ih0, ih1⟩ := attestorref07_Same.mono_l k
    refine ⟨?_, ?_⟩
    · intro y0 y1 y2 y3 y4 y5 y6 y7 y8
      unfold attestorref07_Same.j0
      repeat' first
      | (with_reducible exact ih0 _ _ _ _ _ _ _ _ _)
      | (with_reducible exact ih1 _ _ _ _ _ _ _ _ _)
      | (with_reducible exact attestorref07_Equal.mono _ _ _)
      | (with_reducible exact LeO.refl _)
      | (with_reducible exact LeO.none _)
      | (with_reducible refine LeO.ite ?_ ?_)
      | (with_reducible refine LeO.bind ?_ (fun _ => ?_))
      | exact ih0 _ _ _ _ _ _ _ _ _
      | exact ih1 _ _ _ _ _ _ _ _ _
      | exact attestorref07_Equal.mono _ _ _
      | exact LeO.none _
      | refine LeO.ite ?_ ?_
      | refine LeO.bind ?_ (fun _ => ?_)
    · intro y0 y1 y2 y3 y4 y5 y6 y7 y8
      unfold attestorref07_Same.l0
      repeat' first
      | (with_reducible exact ih0 _ _ _ _ _ _ _ _ _)
      | (with_reducible exact ih1 _ _ _ _ _ _ _ _ _)
      | (with_reducible exact attestorref07_Equal.mono _ _ _)
      | (with_reducible exact LeO.refl _)
      | (with_reducible exact LeO.none _)
      | (with_reducible refine LeO.ite ?_ ?_)
      | (with_reducible refine LeO.bind ?_ (fun _ => ?_))
      | exact ih0 _ _ _ _ _ _ _ _ _
      | exact ih1 _ _ _ _ _ _ _ _ _
      | exact attestorref07_Equal.mono _ _ _
      | exact LeO.none _
      | refine LeO.ite ?_ ?_
      | refine LeO.bind ?_ (fun _ => ?_)
theorem attestorref07_Same.mono : ∀ a0 a1 a2 a3 a4 a5 a6 a7 k, LeO (attestorref07_Same.f k a0 a1 a2 a3 a4 a5 a6 a7) (attestorref07_Same.f (k + 1) a0 a1 a2 a3 a4 a5 a6 a7) := by
  intro a0 a1 a2 a3 a4 a5 a6 a7 k
  obtain ⟨ih0, ih1⟩ := attestorref07_Same.mono_l k
  unfold attestorref07_Same.f
  repeat' first
      | (with_reducible exact ih0 _ _ _ _ _ _ _ _ _)
      | (with_reducible exact ih1 _ _ _ _ _ _ _ _ _)
      | (with_reducible exact attestorref07_Equal.mono _ _ _)
      | (with_reducible exact LeO.refl _)
      | (with_reducible exact LeO.none _)
      | (with_reducible refine LeO.ite ?_ ?_)
      | (with_reducible refine LeO.bind ?_ (fun _ => ?_))
      | exact ih0 _ _ _ _ _ _ _ _ _
      | exact ih1 _ _ _ _ _ _ _ _ _
      | exact attestorref07_Equal.mono _ _ _
      | exact LeO.none _
      | refine LeO.ite ?_ ?_
      | refine LeO.bind ?_ (fun _ => ?_)
set_option maxHeartbeats 8000000 in
set_option maxRecDepth 100000 in
theorem attestorref07_Same.calls (k : Nat) (ae : Int) (af : Int) (ag : Int) (ap : Option Addr) (aq : Nat) (ad : List (List (S36))) (al : Int) (am : Int) (ao : Int) (aE : Option Addr) (aF : Nat) (ah : List (List (S36))) (r : Bool) (w : World) (bg : Kd.C (Kd.slice 36 k36) w ap ad.length ad) (bh : ad.length ≤ aq) (bi : Kd.C (Kd.slice 36 k36) w aE ah.length ah) (bj : ah.length ≤ aF) (h : attestorref07_Same.f k ae af ag ad al am ao ah = some r) :
  Calls Tryd.prog 15 #[.agg #[.int .i64 ae, .int .i64 af, .int .i64 ag, .slice ap ad.length aq], .agg #[.int .i64 al, .int .i64 am, .int .i64 ao, .slice aE ah.length aF]] w fun e w' => e = .returned (.bool r) ∧ Below w.heap.size w w' := by
 have hu26 := Tryd.underlying26
 have bk := aj bg
 have dv := aj bh
 clear bg bh
 have bl := aj bi
 have dw := aj bj
 clear bi bj
 have HB := aj (Below.refl w.heap.size w)
 have H : (if ae = al then (if af = am then (if ag = ao then (attestorref07_Same.j0 k ((ad.length : Int) != (ah.length : Int)) ae af ag ad al am ao ah) else (attestorref07_Same.j0 k true ae af ag ad al am ao ah)) else (attestorref07_Same.j0 k true ae af ag ad al am ao ah)) else (attestorref07_Same.j0 k true ae af ag ad al am ao ah)) = some r := h
 clear h
 have bq := aj H
 clear H
 go_enter Tryd.func15, Tryd.ntmps15
 go_upto_region 1 with (first | ((with_reducible refine gate_dst (N := 2) rfl ?_); (try (refine gate_guard (by rfl) ?_; dsimp only)); refine box_event ?hg (N := 2) ?hd (cs := #[.int .i64 ae, .int .i64 af, .int .i64 ag, .slice ap ad.length aq]) (t := 26) ?hr ?_; (case hd => rfl); (case hg => rfl); (case hr => first | (go_simp; done) | (go_simp; rfl)); intro ac hg w4 hbox hb; have aC := aj (below_step HB.out hb); have aD := aj (hbox); have aX := aj ((by rw [hg]; exact (below_size HB.out) : w.heap.size ≤ ac)); clear HB; have HB := aC; have aa := aD; have av := aX; clear aC aD aX; clear hb hbox hg) | ((with_reducible refine gate_dst (N := 3) rfl ?_); (try (refine gate_guard (by rfl) ?_; dsimp only)); refine box_event ?hg (N := 3) ?hd (cs := #[.int .i64 al, .int .i64 am, .int .i64 ao, .slice aE ah.length aF]) (t := 26) ?hr ?_; (case hd => rfl); (case hg => rfl); (case hr => first | (go_simp; done) | (go_simp; rfl)); intro ak hg w5 hbox hb; have aC := aj (blk_below aa.out hb); have aD := aj (below_step HB.out hb); have aY := aj (hbox); have aZ := aj ((by rw [hg]; exact (below_size HB.out) : w.heap.size ≤ ak)); have a8 := aj ((by rw [hg]; exact Nat.ne_of_lt (blk_lt aa.out) : ac ≠ ak)); have a9 := aj ((by rw [hg]; exact Nat.ne_of_gt (blk_lt aa.out) : ak ≠ ac)); clear aa; clear HB; have aa := aC; have HB := aD; have ab := aY; have aM := aZ; have ar := a8; have au := a9; clear aC aD aY aZ a8 a9; clear hb hbox hg))
 repeat (go_quiet (first | ((with_reducible refine gate_dst (N := 2) rfl ?_); (try (refine gate_guard (by rfl) ?_; dsimp only)); refine box_event ?hg (N := 2) ?hd (cs := #[.int .i64 ae, .int .i64 af, .int .i64 ag, .slice ap ad.length aq]) (t := 26) ?hr ?_; (case hd => rfl); (case hg => rfl); (case hr => first | (go_simp; done) | (go_simp; rfl)); intro ac hg w4 hbox hb; have aC := aj (below_step HB.out hb); have aD := aj (hbox); have aX := aj ((by rw [hg]; exact (below_size HB.out) : w.heap.size ≤ ac)); clear HB; have HB := aC; have aa := aD; have av := aX; clear aC aD aX; clear hb hbox hg) | ((with_reducible refine gate_dst (N := 3) rfl ?_); (try (refine gate_guard (by rfl) ?_; dsimp only)); refine box_event ?hg (N := 3) ?hd (cs := #[.int .i64 al, .int .i64 am, .int .i64 ao, .slice aE ah.length aF]) (t := 26) ?hr ?_; (case hd => rfl); (case hg => rfl); (case hr => first | (go_simp; done) | (go_simp; rfl)); intro ak hg w5 hbox hb; have aC := aj (blk_below aa.out hb); have aD := aj (below_step HB.out hb); have aY := aj (hbox); have aZ := aj ((by rw [hg]; exact (below_size HB.out) : w.heap.size ≤ ak)); have a8 := aj ((by rw [hg]; exact Nat.ne_of_lt (blk_lt aa.out) : ac ≠ ak)); have a9 := aj ((by rw [hg]; exact Nat.ne_of_gt (blk_lt aa.out) : ak ≠ ac)); clear aa; clear HB; have aa := aC; have HB := aD; have ab := aY; have aM := aZ; have ar := a8; have au := a9; clear aC aD aY aZ a8 a9; clear hb hbox hg)); go_upto_region 1 with (first | ((with_reducible refine gate_dst (N := 2) rfl ?_); (try (refine gate_guard (by rfl) ?_; dsimp only)); refine box_event ?hg (N := 2) ?hd (cs := #[.int .i64 ae, .int .i64 af, .int .i64 ag, .slice ap ad.length aq]) (t := 26) ?hr ?_; (case hd => rfl); (case hg => rfl); (case hr => first | (go_simp; done) | (go_simp; rfl)); intro ac hg w4 hbox hb; have aC := aj (below_step HB.out hb); have aD := aj (hbox); have aX := aj ((by rw [hg]; exact (below_size HB.out) : w.heap.size ≤ ac)); clear HB; have HB := aC; have aa := aD; have av := aX; clear aC aD aX; clear hb hbox hg) | ((with_reducible refine gate_dst (N := 3) rfl ?_); (try (refine gate_guard (by rfl) ?_; dsimp only)); refine box_event ?hg (N := 3) ?hd (cs := #[.int .i64 al, .int .i64 am, .int .i64 ao, .slice aE ah.length aF]) (t := 26) ?hr ?_; (case hd => rfl); (case hg => rfl); (case hr => first | (go_simp; done) | (go_simp; rfl)); intro ak hg w5 hbox hb; have aC := aj (blk_below aa.out hb); have aD := aj (below_step HB.out hb); have aY := aj (hbox); have aZ := aj ((by rw [hg]; exact (below_size HB.out) : w.heap.size ≤ ak)); have a8 := aj ((by rw [hg]; exact Nat.ne_of_lt (blk_lt aa.out) : ac ≠ ak)); have a9 := aj ((by rw [hg]; exact Nat.ne_of_gt (blk_lt aa.out) : ak ≠ ac)); clear aa; clear HB; have aa := aC; have HB := aD; have ab := aY; have aM := aZ; have ar := a8; have au := a9; clear aC aD aY aZ a8 a9; clear hb hbox hg)))
 (try simp only [Act.put, List.setIfInBounds_toArray, List.set_cons_zero, List.set_cons_succ])
 go_cut [33] (fun du wc => ∃ (kq : Nat) (ba : Bool), du = .bool ba ∧ Aside0 (attestorref07_Same.j0 kq ba ae af ag ad al am ao ah = some r) ∧ Aside0 (kq ≤ k) ∧ Aside0 (wc.heap[ac]? = some (.cells #[.int .i64 ae, .int .i64 af, .int .i64 ag, (.slice ap ad.length aq)] 26 (0, 0))) ∧ Aside0 (wc.heap[ak]? = some (.cells #[.int .i64 al, .int .i64 am, .int .i64 ao, (.slice aE ah.length aF)] 26 (0, 0))) ∧ Aside0 (Below w.heap.size w wc))
 case first =>
  have H := bq.out
  clear bq
  by_cases c6 : ae = al
  ·rw [if_pos c6] at H
   have c6b0 : (ae == al) = true := beq_iff_eq.mpr c6
   have c6b1 : (ae != al) = false := bne_eq_false_iff_eq.mpr c6
   clear c6
   (first | rw [c6b0] | (simp only [i64_w, i32_w]; rw [c6b0]) | skip)
   by_cases c7 : af = am
   ·rw [if_pos c7] at H
    have c7b0 : (af == am) = true := beq_iff_eq.mpr c7
    have c7b1 : (af != am) = false := bne_eq_false_iff_eq.mpr c7
    clear c7
    by_cases c8 : ag = ao
    ·rw [if_pos c8] at H
     have c8b0 : (ag == ao) = true := beq_iff_eq.mpr c8
     have c8b1 : (ag != ao) = false := bne_eq_false_iff_eq.mpr c8
     clear c8
     have H' := aj H
     clear H
     have dF := ar.out
     have dG := au.out
     have bC := bq_ aa 0
     have bD := bq_ aa 1
     have bE := bq_ aa 2
     have bF := bq_ aa 3
     have bG := blk_frozen aa.out 0
     have bH := blk_frozen aa.out 1
     have bI := blk_frozen aa.out 2
     have bJ := blk_frozen aa.out 3
     have bK := bq_ ab 0
     have bL := bq_ ab 1
     have bM := bq_ ab 2
     have bN := bq_ ab 3
     have bO := blk_frozen ab.out 0
     have bP := blk_frozen ab.out 1
     have bQ := blk_frozen ab.out 2
     have bR := blk_frozen ab.out 3
     go_wp2
     repeat (go_quiet (fail); try go_wp2)
     go_meet
     case rel => exact ⟨_, (((ad.length : Int) != (ah.length : Int))), (by first | rfl | simp), H', ⟨by first | omega | exact Nat.le_refl _⟩, ⟨aa.out⟩, ⟨ab.out⟩, ⟨HB.out⟩⟩
    ·rw [if_neg c8] at H
     have c8b0 : (ag == ao) = false := beq_eq_false_iff_ne.mpr c8
     have c8b1 : (ag != ao) = true := bne_iff_ne.mpr c8
     have H' := aj H
     clear H
     have dx := ar.out
     have dy := au.out
     have bS := bq_ aa 0
     have bT := bq_ aa 1
     have bU := bq_ aa 2
     have bV := bq_ aa 3
     have bW := blk_frozen aa.out 0
     have bX := blk_frozen aa.out 1
     have bY := blk_frozen aa.out 2
     have bZ := blk_frozen aa.out 3
     have b0 := bq_ ab 0
     have b1 := bq_ ab 1
     have b2 := bq_ ab 2
     have b3 := bq_ ab 3
     have b4 := blk_frozen ab.out 0
     have b5 := blk_frozen ab.out 1
     have b6 := blk_frozen ab.out 2
     have b7 := blk_frozen ab.out 3
     go_wp2
     repeat (go_quiet (fail); try go_wp2)
     go_meet
     case rel => exact ⟨_, (true), (by first | rfl | simp), H', ⟨by first | omega | exact Nat.le_refl _⟩, ⟨aa.out⟩, ⟨ab.out⟩, ⟨HB.out⟩⟩
   ·rw [if_neg c7] at H
    have c7b0 : (af == am) = false := beq_eq_false_iff_ne.mpr c7
    have c7b1 : (af != am) = true := bne_iff_ne.mpr c7
    have H' := aj H
    clear H
    have dz := ar.out
    have dA := au.out
    have b8 := bq_ aa 0
    have b9 := bq_ aa 1
    have ca := bq_ aa 2
    have cb := bq_ aa 3
    have cc := blk_frozen aa.out 0
    have cd := blk_frozen aa.out 1
    have ce := blk_frozen aa.out 2
    have cf := blk_frozen aa.out 3
    have cg := bq_ ab 0
    have ci := bq_ ab 1
    have cj := bq_ ab 2
    have ck := bq_ ab 3
    have cl := blk_frozen ab.out 0
    have cm := blk_frozen ab.out 1
    have cn := blk_frozen ab.out 2
    have co := blk_frozen ab.out 3
    go_wp2
    repeat (go_quiet (fail); try go_wp2)
    go_meet
    case rel => exact ⟨_, (true), (by first | rfl | simp), H', ⟨by first | omega | exact Nat.le_refl _⟩, ⟨aa.out⟩, ⟨ab.out⟩, ⟨HB.out⟩⟩
  ·rw [if_neg c6] at H
   have c6b0 : (ae == al) = false := beq_eq_false_iff_ne.mpr c6
   have c6b1 : (ae != al) = true := bne_iff_ne.mpr c6
   (first | rw [c6b0] | (simp only [i64_w, i32_w]; rw [c6b0]) | skip)
   have H' := aj H
   clear H
   have dB := ar.out
   have dC := au.out
   have cp := bq_ aa 0
   have cq := bq_ aa 1
   have cr := bq_ aa 2
   have ct := bq_ aa 3
   have cu := blk_frozen aa.out 0
   have cv := blk_frozen aa.out 1
   have cw := blk_frozen aa.out 2
   have cx := blk_frozen aa.out 3
   have cy := bq_ ab 0
   have cz := bq_ ab 1
   have cA := bq_ ab 2
   have cB := bq_ ab 3
   have cC := blk_frozen ab.out 0
   have cD := blk_frozen ab.out 1
   have cE := blk_frozen ab.out 2
   have cF := blk_frozen ab.out 3
   go_wp2
   repeat (go_quiet (fail); try go_wp2)
   go_meet
   case rel => exact ⟨_, (true), (by first | rfl | simp), H', ⟨by first | omega | exact Nat.le_refl _⟩, ⟨aa.out⟩, ⟨ab.out⟩, ⟨HB.out⟩⟩
 case rest =>
  clear bq
  obtain ⟨kq, ba, rfl, HA, bA, aa, ab, HB⟩ := hcut
  cases kq with
  | zero => exact absurd HA.out (by simp [attestorref07_Same.j0])
  | succ kj2 =>
   have H := HA.out
   clear HA
   simp only [attestorref07_Same.j0] at H
   by_cases bm : ba = true
   ·subst bm
    have H1 : (some false) = some r := by rw [if_pos rfl] at H; exact H
    clear H
    have H := H1
    clear H1
    obtain rfl := Option.some.inj H
    go_wp2
    repeat (go_quiet (fail); try go_wp2)
    go_ret
    exact ⟨by first | rfl | (simp [errW_none, errW_some] <;> rfl) | (simp [*, errW_none, errW_some] <;> rfl), HB.out⟩
   ·replace bm := Bool.eq_false_iff.mpr bm
    subst bm
    have H1 : (attestorref07_Same.l0 kj2 0 ae af ag ad al am ao ah) = some r := by rw [if_neg (show ¬ (false = true) by decide)] at H; exact H
    clear H
    have H := H1
    clear H1
    have H' := aj H
    clear H
    go_wp2
    repeat (go_quiet (fail); try go_wp2)
    go_loopg [5] kj2 (fun kq v5 w' => ∃ (ai : Int), v5 = .int .i64 ai ∧ Aside0 (attestorref07_Same.l0 kq ai ae af ag ad al am ao ah = some r) ∧ Aside0 (kq ≤ kj2) ∧ Aside0 (w'.heap[ac]? = some (.cells #[.int .i64 ae, .int .i64 af, .int .i64 ag, (.slice ap ad.length aq)] 26 (0, 0))) ∧ Aside0 (w'.heap[ak]? = some (.cells #[.int .i64 al, .int .i64 am, .int .i64 ao, (.slice aE ah.length aF)] 26 (0, 0))) ∧ Aside0 (Below w.heap.size w w'))
    case atStart => exact ⟨(0), (by first | rfl | simp), H', ⟨Nat.le_refl _⟩, ⟨aa.out⟩, ⟨ab.out⟩, ⟨HB.out⟩⟩
    case round =>
     clear H'
     obtain ⟨ai, rfl, HA, bB, aa, ab, HB⟩ := hrel
     cases gk with
     | zero => exact absurd HA.out (by simp [attestorref07_Same.l0])
     | succ k2 =>
      have H := HA.out
      clear HA
      simp only [attestorref07_Same.l0] at H
      by_cases bb : ai < (ad.length : Int)
      ·rw [if_pos bb] at H
       have c22b0 : decide (ai < (ad.length : Int)) = true := decide_eq_true bb
       clear bb
       by_cases bn : 0 ≤ ai
       ·rw [if_pos bn] at H
        have c23b0 : decide (0 ≤ ai) = true := decide_eq_true bn
        clear bn
        by_cases bo : ai < (ah.length : Int)
        ·rw [if_pos bo] at H
         have c24b0 : decide (ai < (ah.length : Int)) = true := decide_eq_true bo
         clear bo
         replace H := Option.bind_eq_some_iff.mp H
         obtain ⟨bd, br, H⟩ := H
         replace H : (if bd = true then (attestorref07_Same.l0 k2 (wrap64 (ai + 1)) ae af ag ad al am ao ah) else (some false)) = some r := H
         have bc := aj br
         clear br
         by_cases bp : bd = true
         ·subst bp
          have H1 : (attestorref07_Same.l0 k2 (wrap64 (ai + 1)) ae af ag ad al am ao ah) = some r := by rw [if_pos rfl] at H; exact H
          clear H
          have H := H1
          clear H1
          have H' := aj H
          clear H
          obtain ⟨cG, cH, cI, cJ, cK, cL, cM, cN⟩ := bc4 aa
          have aN : 0 ≤ (ai : Int) := of_decide_eq_true (by assumption)
          have aO : ai < (ad.length : Int) := of_decide_eq_true (by assumption)
          obtain ⟨bx, bs, bu, be, aw, aI, aJ⟩ := at_L3 bk.out ai aN aO
          cases be
          replace aw := (HB.out.cell (World.block_lt_of_cell? w _ aw)).trans aw
          have ax := aj aJ
          have ay := aj aI
          clear aJ aI
          replace aN := eq_true aN
          replace aO := eq_true aO
          obtain ⟨cO, cP, cQ, cR, cS, cT, cU, cV⟩ := bc4 ab
          have aP : 0 ≤ (ai : Int) := of_decide_eq_true (by assumption)
          have aQ : ai < (ah.length : Int) := of_decide_eq_true (by assumption)
          obtain ⟨bz, bv, bw, bf, az, aK, aL⟩ := at_L3 bl.out ai aP aQ
          cases bf
          replace az := (HB.out.cell (World.block_lt_of_cell? w _ az)).trans az
          have aA := aj aL
          have aB := aj aK
          clear aL aK
          replace aP := eq_true aP
          replace aQ := eq_true aQ
          go_wp2_with (first | (go_at_call 18; (with_reducible refine (attestorref07_Equal.calls k2 _ _ (rd_L3 ad ai) _ _ (rd_L3 ah ai) true _ ?side1 ?side2 ?side3 ?side4 bc.out).mono ?_); (case side1 => exact (Kd.C_below ax.out HB.out)); (case side2 => exact ay.out); (case side3 => exact (Kd.C_below aA.out HB.out)); (case side4 => exact aB.out); rintro e w' ⟨rfl, ⟨nd, rfl⟩⟩; (try first | exact ⟨rfl, _, World.drewN_drewN _ _ _⟩ | exact ⟨rfl, _, Eq.trans (World.drewN_drewN _ _ _) (congrArg (World.drewN _) (Nat.add_assoc _ _ _))⟩)))
          repeat (go_quiet (first | (go_at_call 18; (with_reducible refine (attestorref07_Equal.calls k2 _ _ (rd_L3 ad ai) _ _ (rd_L3 ah ai) true _ ?side1 ?side2 ?side3 ?side4 bc.out).mono ?_); (case side1 => repeat (first | exact (Kd.C_below ax.out HB.out) | (with_reducible refine Kd.C_alloc ?_ _) | (with_reducible refine Kd.C_drewN ?_ _) | (with_reducible refine Kd.C_drew ?_))); (case side2 => exact ay.out); (case side3 => repeat (first | exact (Kd.C_below aA.out HB.out) | (with_reducible refine Kd.C_alloc ?_ _) | (with_reducible refine Kd.C_drewN ?_ _) | (with_reducible refine Kd.C_drew ?_))); (case side4 => exact aB.out); rintro e w' ⟨rfl, ⟨nd, rfl⟩⟩; (try first | exact ⟨rfl, _, World.drewN_drewN _ _ _⟩ | exact ⟨rfl, _, Eq.trans (World.drewN_drewN _ _ _) (congrArg (World.drewN _) (Nat.add_assoc _ _ _))⟩))); try go_wp2)
          go_roundg k2
          case measure => have := bA.out; have := bB.out; omega
          case rel => exact ⟨(wrap64 (ai + 1)), (by first | rfl | simp), H', ⟨by have := bA.out; have := bB.out; omega⟩, ⟨aa.out⟩, ⟨ab.out⟩, ⟨(by first | exact HB.out | exact below_drew1 HB.out | exact pw_below_drewN HB.out _)⟩⟩
         ·replace bp := Bool.eq_false_iff.mpr bp
          subst bp
          have H1 : (some false) = some r := by rw [if_neg (show ¬ (false = true) by decide)] at H; exact H
          clear H
          have H := H1
          clear H1
          obtain rfl := Option.some.inj H
          obtain ⟨cW, cX, cY, cZ, c0, c1, da, db⟩ := bc4 aa
          have aN : 0 ≤ (ai : Int) := of_decide_eq_true (by assumption)
          have aO : ai < (ad.length : Int) := of_decide_eq_true (by assumption)
          obtain ⟨bx, bs, bu, be, aw, aI, aJ⟩ := at_L3 bk.out ai aN aO
          cases be
          replace aw := (HB.out.cell (World.block_lt_of_cell? w _ aw)).trans aw
          have ax := aj aJ
          have ay := aj aI
          clear aJ aI
          replace aN := eq_true aN
          replace aO := eq_true aO
          obtain ⟨dc, dd, de, df, dg, dh, di, dj⟩ := bc4 ab
          have aP : 0 ≤ (ai : Int) := of_decide_eq_true (by assumption)
          have aQ : ai < (ah.length : Int) := of_decide_eq_true (by assumption)
          obtain ⟨bz, bv, bw, bf, az, aK, aL⟩ := at_L3 bl.out ai aP aQ
          cases bf
          replace az := (HB.out.cell (World.block_lt_of_cell? w _ az)).trans az
          have aA := aj aL
          have aB := aj aK
          clear aL aK
          replace aP := eq_true aP
          replace aQ := eq_true aQ
          go_wp2_with (first | (go_at_call 18; (with_reducible refine (attestorref07_Equal.calls k2 _ _ (rd_L3 ad ai) _ _ (rd_L3 ah ai) false _ ?side1 ?side2 ?side3 ?side4 bc.out).mono ?_); (case side1 => exact (Kd.C_below ax.out HB.out)); (case side2 => exact ay.out); (case side3 => exact (Kd.C_below aA.out HB.out)); (case side4 => exact aB.out); rintro e w' ⟨rfl, ⟨nd, rfl⟩⟩; (try first | exact ⟨rfl, _, World.drewN_drewN _ _ _⟩ | exact ⟨rfl, _, Eq.trans (World.drewN_drewN _ _ _) (congrArg (World.drewN _) (Nat.add_assoc _ _ _))⟩)))
          repeat (go_quiet (first | (go_at_call 18; (with_reducible refine (attestorref07_Equal.calls k2 _ _ (rd_L3 ad ai) _ _ (rd_L3 ah ai) false _ ?side1 ?side2 ?side3 ?side4 bc.out).mono ?_); (case side1 => repeat (first | exact (Kd.C_below ax.out HB.out) | (with_reducible refine Kd.C_alloc ?_ _) | (with_reducible refine Kd.C_drewN ?_ _) | (with_reducible refine Kd.C_drew ?_))); (case side2 => exact ay.out); (case side3 => repeat (first | exact (Kd.C_below aA.out HB.out) | (with_reducible refine Kd.C_alloc ?_ _) | (with_reducible refine Kd.C_drewN ?_ _) | (with_reducible refine Kd.C_drew ?_))); (case side4 => exact aB.out); rintro e w' ⟨rfl, ⟨nd, rfl⟩⟩; (try first | exact ⟨rfl, _, World.drewN_drewN _ _ _⟩ | exact ⟨rfl, _, Eq.trans (World.drewN_drewN _ _ _) (congrArg (World.drewN _) (Nat.add_assoc _ _ _))⟩))); try go_wp2)
          go_ret
          exact ⟨by first | rfl | (simp [errW_none, errW_some] <;> rfl) | (simp [*, errW_none, errW_some] <;> rfl), (by first | exact HB.out | exact below_drew1 HB.out | exact pw_below_drewN HB.out _)⟩
        ·rw [if_neg bo] at H
         exact absurd H (by simp)
       ·rw [if_neg bn] at H
        exact absurd H (by simp)
      ·rw [if_neg bb] at H
       have c22b0 : decide (ai < (ad.length : Int)) = false := decide_eq_false bb
       clear bb
       obtain rfl := Option.some.inj H
       have dD := ar.out
       have dE := au.out
       have dk := bq_ aa 0
       have dl := bq_ aa 1
       have dm := bq_ aa 2
       have dn := bq_ aa 3
       have dp := blk_frozen aa.out 0
       have dq := blk_frozen aa.out 1
       have dr := blk_frozen aa.out 2
       have ds := blk_frozen aa.out 3
       go_wp2
       repeat (go_quiet (fail); try go_wp2)
       go_ret
       exact ⟨by first | rfl | (simp [errW_none, errW_some] <;> rfl) | (simp [*, errW_none, errW_some] <;> rfl), HB.out⟩

end Go.Proofs.YtpnpmeogffodgaaDoor.Q
end
section
namespace Go.Proofs.YtpnpmeogffodgaaDoor.Q
open Go.RowKit Go.Proofs.YtpnpmeogffodgaaDoorW.PrintWords Go.Proofs.YtpnpmeogffodgaaDoorW.PrintLast Go.Proofs.YtpnpmeogffodgaaDoorW.PrintMore
open Go.Proofs.YtpnpmeogffodgaaDoor.Num
set_option linter.unusedVariables false
set_option linter.unusedSimpArgs false
theorem same_l (f h c : Int) (ls : List (List S36)) (hb : ls.length ≤ 100) (hr : ∀ r ∈ ls, r.length ≤ 1000) : ∀ m j k, m + j = ls.length → m + 1001 < k → attestorref07_Same.l0 k (j : Int) f h c ls f h c ls = some true
  | _, _, 0, _, hk => by omega
  | 0, j, k + 1, hj, _ => by rw [attestorref07_Same.l0, if_neg (by omega)]
  | m + 1, j, k + 1, hj, hk => by
    have hrd : rd_L3 ls (j : Int) ∈ ls := by
      have hlt : j < ls.length := by omega
      have e : rd_L3 ls (j : Int) = ls[j] := by unfold rd_L3; rw [Int.toNat_natCast]; simp [List.getD, hlt]
      rw [e]; exact List.getElem_mem hlt
    rw [attestorref07_Same.l0, if_pos (by omega), if_pos (by omega), if_pos (by omega)]
    refine bnd (equal_self _ (hr _ hrd) k (by omega)) ?_
    rw [if_pos rfl, show wrap64 ((j : Int) + 1) = ((j + 1 : Nat) : Int) by unfold wrap64; omega]
    exact same_l f h c ls hb hr m (j + 1) k (by omega) (by omega)
theorem same_self (f h c : Int) (ls : List (List S36)) (hb : ls.length ≤ 100) (hr : ∀ r ∈ ls, r.length ≤ 1000) (k : Nat) (hk : 1200 < k) : attestorref07_Same.f k f h c ls f h c ls = some true := by
  obtain ⟨k, rfl⟩ : ∃ q, k = q + 1 := ⟨k - 1, by omega⟩
  unfold attestorref07_Same.f
  rw [if_pos rfl, if_pos rfl, if_pos rfl, bne_self_eq_false, attestorref07_Same.j0, if_neg (by decide)]
  exact same_l f h c ls hb hr ls.length 0 k rfl (by omega)
end Go.Proofs.YtpnpmeogffodgaaDoor.Q
end
section
namespace Go.Proofs.YtpnpmeogffodgaaDoor.Q
open Go.RowKit Go.Proofs.YtpnpmeogffodgaaDoorW.PrintWords Go.Proofs.YtpnpmeogffodgaaDoorW.PrintLast Go.Proofs.YtpnpmeogffodgaaDoorW.PrintMore
attribute [local go_sem] max2_int min2_int max_two min_two max_three min_three max_four min_four run_store_fnV run_store_fnc run_store_nfn   -- for this text's walks alone
set_option linter.unusedVariables false
set_option linter.unusedSimpArgs false

abbrev z17_0_ := zb 23 0
abbrev z17_1_ := zb 23 1
abbrev z17_2_ := zb 23 5
abbrev z17_3_ := zb 23 69
abbrev z17_4_ := zb 23 325
abbrev z17_5_ := zb 23 327
abbrev z17_6_ := zb 23 335
abbrev z17_7_ := zb 23 351
abbrev z17_8_ := zb 23 383
abbrev z17_9_ := zb 23 511
abbrev z17_10_ := zb 23 1023
abbrev z17_11_ := zb 23 2047
abbrev z17_12_ := zb 23 4095
abbrev z17_13_ := zb 23 8191
abbrev z17_14_ := zb 23 16383
abbrev z17_15_ := zb 23 49151
abbrev z17_16_ := zb 23 180223
abbrev z17_17_ := zb 23 196607
abbrev z17_18_ := zb 23 262143
abbrev z17_19_ := zb 23 524287
abbrev z17_20_ := zb 23 1048575
abbrev z17_21_ := zb 23 2097151
abbrev z17_22_ := zb 23 4194303
abbrev z17_23_ := zb 23 8388607
abbrev z17_24_ := zb 23 32767
abbrev z17_25_ := zb 23 65535
abbrev z17_26_ := zb 23 131071
/-! ### attestorref07_Valid: function 17 -/
mutual
def attestorref07_Valid.j0 : Nat → Bool → Int → Int → Int → List (List (S36)) → Option (Bool)
  | 0, _, _, _, _, _ => none
  | k + 1, cp, aI, aB, aP, ay => if cp = true then (some false) else (attestorref07_Valid.l0 k 0 aI aB aP ay)
def attestorref07_Valid.l0 : Nat → Int → Int → Int → Int → List (List (S36)) → Option (Bool)
  | 0, _, _, _, _, _ => none
  | k + 1, x3, aI, aB, aP, ay => if x3 < (ay.length : Int) then (if 0 ≤ x3 then (if 0 ≤ (wrap64 (aB - x3)) then (if ((rd_L3 ay x3).length : Int) = (shl .i64 1 (wrap64 (aB - x3))) then ((attestorref07_All.f k aI (rd_L3 ay x3)).bind fun aK => (if aK = true then (attestorref07_Valid.l0 k (wrap64 (x3 + 1)) aI aB aP ay) else (some false))) else (some false)) else (none)) else (none)) else (some true)
end
def attestorref07_Valid.f (k : Nat) (ad : Int) (ac : Int) (ae : Int) (ab : List (List (S36))) : Option (Bool) := (attestorref01_Valid.f ad).bind fun aS => (if aS = true then (if ac < 0 then (attestorref07_Valid.j0 k true ad ac ae ab) else (if ac > 18 then (attestorref07_Valid.j0 k true ad ac ae ab) else (if ae < 0 then (attestorref07_Valid.j0 k true ad ac ae ab) else (if ae > ac then (attestorref07_Valid.j0 k true ad ac ae ab) else (attestorref07_Valid.j0 k ((ab.length : Int) != (wrap64 ((wrap64 (ac - ae)) + 1))) ad ac ae ab))))) else (attestorref07_Valid.j0 k true ad ac ae ab))
theorem attestorref07_Valid.mono_l : ∀ k, (∀ y0 y1 y2 y3 y4, LeO (attestorref07_Valid.j0 k y0 y1 y2 y3 y4) (attestorref07_Valid.j0 (k + 1) y0 y1 y2 y3 y4)) ∧ (∀ y0 y1 y2 y3 y4, LeO (attestorref07_Valid.l0 k y0 y1 y2 y3 y4) (attestorref07_Valid.l0 (k + 1) y0 y1 y2 y3 y4))
  | 0 => ⟨fun _ _ _ _ _ r h => by simp [attestorref07_Valid.j0] at h, fun _ _ _ _ _ r h => by simp [attestorref07_Valid.l0] at h⟩
  | k + 1 => by
    obtain ⟨ih0, ih1⟩ := attestorref07_Valid.mono_l k
    refine ⟨?_, ?_⟩
    · intro y0 y1 y2 y3 y4
      unfold attestorref07_Valid.j0
      repeat' first
      | (with_reducible exact ih0 _ _ _ _ _)
      | (with_reducible exact ih1 _ _ _ _ _)
      | (with_reducible exact attestorref07_All.mono _ _ _)
      | (with_reducible exact LeO.refl _)
      | (with_reducible exact LeO.none _)
      | (with_reducible refine LeO.ite ?_ ?_)
      | (with_reducible refine LeO.bind ?_ (fun _ => ?_))
      | exact ih0 _ _ _ _ _
      | exact ih1 _ _ _ _ _
      | exact attestorref07_All.mono _ _ _
      | exact LeO.none _
      | refine LeO.ite ?_ ?_
      | refine LeO.bind ?_ (fun _ => ?_)
    · intro y0 y1 y2 y3 y4
      unfold attestorref07_Valid.l0
      repeat' first
      | (with_reducible exact ih0 _ _ _ _ _)
      | (with_reducible exact ih1 _ _ _ _ _)
      | (with_reducible exact attestorref07_All.mono _ _ _)
      | (with_reducible exact LeO.refl _)
      | (with_reducible exact LeO.none _)
      | (with_reducible refine LeO.ite ?_ ?_)
      | (with_reducible refine LeO.bind ?_ (fun _ => ?_))
      | exact ih0 _ _ _ _ _
      | exact ih1 _ _ _ _ _
      | exact attestorref07_All.mono _ _ _
      | exact LeO.none _
      | refine LeO.ite ?_ ?_
      | refine LeO.bind ?_ (fun _ => ?_)
theorem attestorref07_Valid.mono : ∀ a0 a1 a2 a3 k, LeO (attestorref07_Valid.f k a0 a1 a2 a3) (attestorref07_Valid.f (k + 1) a0 a1 a2 a3) := by
  intro a0 a1 a2 a3 k
  obtain ⟨ih0, ih1⟩ := attestorref07_Valid.mono_l k
  unfold attestorref07_Valid.f
  repeat' first
      | (with_reducible exact ih0 _ _ _ _ _)
      | (with_reducible exact ih1 _ _ _ _ _)
      | (with_reducible exact attestorref07_All.mono _ _ _)
      | (with_reducible exact LeO.refl _)
      | (with_reducible exact LeO.none _)
      | (with_reducible refine LeO.ite ?_ ?_)
      | (with_reducible refine LeO.bind ?_ (fun _ => ?_))
      | exact ih0 _ _ _ _ _
      | exact ih1 _ _ _ _ _
      | exact attestorref07_All.mono _ _ _
      | exact LeO.none _
      | refine LeO.ite ?_ ?_
      | refine LeO.bind ?_ (fun _ => ?_)
def attestorref07_Valid.T6 : Bool × List (List Nat × List Nat) := (true, [([], []), ([0], [0]), ([], []), ([1, 2], [1, 2]), ([3], [3]), ([4], [4]), ([], []), ([6], [6]), ([], []), ([7, 8], [7, 8]), ([9], [9]), ([5, 10], [5, 10]), ([11], [11]), ([12], [12]), ([13, 12], [12, 13]), ([12], [12]), ([15, 12], [12, 15]), ([12], [12]), ([16, 17, 12], [12, 16, 17]), ([18, 12], [12, 18]), ([14, 19, 12, 12], [12, 14, 19]), ([20, 12], [12, 20]), ([12, 21], [12, 21])])
def attestorref07_Valid.B6 : List Nat := [0, 1, 0, 7, 15, 31, 0, 64, 0, 448, 960, 2047, 4095, 8191, 16383, 8191, 40959, 8191, 237567, 499711, 1048575, 2097151, 4194303]
theorem attestorref07_Valid.tab6 : rtab .any (opsOf Tryd.f17 6) = attestorref07_Valid.T6 := by kernel_rfl
theorem attestorref07_Valid.bits6 : waitsOk attestorref07_Valid.T6.2 attestorref07_Valid.B6 = true := by kernel_rfl
set_option maxHeartbeats 8000000 in
set_option maxRecDepth 100000 in
theorem attestorref07_Valid.calls (k : Nat) (ad : Int) (ac : Int) (ae : Int) (ap : Option Addr) (al : Nat) (ab : List (List (S36))) (r : Bool) (w : World) (a6 : Kd.C (Kd.slice 36 k36) w ap ab.length ab) (a7 : ab.length ≤ al) (h : attestorref07_Valid.f k ad ac ae ab = some r) :
  Calls Tryd.prog 17 #[.agg #[.int .i64 ad, .int .i64 ac, .int .i64 ae, .slice ap ab.length al]] w fun e w' => e = .returned (.bool r) ∧ Below w.heap.size w w' := by
 have hu26 := Tryd.underlying26
 have aN := aj a6
 have cI := aj a7
 clear a6 a7
 have HB := aj (Below.refl w.heap.size w)
 have H : ((attestorref01_Valid.f ad).bind fun aS => (if aS = true then (if ac < 0 then (attestorref07_Valid.j0 k true ad ac ae ab) else (if ac > 18 then (attestorref07_Valid.j0 k true ad ac ae ab) else (if ae < 0 then (attestorref07_Valid.j0 k true ad ac ae ab) else (if ae > ac then (attestorref07_Valid.j0 k true ad ac ae ab) else (attestorref07_Valid.j0 k ((ab.length : Int) != (wrap64 ((wrap64 (ac - ae)) + 1))) ad ac ae ab))))) else (attestorref07_Valid.j0 k true ad ac ae ab))) = some r := h
 clear h
 have bb := aj H
 clear H
 go_enter Tryd.func17, Tryd.ntmps17
 go_upto_region 1 with (first | ((with_reducible refine gate_dst (N := 1) rfl ?_); (try (refine gate_guard (by rfl) ?_; dsimp only)); refine box_event ?hg (N := 1) ?hd (cs := #[.int .i64 ad, .int .i64 ac, .int .i64 ae, .slice ap ab.length al]) (t := 26) ?hr ?_; (case hd => rfl); (case hg => rfl); (case hr => first | (go_simp; done) | (go_simp; rfl)); intro af hg w3 hbox hb; have aG := aj (below_step HB.out hb); have aH := aj (hbox); have bf := aj ((by rw [hg]; exact (below_size HB.out) : w.heap.size ≤ af)); clear HB; have HB := aG; have aa := aH; have cJ := bf; clear aG aH bf; clear hb hbox hg))
 (try simp only [Act.put, sa_, sb_, sc_])
 go_cut [41] (fun cq wc => ∃ (kq : Nat) (aR : Bool), cq = .bool aR ∧ Aside0 (attestorref07_Valid.j0 kq aR ad ac ae ab = some r) ∧ Aside0 (kq ≤ k) ∧ Aside0 (wc.heap[af]? = some (.cells #[.int .i64 ad, .int .i64 ac, .int .i64 ae, (.slice ap ab.length al)] 26 (0, 0))) ∧ Aside0 (Below w.heap.size w wc))
 case first =>
  have H := bb.out
  clear bb
  replace H := Option.bind_eq_some_iff.mp H
  obtain ⟨aS, bg, H⟩ := H
  have A4 := aj bg
  clear bg
  by_cases c5 : aS = true
  ·subst c5
   have H1 : (if ac < 0 then (attestorref07_Valid.j0 k true ad ac ae ab) else (if ac > 18 then (attestorref07_Valid.j0 k true ad ac ae ab) else (if ae < 0 then (attestorref07_Valid.j0 k true ad ac ae ab) else (if ae > ac then (attestorref07_Valid.j0 k true ad ac ae ab) else (attestorref07_Valid.j0 k ((ab.length : Int) != (wrap64 ((wrap64 (ac - ae)) + 1))) ad ac ae ab))))) = some r := by rw [if_pos rfl] at H; exact H
   clear H
   have H := H1
   clear H1
   by_cases c6 : ac < 0
   ·rw [if_pos c6] at H
    have c6b0 : decide (ac < 0) = true := decide_eq_true c6
    clear c6
    (first | rw [c6b0] | (simp only [i64_w, i32_w]; rw [c6b0]) | skip)
    have H' := aj H
    clear H
    have cr : w3.cell? ⟨af, 0, none⟩ = some (.int .i64 ad) := bq_ aa 0
    have ct : w3.cell? ⟨af, 1, none⟩ = some (.int .i64 ac) := bq_ aa 1
    have cu : w3.cell? ⟨af, 2, none⟩ = some (.int .i64 ae) := bq_ aa 2
    have cv : w3.cell? ⟨af, 3, none⟩ = some (.slice ap ab.length al) := bq_ aa 3
    have cw := blk_frozen aa.out 0
    have cx := blk_frozen aa.out 1
    have cy := blk_frozen aa.out 2
    have cz := blk_frozen aa.out 3
    go_wp2_with (first | ((with_reducible refine gate_callee (f := 42) rfl ?_); refine goesL_ (some 6) rfl rfl Tryd.func42 (by kernel_rfl) rfl #[.int .i64 ad] rfl (by (try simp only [List.map_toArray, List.map_cons, List.map_nil]); first | done | rfl | (go_simp; done)) ?_; (with_reducible refine (attestorref01_Valid.calls ad true _ A4.out).mono ?_); rintro e w' ⟨rfl, ⟨nd, rfl⟩⟩; refine ⟨_, rfl, ?_⟩))
    go_meet
    case rel => exact ⟨_, (true), (by first | rfl | simp), H', ⟨by first | omega | exact Nat.le_refl _⟩, ⟨by exact aa.out⟩, ⟨(by first | exact HB.out | exact below_drew1 HB.out | exact pw_below_drewN HB.out _)⟩⟩
   ·rw [if_neg c6] at H
    have c6b0 : decide (ac < 0) = false := decide_eq_false c6
    clear c6
    (first | rw [c6b0] | (simp only [i64_w, i32_w]; rw [c6b0]) | skip)
    by_cases c8 : ac > 18
    ·rw [if_pos c8] at H
     have c8b0 : decide (18 < ac) = true := decide_eq_true c8
     clear c8
     have H' := aj H
     clear H
     have cA : w3.cell? ⟨af, 0, none⟩ = some (.int .i64 ad) := bq_ aa 0
     have cB : w3.cell? ⟨af, 1, none⟩ = some (.int .i64 ac) := bq_ aa 1
     have cC : w3.cell? ⟨af, 2, none⟩ = some (.int .i64 ae) := bq_ aa 2
     have cD : w3.cell? ⟨af, 3, none⟩ = some (.slice ap ab.length al) := bq_ aa 3
     have cE := blk_frozen aa.out 0
     have cF := blk_frozen aa.out 1
     have cG := blk_frozen aa.out 2
     have cH := blk_frozen aa.out 3
     go_wp2_with (first | ((with_reducible refine gate_callee (f := 42) rfl ?_); refine goesL_ (some 6) rfl rfl Tryd.func42 (by kernel_rfl) rfl #[.int .i64 ad] rfl (by (try simp only [List.map_toArray, List.map_cons, List.map_nil]); first | done | rfl | (go_simp; done)) ?_; (with_reducible refine (attestorref01_Valid.calls ad true _ A4.out).mono ?_); rintro e w' ⟨rfl, ⟨nd, rfl⟩⟩; refine ⟨_, rfl, ?_⟩))
     go_meet
     case rel => exact ⟨_, (true), (by first | rfl | simp), H', ⟨by first | omega | exact Nat.le_refl _⟩, ⟨by exact aa.out⟩, ⟨(by first | exact HB.out | exact below_drew1 HB.out | exact pw_below_drewN HB.out _)⟩⟩
    ·rw [if_neg c8] at H
     have c8b0 : decide (18 < ac) = false := decide_eq_false c8
     clear c8
     by_cases c10 : ae < 0
     ·rw [if_pos c10] at H
      have c10b0 : decide (ae < 0) = true := decide_eq_true c10
      clear c10
      have H' := aj H
      clear H
      have bk : w3.cell? ⟨af, 0, none⟩ = some (.int .i64 ad) := bq_ aa 0
      have bl : w3.cell? ⟨af, 1, none⟩ = some (.int .i64 ac) := bq_ aa 1
      have bm : w3.cell? ⟨af, 2, none⟩ = some (.int .i64 ae) := bq_ aa 2
      have bn : w3.cell? ⟨af, 3, none⟩ = some (.slice ap ab.length al) := bq_ aa 3
      have bo := blk_frozen aa.out 0
      have bp := blk_frozen aa.out 1
      have bq := blk_frozen aa.out 2
      have br := blk_frozen aa.out 3
      go_wp2_with (first | ((with_reducible refine gate_callee (f := 42) rfl ?_); refine goesL_ (some 6) rfl rfl Tryd.func42 (by kernel_rfl) rfl #[.int .i64 ad] rfl (by (try simp only [List.map_toArray, List.map_cons, List.map_nil]); first | done | rfl | (go_simp; done)) ?_; (with_reducible refine (attestorref01_Valid.calls ad true _ A4.out).mono ?_); rintro e w' ⟨rfl, ⟨nd, rfl⟩⟩; refine ⟨_, rfl, ?_⟩))
      go_meet
      case rel => exact ⟨_, (true), (by first | rfl | simp), H', ⟨by first | omega | exact Nat.le_refl _⟩, ⟨by exact aa.out⟩, ⟨(by first | exact HB.out | exact below_drew1 HB.out | exact pw_below_drewN HB.out _)⟩⟩
     ·rw [if_neg c10] at H
      have c10b0 : decide (ae < 0) = false := decide_eq_false c10
      clear c10
      by_cases aV : ae > ac
      ·rw [if_pos aV] at H
       have c12b0 : decide (ac < ae) = true := decide_eq_true aV
       clear aV
       have H' := aj H
       clear H
       have bs : w3.cell? ⟨af, 0, none⟩ = some (.int .i64 ad) := bq_ aa 0
       have bu : w3.cell? ⟨af, 1, none⟩ = some (.int .i64 ac) := bq_ aa 1
       have bv : w3.cell? ⟨af, 2, none⟩ = some (.int .i64 ae) := bq_ aa 2
       have bw : w3.cell? ⟨af, 3, none⟩ = some (.slice ap ab.length al) := bq_ aa 3
       have bx := blk_frozen aa.out 0
       have bz := blk_frozen aa.out 1
       have bA := blk_frozen aa.out 2
       have bB := blk_frozen aa.out 3
       go_wp2_with (first | ((with_reducible refine gate_callee (f := 42) rfl ?_); refine goesL_ (some 6) rfl rfl Tryd.func42 (by kernel_rfl) rfl #[.int .i64 ad] rfl (by (try simp only [List.map_toArray, List.map_cons, List.map_nil]); first | done | rfl | (go_simp; done)) ?_; (with_reducible refine (attestorref01_Valid.calls ad true _ A4.out).mono ?_); rintro e w' ⟨rfl, ⟨nd, rfl⟩⟩; refine ⟨_, rfl, ?_⟩))
       go_meet
       case rel => exact ⟨_, (true), (by first | rfl | simp), H', ⟨by first | omega | exact Nat.le_refl _⟩, ⟨by exact aa.out⟩, ⟨(by first | exact HB.out | exact below_drew1 HB.out | exact pw_below_drewN HB.out _)⟩⟩
      ·rw [if_neg aV] at H
       have c12b0 : decide (ac < ae) = false := decide_eq_false aV
       clear aV
       have H' := aj H
       clear H
       have bC : w3.cell? ⟨af, 0, none⟩ = some (.int .i64 ad) := bq_ aa 0
       have bD : w3.cell? ⟨af, 1, none⟩ = some (.int .i64 ac) := bq_ aa 1
       have bE : w3.cell? ⟨af, 2, none⟩ = some (.int .i64 ae) := bq_ aa 2
       have bF : w3.cell? ⟨af, 3, none⟩ = some (.slice ap ab.length al) := bq_ aa 3
       have bG := blk_frozen aa.out 0
       have bH := blk_frozen aa.out 1
       have bI := blk_frozen aa.out 2
       have bJ := blk_frozen aa.out 3
       go_wp2_with (first | ((with_reducible refine gate_callee (f := 42) rfl ?_); refine goesL_ (some 6) rfl rfl Tryd.func42 (by kernel_rfl) rfl #[.int .i64 ad] rfl (by (try simp only [List.map_toArray, List.map_cons, List.map_nil]); first | done | rfl | (go_simp; done)) ?_; (with_reducible refine (attestorref01_Valid.calls ad true _ A4.out).mono ?_); rintro e w' ⟨rfl, ⟨nd, rfl⟩⟩; refine ⟨_, rfl, ?_⟩))
       go_meet
       case rel => exact ⟨_, (((ab.length : Int) != (wrap64 ((wrap64 (ac - ae)) + 1)))), (by first | rfl | simp), H', ⟨by first | omega | exact Nat.le_refl _⟩, ⟨by exact aa.out⟩, ⟨(by first | exact HB.out | exact below_drew1 HB.out | exact pw_below_drewN HB.out _)⟩⟩
  ·replace c5 := Bool.eq_false_iff.mpr c5
   subst c5
   have H1 : (attestorref07_Valid.j0 k true ad ac ae ab) = some r := by rw [if_neg (show ¬ (false = true) by decide)] at H; exact H
   clear H
   have H := H1
   clear H1
   have H' := aj H
   clear H
   have bK : w3.cell? ⟨af, 0, none⟩ = some (.int .i64 ad) := bq_ aa 0
   have bL : w3.cell? ⟨af, 1, none⟩ = some (.int .i64 ac) := bq_ aa 1
   have bM : w3.cell? ⟨af, 2, none⟩ = some (.int .i64 ae) := bq_ aa 2
   have bN : w3.cell? ⟨af, 3, none⟩ = some (.slice ap ab.length al) := bq_ aa 3
   have bO := blk_frozen aa.out 0
   have bP := blk_frozen aa.out 1
   have bQ := blk_frozen aa.out 2
   have bR := blk_frozen aa.out 3
   go_wp2_with (first | ((with_reducible refine gate_callee (f := 42) rfl ?_); refine goesL_ (some 6) rfl rfl Tryd.func42 (by kernel_rfl) rfl #[.int .i64 ad] rfl (by (try simp only [List.map_toArray, List.map_cons, List.map_nil]); first | done | rfl | (go_simp; done)) ?_; (with_reducible refine (attestorref01_Valid.calls ad false _ A4.out).mono ?_); rintro e w' ⟨rfl, ⟨nd, rfl⟩⟩; refine ⟨_, rfl, ?_⟩))
   go_meet
   case rel => exact ⟨_, (true), (by first | rfl | simp), H', ⟨by first | omega | exact Nat.le_refl _⟩, ⟨by exact aa.out⟩, ⟨(by first | exact HB.out | exact below_drew1 HB.out | exact pw_below_drewN HB.out _)⟩⟩
 case rest =>
  clear bb
  obtain ⟨kq, aR, rfl, HA, bh, aa, HB⟩ := hcut
  cases kq with
  | zero => exact absurd HA.out (by simp [attestorref07_Valid.j0])
  | succ kj1 =>
   have H := HA.out
   clear HA
   simp only [attestorref07_Valid.j0] at H
   by_cases a8 : aR = true
   ·subst a8
    have H1 : (some false) = some r := by rw [if_pos rfl] at H; exact H
    clear H
    have H := H1
    clear H1
    obtain rfl := Option.some.inj H
    go_wp2
    go_ret
    exact ⟨by first | rfl | (simp [errW_none, errW_some] <;> rfl) | (simp [*, errW_none, errW_some] <;> rfl), HB.out⟩
   ·replace a8 := Bool.eq_false_iff.mpr a8
    subst a8
    have H1 : (attestorref07_Valid.l0 kj1 0 ad ac ae ab) = some r := by rw [if_neg (show ¬ (false = true) by decide)] at H; exact H
    clear H
    have H := H1
    clear H1
    have H' := aj H
    clear H
    go_wp2
    go_loopg [3] kj1 (fun kq v3 w' => ∃ (ag : Int), v3 = .int .i64 ag ∧ Aside0 (attestorref07_Valid.l0 kq ag ad ac ae ab = some r) ∧ Aside0 (kq ≤ kj1) ∧ Aside0 (w'.heap[af]? = some (.cells #[.int .i64 ad, .int .i64 ac, .int .i64 ae, (.slice ap ab.length al)] 26 (0, 0))) ∧ Aside0 (Below w.heap.size w w'))
    case atStart => exact ⟨(0), (by first | rfl | simp), H', ⟨Nat.le_refl _⟩, ⟨by exact aa.out⟩, ⟨HB.out⟩⟩
    case round =>
     clear H'
     obtain ⟨ag, rfl, HA, bi, aa, HB⟩ := hrel
     cases gk with
     | zero => exact absurd HA.out (by simp [attestorref07_Valid.l0])
     | succ k2 =>
      have H := HA.out
      clear HA
      simp only [attestorref07_Valid.l0] at H
      by_cases aW : ag < (ab.length : Int)
      ·rw [if_pos aW] at H
       have c17b0 : decide (ag < (ab.length : Int)) = true := decide_eq_true aW
       clear aW
       by_cases a9 : 0 ≤ ag
       ·rw [if_pos a9] at H
        have c18b0 : decide (0 ≤ ag) = true := decide_eq_true a9
        clear a9
        obtain ⟨aq, aO⟩ : ∃ j_ : Int, (wrap64 (ac - ag)) = j_ := ⟨_, rfl⟩
        replace H : (if 0 ≤ (aq) then (if ((rd_L3 ab ag).length : Int) = (shl .i64 1 (aq)) then ((attestorref07_All.f k2 ad (rd_L3 ab ag)).bind fun aK => (if aK = true then (attestorref07_Valid.l0 k2 (wrap64 (ag + 1)) ad ac ae ab) else (some false))) else (some false)) else (none)) = some r := by first | (rw [aO] at H; exact H) | (simp only [aO] at H ⊢; exact H)
        have hji19w : (IntKind.i64.wrap (ac - ag)) = aq := (i64_w _).trans aO
        by_cases aZ : 0 ≤ (aq)
        ·rw [if_pos aZ] at H
         have c20b0 := eq_true aZ
         have c20b1 : decide (0 ≤ (aq)) = true := decide_eq_true aZ
         clear aZ
         obtain ⟨ax, aJ⟩ : ∃ j_ : Int, (shl .i64 1 (aq)) = j_ := ⟨_, rfl⟩
         replace H : (if ((rd_L3 ab ag).length : Int) = (ax) then ((attestorref07_All.f k2 ad (rd_L3 ab ag)).bind fun aK => (if aK = true then (attestorref07_Valid.l0 k2 (wrap64 (ag + 1)) ad ac ae ab) else (some false))) else (some false)) = some r := by first | (rw [aJ] at H; exact H) | (simp only [aJ] at H ⊢; exact H)
         have a4 : (IntKind.i64.wrap (1 * 2 ^ min (aq).toNat 64)) = ax := aJ
         have hji21z : (aq) ≤ 64 → (IntKind.i64.wrap (1 * 2 ^ (aq).toNat)) = ax := shl_small aJ
         have hji21u : (IntKind.i64.wrap (2 ^ min (aq).toNat 64)) = ax := by have h_ := a4; rw [Int.one_mul] at h_; exact h_
         have hji21v : (aq) ≤ 64 → (IntKind.i64.wrap (2 ^ (aq).toNat)) = ax := fun hle_ => by have h_ := hji21z hle_; rw [Int.one_mul] at h_; exact h_
         have hji21y : (wrap64 (1 * 2 ^ min (aq).toNat 64)) = ax := (i64_w _).symm.trans a4
         have hji21x : (aq) ≤ 64 → (wrap64 (1 * 2 ^ (aq).toNat)) = ax := fun h_ => (i64_w _).symm.trans (hji21z h_)
         by_cases aT : ((rd_L3 ab ag).length : Int) = (ax)
         ·rw [if_pos aT] at H
          have c22b0 : (((rd_L3 ab ag).length : Int) == (ax)) = true := beq_iff_eq.mpr aT
          have c22b1 : (((rd_L3 ab ag).length : Int) != (ax)) = false := bne_eq_false_iff_eq.mpr aT
          clear aT
          replace H := Option.bind_eq_some_iff.mp H
          obtain ⟨aK, bc, H⟩ := H
          have bj := aj bc
          clear bc
          by_cases ba : aK = true
          ·subst ba
           have H1 : (attestorref07_Valid.l0 k2 (wrap64 (ag + 1)) ad ac ae ab) = some r := by rw [if_pos rfl] at H; exact H
           clear H
           have H := H1
           clear H1
           have H' := aj H
           clear H
           have bS : wr.cell? ⟨af, 0, none⟩ = some (.int .i64 ad) := bq_ aa 0
           have bT : wr.cell? ⟨af, 1, none⟩ = some (.int .i64 ac) := bq_ aa 1
           have bU : wr.cell? ⟨af, 2, none⟩ = some (.int .i64 ae) := bq_ aa 2
           have bV : wr.cell? ⟨af, 3, none⟩ = some (.slice ap ab.length al) := bq_ aa 3
           have bW := blk_frozen aa.out 0
           have bX := blk_frozen aa.out 1
           have bY := blk_frozen aa.out 2
           have bZ := blk_frozen aa.out 3
           try go_wp2
           have aG := aj (blk_drew aa.out)
           have aH := aj (below_drew1 HB.out)
           clear aa
           clear HB
           have aa := aG
           have HB := aH
           have az : 0 ≤ (ag : Int) := of_decide_eq_true (by assumption)
           have aA : ag < (ab.length : Int) := of_decide_eq_true (by assumption)
           obtain ⟨ao, av, aw, aU, ah, ar, au⟩ := at_L3 aN.out ag az aA
           have ak := ah
           cases aU
           replace ah := (HB.out.cell (World.block_lt_of_cell? w _ ah)).trans ah
           have aC := aj au
           have aX := aj ar
           clear au ar
           replace az := eq_true az
           replace aA := eq_true aA
           have aL : 0 ≤ (ag : Int) := of_decide_eq_true (by assumption)
           have aM : ag < (ab.length : Int) := of_decide_eq_true (by assumption)
           obtain ⟨aY, bd, be, a5, ai, aD, aE⟩ := at_L3 aN.out ag aL aM
           have am := ai
           obtain rfl : ao = aY := (by injection a5)
           replace ai := (HB.out.cell (World.block_lt_of_cell? w _ ai)).trans ai
           have aF := aj aE
           have aQ := aj aD
           clear aE aD
           replace aL := eq_true aL
           replace aM := eq_true aM
           have ea_ := Option.some.inj (ah.symm.trans ai)
           injection ea_ with ea_ en_ ec_
           subst ea_
           subst ec_
           clear en_
           refine start_ (n := 23) (S := fun w' => w'.cell? ⟨af, 0, none⟩ = some (.int .i64 ad) ∧ w'.cell? ⟨af, 1, none⟩ = some (.int .i64 ac) ∧ w'.cell? ⟨af, 2, none⟩ = some (.int .i64 ae) ∧ w'.cell? ⟨af, 3, none⟩ = some (.slice (some ao) ab.length al) ∧ w'.cell? (ao.add (ag).toNat) = some (.slice av (rd_L3 ab ag).length aw) ∧ w'.cell? (ao.add (ag).toNat) = some (.slice av (rd_L3 ab ag).length aw)) (ds := []) z17_0_ (by kernel_rfl) rfl rfl ⟨bq_ aa 0, bq_ aa 1, bq_ aa 2, bq_ aa 3, ((HB.out.cell (World.block_lt_of_cell? w _ ak)).trans ak), ((HB.out.cell (World.block_lt_of_cell? w _ am)).trans am)⟩ (fun hL => ?_); refine with_tabW attestorref07_Valid.tab6 attestorref07_Valid.bits6 (fun T_ W_ => ?_)
           generalize wr.drew = cK at aa HB aC aF ah ai hL ⊢
           refine pz_ 0 49 z17_1_ ?_
           refine pz_ 2 51 z17_2_ ?_
           refine pz_ 6 55 z17_3_ ?_
           refine pz_ 8 57 z17_4_ ?_
           refine tz_ 1 50 z17_5_ ?_
           refine pz_ 3 52 z17_6_ ?_
           refine tz_ 4 53 z17_7_ ?_
           refine pz_ 5 54 z17_8_ ?_
           refine tz_ 7 56 z17_9_ ?_
           refine pz_ 9 58 z17_10_ ?_
           refine pz_ 10 59 z17_11_ ?_
           refine pz_ 11 60 z17_12_ ?_
           refine pz_ 12 61 z17_13_ ?_
           refine pz_ 13 62 z17_14_ ?_
           refine pz_ 15 64 z17_15_ ?_
           refine pz_ 17 66 z17_16_ ?_
           refine tz_ 14 63 z17_17_ ?_
           refine tz_ 16 65 z17_18_ ?_
           refine pz_ 18 67 z17_19_ ?_
           refine tz_ 19 68 z17_20_ ?_
           refine one_ (i := 20) (N := some 69) z17_21_ rfl rfl (on_ T_) (by decide) (fun K hK => ?_)
           refine goes_ Tryd.func43 (by kernel_rfl) rfl #[.int .i64 ad, .slice av (rd_L3 ab ag).length aw] (by rfl) rfl rfl (by (try simp only [List.map_toArray, List.map_cons, List.map_nil]); first | done | rfl | (go_simp; done)) ?_
           with_reducible refine (attestorref07_All.calls k2 ad _ _ (rd_L3 ab ag) true _ ?side1 ?side2 bj.out).mono ?_
           (case side1 => exact (Kd.C_below aF.out HB.out))
           (case side2 => exact aQ.out)
           rintro e cL ⟨rfl, hb⟩
           refine ⟨_, rfl, ?_⟩
           have aG := aj (blk_below aa.out hb)
           have aH := aj (below_step HB.out hb)
           clear aa
           clear HB
           have aa := aG
           have HB := aH
           refine hK.out _ _ ⟨bq_ aa 0, bq_ aa 1, bq_ aa 2, bq_ aa 3, ((HB.out.cell (World.block_lt_of_cell? w _ ak)).trans ak), ((HB.out.cell (World.block_lt_of_cell? w _ am)).trans am)⟩ (fun hL => ?_)
           clear hK K
           refine norm_ (a' := ?_) ?_ ?_
           rotate_left
           ·show Act.put _ (some 69) _ = _
            simp only [Act.put, sa_, sb_, sc_, i64_w, i32_w]
            rfl
           refine pz_ 21 70 z17_22_ ?_
           refine pz_ 22 71 z17_23_ ?_
           refine done_ (done_of T_.out (by kernel_rfl)) ?_
           try go_wp2
           go_roundg k2
           case measure => have := bh.out; have := bi.out; omega
           case rel => exact ⟨(wrap64 (ag + 1)), (by first | rfl | simp), H', ⟨by have := bh.out; have := bi.out; omega⟩, ⟨by exact aa.out⟩, ⟨HB.out⟩⟩
          ·replace ba := Bool.eq_false_iff.mpr ba
           subst ba
           have H1 : (some false) = some r := by rw [if_neg (show ¬ (false = true) by decide)] at H; exact H
           clear H
           have H := H1
           clear H1
           obtain rfl := Option.some.inj H
           have b0 : wr.cell? ⟨af, 0, none⟩ = some (.int .i64 ad) := bq_ aa 0
           have b1 : wr.cell? ⟨af, 1, none⟩ = some (.int .i64 ac) := bq_ aa 1
           have b2 : wr.cell? ⟨af, 2, none⟩ = some (.int .i64 ae) := bq_ aa 2
           have b3 : wr.cell? ⟨af, 3, none⟩ = some (.slice ap ab.length al) := bq_ aa 3
           have b4 := blk_frozen aa.out 0
           have b5 := blk_frozen aa.out 1
           have b6 := blk_frozen aa.out 2
           have b7 := blk_frozen aa.out 3
           try go_wp2
           have aG := aj (blk_drew aa.out)
           have aH := aj (below_drew1 HB.out)
           clear aa
           clear HB
           have aa := aG
           have HB := aH
           have az : 0 ≤ (ag : Int) := of_decide_eq_true (by assumption)
           have aA : ag < (ab.length : Int) := of_decide_eq_true (by assumption)
           obtain ⟨ao, av, aw, aU, ah, ar, au⟩ := at_L3 aN.out ag az aA
           have ak := ah
           cases aU
           replace ah := (HB.out.cell (World.block_lt_of_cell? w _ ah)).trans ah
           have aC := aj au
           have aX := aj ar
           clear au ar
           replace az := eq_true az
           replace aA := eq_true aA
           have aL : 0 ≤ (ag : Int) := of_decide_eq_true (by assumption)
           have aM : ag < (ab.length : Int) := of_decide_eq_true (by assumption)
           obtain ⟨aY, bd, be, a5, ai, aD, aE⟩ := at_L3 aN.out ag aL aM
           have am := ai
           obtain rfl : ao = aY := (by injection a5)
           replace ai := (HB.out.cell (World.block_lt_of_cell? w _ ai)).trans ai
           have aF := aj aE
           have aQ := aj aD
           clear aE aD
           replace aL := eq_true aL
           replace aM := eq_true aM
           have ea_ := Option.some.inj (ah.symm.trans ai)
           injection ea_ with ea_ en_ ec_
           subst ea_
           subst ec_
           clear en_
           refine start_ (n := 23) (S := fun w' => w'.cell? ⟨af, 0, none⟩ = some (.int .i64 ad) ∧ w'.cell? ⟨af, 1, none⟩ = some (.int .i64 ac) ∧ w'.cell? ⟨af, 2, none⟩ = some (.int .i64 ae) ∧ w'.cell? ⟨af, 3, none⟩ = some (.slice (some ao) ab.length al) ∧ w'.cell? (ao.add (ag).toNat) = some (.slice av (rd_L3 ab ag).length aw) ∧ w'.cell? (ao.add (ag).toNat) = some (.slice av (rd_L3 ab ag).length aw)) (ds := []) z17_0_ (by kernel_rfl) rfl rfl ⟨bq_ aa 0, bq_ aa 1, bq_ aa 2, bq_ aa 3, ((HB.out.cell (World.block_lt_of_cell? w _ ak)).trans ak), ((HB.out.cell (World.block_lt_of_cell? w _ am)).trans am)⟩ (fun hL => ?_); refine with_tabW attestorref07_Valid.tab6 attestorref07_Valid.bits6 (fun T_ W_ => ?_)
           generalize wr.drew = cM at aa HB aC aF ah ai hL ⊢
           refine pz_ 0 49 z17_1_ ?_
           refine pz_ 2 51 z17_2_ ?_
           refine pz_ 6 55 z17_3_ ?_
           refine pz_ 8 57 z17_4_ ?_
           refine tz_ 1 50 z17_5_ ?_
           refine pz_ 3 52 z17_6_ ?_
           refine tz_ 4 53 z17_7_ ?_
           refine pz_ 5 54 z17_8_ ?_
           refine tz_ 7 56 z17_9_ ?_
           refine pz_ 9 58 z17_10_ ?_
           refine pz_ 10 59 z17_11_ ?_
           refine pz_ 11 60 z17_12_ ?_
           refine pz_ 12 61 z17_13_ ?_
           refine pz_ 13 62 z17_14_ ?_
           refine pz_ 15 64 z17_15_ ?_
           refine pz_ 17 66 z17_16_ ?_
           refine tz_ 14 63 z17_17_ ?_
           refine tz_ 16 65 z17_18_ ?_
           refine pz_ 18 67 z17_19_ ?_
           refine tz_ 19 68 z17_20_ ?_
           refine one_ (i := 20) (N := some 69) z17_21_ rfl rfl (on_ T_) (by decide) (fun K hK => ?_)
           refine goes_ Tryd.func43 (by kernel_rfl) rfl #[.int .i64 ad, .slice av (rd_L3 ab ag).length aw] (by rfl) rfl rfl (by (try simp only [List.map_toArray, List.map_cons, List.map_nil]); first | done | rfl | (go_simp; done)) ?_
           with_reducible refine (attestorref07_All.calls k2 ad _ _ (rd_L3 ab ag) false _ ?side1 ?side2 bj.out).mono ?_
           (case side1 => exact (Kd.C_below aF.out HB.out))
           (case side2 => exact aQ.out)
           rintro e cN ⟨rfl, hb⟩
           refine ⟨_, rfl, ?_⟩
           have aG := aj (blk_below aa.out hb)
           have aH := aj (below_step HB.out hb)
           clear aa
           clear HB
           have aa := aG
           have HB := aH
           refine hK.out _ _ ⟨bq_ aa 0, bq_ aa 1, bq_ aa 2, bq_ aa 3, ((HB.out.cell (World.block_lt_of_cell? w _ ak)).trans ak), ((HB.out.cell (World.block_lt_of_cell? w _ am)).trans am)⟩ (fun hL => ?_)
           clear hK K
           refine norm_ (a' := ?_) ?_ ?_
           rotate_left
           ·show Act.put _ (some 69) _ = _
            simp only [Act.put, sa_, sb_, sc_, i64_w, i32_w]
            rfl
           refine pz_ 21 70 z17_22_ ?_
           refine pz_ 22 71 z17_23_ ?_
           refine done_ (done_of T_.out (by kernel_rfl)) ?_
           try go_wp2
           go_ret
           exact ⟨by first | rfl | (simp [errW_none, errW_some] <;> rfl) | (simp only [← aO, ← aJ]; first | rfl | (simp [errW_none, errW_some] <;> rfl)) | (simp [*, errW_none, errW_some] <;> rfl), HB.out⟩
         ·rw [if_neg aT] at H
          have c22b0 : (((rd_L3 ab ag).length : Int) == (ax)) = false := beq_eq_false_iff_ne.mpr aT
          have c22b1 : (((rd_L3 ab ag).length : Int) != (ax)) = true := bne_iff_ne.mpr aT
          obtain rfl := Option.some.inj H
          have b8 : wr.cell? ⟨af, 0, none⟩ = some (.int .i64 ad) := bq_ aa 0
          have b9 : wr.cell? ⟨af, 1, none⟩ = some (.int .i64 ac) := bq_ aa 1
          have ca : wr.cell? ⟨af, 2, none⟩ = some (.int .i64 ae) := bq_ aa 2
          have cb : wr.cell? ⟨af, 3, none⟩ = some (.slice ap ab.length al) := bq_ aa 3
          have cc := blk_frozen aa.out 0
          have cd := blk_frozen aa.out 1
          have ce := blk_frozen aa.out 2
          have cf := blk_frozen aa.out 3
          try go_wp2
          have aG := aj (blk_drew aa.out)
          have aH := aj (below_drew1 HB.out)
          clear aa
          clear HB
          have aa := aG
          have HB := aH
          have az : 0 ≤ (ag : Int) := of_decide_eq_true (by assumption)
          have aA : ag < (ab.length : Int) := of_decide_eq_true (by assumption)
          obtain ⟨ao, av, aw, aU, ah, ar, au⟩ := at_L3 aN.out ag az aA
          have ak := ah
          cases aU
          replace ah := (HB.out.cell (World.block_lt_of_cell? w _ ah)).trans ah
          have aC := aj au
          have aX := aj ar
          clear au ar
          replace az := eq_true az
          replace aA := eq_true aA
          refine start_ (n := 23) (S := fun w' => w'.cell? ⟨af, 0, none⟩ = some (.int .i64 ad) ∧ w'.cell? ⟨af, 1, none⟩ = some (.int .i64 ac) ∧ w'.cell? ⟨af, 2, none⟩ = some (.int .i64 ae) ∧ w'.cell? ⟨af, 3, none⟩ = some (.slice (some ao) ab.length al) ∧ w'.cell? (ao.add (ag).toNat) = some (.slice av (rd_L3 ab ag).length aw)) (ds := []) z17_0_ (by kernel_rfl) rfl rfl ⟨bq_ aa 0, bq_ aa 1, bq_ aa 2, bq_ aa 3, ((HB.out.cell (World.block_lt_of_cell? w _ ak)).trans ak)⟩ (fun hL => ?_); refine with_tabW attestorref07_Valid.tab6 attestorref07_Valid.bits6 (fun T_ W_ => ?_)
          generalize wr.drew = cO at aa HB aC ah hL ⊢
          refine pz_ 0 49 z17_1_ ?_
          refine pz_ 2 51 z17_2_ ?_
          refine pz_ 6 55 z17_3_ ?_
          refine pz_ 8 57 z17_4_ ?_
          refine tz_ 1 50 z17_5_ ?_
          refine pz_ 3 52 z17_6_ ?_
          refine tz_ 4 53 z17_7_ ?_
          refine pz_ 5 54 z17_8_ ?_
          refine tz_ 7 56 z17_9_ ?_
          refine pz_ 9 58 z17_10_ ?_
          refine pz_ 10 59 z17_11_ ?_
          refine pz_ 11 60 z17_12_ ?_
          refine pz_ 12 61 z17_13_ ?_
          refine pure_ (i := 13) (N := some 62) (v := undef) (a' := ?_) z17_14_ rfl rfl (an_ T_) (fun _ _ _ h => h) (Or.inr ⟨by rfl, rfl⟩) ?_ ?_
          rotate_left
          ·simp only [Act.put, sa_, sb_, sc_, i64_w, i32_w]
           rfl
          refine pure_ (i := 14) (N := some 63) (v := undef) (a' := ?_) z17_24_ rfl rfl (an_ T_) (fun _ _ _ h => h) (Or.inr ⟨by rfl, rfl⟩) ?_ ?_
          rotate_left
          ·simp only [Act.put, sa_, sb_, sc_, i64_w, i32_w]
           rfl
          refine pure_ (i := 15) (N := some 64) (v := undef) (a' := ?_) z17_25_ rfl rfl (an_ T_) (fun _ _ _ h => h) (Or.inr ⟨by rfl, rfl⟩) ?_ ?_
          rotate_left
          ·simp only [Act.put, sa_, sb_, sc_, i64_w, i32_w]
           rfl
          refine pure_ (i := 16) (N := some 65) (v := undef) (a' := ?_) z17_26_ rfl rfl (an_ T_) (fun _ _ _ h => h) (Or.inr ⟨by rfl, rfl⟩) ?_ ?_
          rotate_left
          ·simp only [Act.put, sa_, sb_, sc_, i64_w, i32_w]
           rfl
          refine pure_ (i := 17) (N := some 66) (v := undef) (a' := ?_) z17_18_ rfl rfl (an_ T_) (fun _ _ _ h => h) (Or.inr ⟨by rfl, rfl⟩) ?_ ?_
          rotate_left
          ·simp only [Act.put, sa_, sb_, sc_, i64_w, i32_w]
           rfl
          refine pure_ (i := 18) (N := some 67) (v := undef) (a' := ?_) z17_19_ rfl rfl (an_ T_) (fun _ _ _ h => h) (Or.inr ⟨by rfl, rfl⟩) ?_ ?_
          rotate_left
          ·simp only [Act.put, sa_, sb_, sc_, i64_w, i32_w]
           rfl
          refine pure_ (i := 19) (N := some 68) (v := undef) (a' := ?_) z17_20_ rfl rfl (an_ T_) (fun _ _ _ h => h) (Or.inr ⟨by rfl, rfl⟩) ?_ ?_
          rotate_left
          ·simp only [Act.put, sa_, sb_, sc_, i64_w, i32_w]
           rfl
          refine pure_ (i := 20) (N := some 69) (v := undef) (a' := ?_) z17_21_ rfl rfl (an_ T_) (fun _ _ _ h => h) (Or.inr ⟨by rfl, rfl⟩) ?_ ?_
          rotate_left
          ·simp only [Act.put, sa_, sb_, sc_, i64_w, i32_w]
           rfl
          refine pure_ (i := 21) (N := some 70) (v := undef) (a' := ?_) z17_22_ rfl rfl (an_ T_) (fun _ _ _ h => h) (Or.inr ⟨by rfl, rfl⟩) ?_ ?_
          rotate_left
          ·simp only [Act.put, sa_, sb_, sc_, i64_w, i32_w]
           rfl
          refine pz_ 22 71 z17_23_ ?_
          refine done_ (done_of T_.out (by kernel_rfl)) ?_
          try go_wp2
          go_ret
          exact ⟨by first | rfl | (simp [errW_none, errW_some] <;> rfl) | (simp only [← aO, ← aJ]; first | rfl | (simp [errW_none, errW_some] <;> rfl)) | (simp [*, errW_none, errW_some] <;> rfl), HB.out⟩
        ·rw [if_neg aZ] at H
         exact absurd H (by simp)
       ·rw [if_neg a9] at H
        exact absurd H (by simp)
      ·rw [if_neg aW] at H
       have c17b0 : decide (ag < (ab.length : Int)) = false := decide_eq_false aW
       clear aW
       obtain rfl := Option.some.inj H
       have cg : wr.cell? ⟨af, 0, none⟩ = some (.int .i64 ad) := bq_ aa 0
       have ci : wr.cell? ⟨af, 1, none⟩ = some (.int .i64 ac) := bq_ aa 1
       have cj : wr.cell? ⟨af, 2, none⟩ = some (.int .i64 ae) := bq_ aa 2
       have ck : wr.cell? ⟨af, 3, none⟩ = some (.slice ap ab.length al) := bq_ aa 3
       have cl := blk_frozen aa.out 0
       have cm := blk_frozen aa.out 1
       have cn := blk_frozen aa.out 2
       have co := blk_frozen aa.out 3
       go_wp2
       go_ret
       exact ⟨by first | rfl | (simp [errW_none, errW_some] <;> rfl) | (simp [*, errW_none, errW_some] <;> rfl), HB.out⟩

end Go.Proofs.YtpnpmeogffodgaaDoor.Q
end
section
namespace Go.Proofs.YtpnpmeogffodgaaDoor.Q
open Go.RowKit Go.Proofs.YtpnpmeogffodgaaDoorW.PrintWords Go.Proofs.YtpnpmeogffodgaaDoorW.PrintLast Go.Proofs.YtpnpmeogffodgaaDoorW.PrintMore
attribute [local go_sem] max2_int min2_int max_two min_two max_three min_three max_four min_four run_store_fnV run_store_fnc run_store_nfn   -- for this text's walks alone
set_option linter.unusedVariables false
set_option linter.unusedSimpArgs false

/-! ### attestorref07_Cap: function 20 -/
def attestorref07_Cap.f (k : Nat) (a0_0 : Int) (a0_1 : Int) (a0_2 : Int) (l0_3 : List (List (S36))) : Option ((List (S36))) := (attestorref07_Valid.f k a0_0 a0_1 a0_2 l0_3).bind fun t580 => (if t580 = true then (if 0 ≤ (wrap64 ((l0_3.length : Int) - 1)) then (if (wrap64 ((l0_3.length : Int) - 1)) < (l0_3.length : Int) then (if ([] : List (S36)).length + (rd_L3 l0_3 (wrap64 ((l0_3.length : Int) - 1))).length < 8796093022208 then (some (([] : List (S36)) ++ (rd_L3 l0_3 (wrap64 ((l0_3.length : Int) - 1))))) else (none)) else (none)) else (none)) else (some ([] : List (S36))))
theorem attestorref07_Cap.mono : ∀ a0 a1 a2 a3 k, LeO (attestorref07_Cap.f k a0 a1 a2 a3) (attestorref07_Cap.f (k + 1) a0 a1 a2 a3) := by
  intro a0 a1 a2 a3 k
  unfold attestorref07_Cap.f
  repeat' first
      | (with_reducible exact attestorref07_Valid.mono _ _ _ _ _)
      | (with_reducible exact LeO.refl _)
      | (with_reducible exact LeO.none _)
      | (with_reducible refine LeO.ite ?_ ?_)
      | (with_reducible refine LeO.bind ?_ (fun _ => ?_))
      | exact attestorref07_Valid.mono _ _ _ _ _
      | exact LeO.none _
      | refine LeO.ite ?_ ?_
      | refine LeO.bind ?_ (fun _ => ?_)
set_option maxHeartbeats 8000000 in
set_option maxRecDepth 100000 in
theorem attestorref07_Cap.calls (k : Nat) (a0_0 : Int) (a0_1 : Int) (a0_2 : Int) (A0_3 : Option Addr) (c0_3 : Nat) (l0_3 : List (List (S36))) (r : List (S36)) (w : World) (hr0_3 : Kd.C (Kd.slice 36 k36) w A0_3 l0_3.length l0_3) (hc0_3 : l0_3.length ≤ c0_3) (h : attestorref07_Cap.f k a0_0 a0_1 a0_2 l0_3 = some r) :
    Calls Tryd.prog 20 #[.agg #[.int .i64 a0_0, .int .i64 a0_1, .int .i64 a0_2, .slice A0_3 l0_3.length c0_3]] w fun e w' => ∃ v0_ : Value, e = .returned (v0_) ∧ Kd.R k36 36 w' w.heap.size (fun _ => True) v0_ r ∧ Below w.heap.size w w' := by
  have hu26 := Tryd.underlying26
  have HR0_3 := Aside0.mk hr0_3
  have HC0_3 := Aside0.mk hc0_3
  clear hr0_3 hc0_3
  have HB := Aside0.mk (Below.refl w.heap.size w)
  have H : ((attestorref07_Valid.f k a0_0 a0_1 a0_2 l0_3).bind fun t580 => (if t580 = true then (if 0 ≤ (wrap64 ((l0_3.length : Int) - 1)) then (if (wrap64 ((l0_3.length : Int) - 1)) < (l0_3.length : Int) then (if ([] : List (S36)).length + (rd_L3 l0_3 (wrap64 ((l0_3.length : Int) - 1))).length < 8796093022208 then (some (([] : List (S36)) ++ (rd_L3 l0_3 (wrap64 ((l0_3.length : Int) - 1))))) else (none)) else (none)) else (none)) else (some ([] : List (S36))))) = some r := h
  clear h
  replace H := Option.bind_eq_some_iff.mp H
  obtain ⟨t580, A20, H⟩ := H
  replace H : (if t580 = true then (if 0 ≤ (wrap64 ((l0_3.length : Int) - 1)) then (if (wrap64 ((l0_3.length : Int) - 1)) < (l0_3.length : Int) then (if ([] : List (S36)).length + (rd_L3 l0_3 (wrap64 ((l0_3.length : Int) - 1))).length < 8796093022208 then (some (([] : List (S36)) ++ (rd_L3 l0_3 (wrap64 ((l0_3.length : Int) - 1))))) else (none)) else (none)) else (none)) else (some ([] : List (S36)))) = some r := H
  have A2 := Aside0.mk A20
  clear A20
  by_cases c3 : t580 = true
  · subst c3
    have H1 : (if 0 ≤ (wrap64 ((l0_3.length : Int) - 1)) then (if (wrap64 ((l0_3.length : Int) - 1)) < (l0_3.length : Int) then (if ([] : List (S36)).length + (rd_L3 l0_3 (wrap64 ((l0_3.length : Int) - 1))).length < 8796093022208 then (some (([] : List (S36)) ++ (rd_L3 l0_3 (wrap64 ((l0_3.length : Int) - 1))))) else (none)) else (none)) else (none)) = some r := by rw [if_pos rfl] at H; exact H
    clear H
    have H := H1
    clear H1
    obtain ⟨ji4, hji4⟩ : ∃ j_ : Int, (wrap64 ((l0_3.length : Int) - 1)) = j_ := ⟨_, rfl⟩
    replace H : (if 0 ≤ (ji4) then (if (ji4) < (l0_3.length : Int) then (if ([] : List (S36)).length + (rd_L3 l0_3 (ji4)).length < 8796093022208 then (some (([] : List (S36)) ++ (rd_L3 l0_3 (ji4)))) else (none)) else (none)) else (none)) = some r := by first | (rw [hji4] at H; exact H) | (simp only [hji4] at H ⊢; exact H)
    (try rw [hji4] at A2)
    have hji4w : (IntKind.i64.wrap ((l0_3.length : Int) - 1)) = ji4 := (i64_w _).trans hji4
    by_cases c5 : 0 ≤ (ji4)
    · rw [if_pos c5] at H
      have c5b0 : decide (0 ≤ (ji4)) = true := decide_eq_true c5
      clear c5
      by_cases c6 : (ji4) < (l0_3.length : Int)
      · rw [if_pos c6] at H
        have c6b0 : decide ((ji4) < (l0_3.length : Int)) = true := decide_eq_true c6
        clear c6
        by_cases c7 : ([] : List (S36)).length + (rd_L3 l0_3 (ji4)).length < 8796093022208
        · rw [if_pos c7] at H
          have LMc7 := Aside0.mk c7
          clear c7
          obtain ⟨y582, hy582⟩ : ∃ y_ : List (S36), y_ = (([] : List (S36)) ++ (rd_L3 l0_3 (ji4))) := ⟨_, rfl⟩
          replace H : (some y582) = some r := by first | (rw [hy582]; with_reducible exact H) | (have H2_ := (Option.bind_some _ _).symm.trans H; rw [hy582]; with_reducible exact H2_) | (have H2_ := (Option.bind_some _ _).symm.trans H; with_reducible exact H2_) | with_reducible exact H | (rw [hy582]; exact H) | exact H
          have Ny582 := Aside0.mk hy582
          clear hy582
          obtain rfl := Option.some.inj H
          go_enter Tryd.func20, Tryd.ntmps20
          go_wp2_with (first | ((with_reducible refine gate_dst (N := 1) rfl ?_); refine box_event ?hg (N := 1) ?hd (cs := #[.int .i64 a0_0, .int .i64 a0_1, .int .i64 a0_2, .slice A0_3 l0_3.length c0_3]) (t := 26) ?hr ?_; (case hd => rfl); (case hg => rfl); (case hr => first | (go_simp; done) | (go_simp; rfl)); intro gb579 hg w8 hbox hb; have n0_ := Aside0.mk (below_step (by repeat (first | (with_reducible first | exact HB.out | apply below_alloc | apply pw_below_drewN | apply below_drew1) | exact HB.out)) hb); have n1_ := Aside0.mk (hbox); have n2_ := Aside0.mk ((by rw [hg]; exact (below_size (by repeat (first | (with_reducible first | exact HB.out | apply below_alloc | apply pw_below_drewN | apply below_drew1) | exact HB.out))) : w.heap.size ≤ gb579)); have n3_ := Aside0.mk ((by rw [hg]; exact (below_size (by repeat (first | (with_reducible first | exact HB.out | apply below_alloc | apply pw_below_drewN | apply below_drew1) | exact HB.out))) : w.heap.size ≤ gb579)); clear HB; have HB := n0_; have BK579 := n1_; have GW579 := n2_; have GE579 := n3_; clear n0_ n1_ n2_ n3_; clear hb hbox hg; have hcz9_0 : w8.cell? ⟨gb579, 0, none⟩ = some (.int .i64 a0_0) := (blk_cell BK579.out 0).trans rfl; have hcz9_1 : w8.cell? ⟨gb579, 1, none⟩ = some (.int .i64 a0_1) := (blk_cell BK579.out 1).trans rfl; have hcz9_2 : w8.cell? ⟨gb579, 2, none⟩ = some (.int .i64 a0_2) := (blk_cell BK579.out 2).trans rfl; have hcz9_3 : w8.cell? ⟨gb579, 3, none⟩ = some (.slice A0_3 l0_3.length c0_3) := (blk_cell BK579.out 3).trans rfl; have hfz9_0 := blk_frozen BK579.out 0; have hfz9_1 := blk_frozen BK579.out 1; have hfz9_2 := blk_frozen BK579.out 2; have hfz9_3 := blk_frozen BK579.out 3) | ((with_reducible refine gate_callee (f := 17) rfl ?_); refine goesL_ (some 5) rfl rfl Tryd.func17 (by kernel_rfl) rfl #[.agg #[.int .i64 a0_0, .int .i64 a0_1, .int .i64 a0_2, .slice A0_3 l0_3.length c0_3]] rfl (by (try simp only [List.map_toArray, List.map_cons, List.map_nil]); first | done | rfl | (simp only [List.length_drop, List.length_take]; rfl) | (go_simp; done) | (go_simp; rw [Int.tmod_eq_emod_of_nonneg (by omega)]; omega)) ?_; (with_reducible refine (attestorref07_Valid.calls k a0_0 a0_1 a0_2 _ _ l0_3 true _ ?side1 ?side2 A2.out).mono ?_); (case side1 => repeat (first | exact (Kd.C_below HR0_3.out HB.out) | (with_reducible refine Kd.C_alloc ?_ _) | (with_reducible refine Kd.C_drewN ?_ _) | (with_reducible refine Kd.C_drew ?_))); (case side2 => exact HC0_3.out); rintro e w10 ⟨rfl, hb⟩; refine ⟨_, rfl, ?_⟩; have n0_ := Aside0.mk (blk_below (g := gb579) (o := .cells #[.int .i64 a0_0, .int .i64 a0_1, .int .i64 a0_2, .slice A0_3 l0_3.length c0_3] 26 (0, 0)) (by (with_reducible repeat (first | refine blk_drewN ?_ _ | refine blk_drew ?_ | refine blk_alloc ?_ _)); exact BK579.out) hb); have n1_ := Aside0.mk (below_step (by repeat (first | (with_reducible first | exact HB.out | apply below_alloc | apply pw_below_drewN | apply below_drew1 | refine below_set ?_ GE579.out) | exact HB.out)) hb); clear BK579; clear HB; have BK579 := n0_; have HB := n1_; clear n0_ n1_; (try clear hb); (try clear hb2); (try clear hk); (try clear hi); have hcz11_0 : w10.cell? ⟨gb579, 0, none⟩ = some (.int .i64 a0_0) := (blk_cell BK579.out 0).trans rfl; have hcz11_1 : w10.cell? ⟨gb579, 1, none⟩ = some (.int .i64 a0_1) := (blk_cell BK579.out 1).trans rfl; have hcz11_2 : w10.cell? ⟨gb579, 2, none⟩ = some (.int .i64 a0_2) := (blk_cell BK579.out 2).trans rfl; have hcz11_3 : w10.cell? ⟨gb579, 3, none⟩ = some (.slice A0_3 l0_3.length c0_3) := (blk_cell BK579.out 3).trans rfl; have hfz11_0 := blk_frozen BK579.out 0; have hfz11_1 := blk_frozen BK579.out 1; have hfz11_2 := blk_frozen BK579.out 2; have hfz11_3 := blk_frozen BK579.out 3; have p581 : 0 ≤ ((ji4) : Int) := of_decide_eq_true (by first | (with_reducible assumption) | assumption); have q581 : (ji4) < (l0_3.length : Int) := of_decide_eq_true (by first | (with_reducible assumption) | assumption); obtain ⟨ad581, A581_0, c581_0, e581, hx581_0, hl581_0, hi581_0⟩ := at_L3 HR0_3.out (ji4) p581 q581; cases e581; replace hx581_0 := (HB.out.cell (World.block_lt_of_cell? w _ hx581_0)).trans hx581_0; have HR581_0 := Aside0.mk hi581_0; have HC581_0 := Aside0.mk hl581_0; clear hi581_0 hl581_0; replace p581 := eq_true p581; replace q581 := eq_true q581) | ((with_reducible refine gate_builtin (b := .append) (xs := #[.tmp 7, .tmp 15]) rfl ?_); at_builtin; refine Kd.R_append_rows k36 (w0 := w) w.heap.size rfl (.tmp 7) (.tmp 15) 22 36 (.agg #[(.int .u64 0), (.int .u64 0)]) 16 rfl Tryd.underlying22 info36 rfl (by decide) (by omega) (.slice none 0 0) ([] : List (S36)) (rd_L3 l0_3 (ji4)) _ _ _ (fun _ => True) (fun _ => False) rfl rfl ?aO ?aR (fun _ _ h => h) (fun _ h => h.elim) ?aF ?aB ?aS ?aL ?_; (case aR => repeat (first | exact (Kd.C_below HR581_0.out HB.out) | (with_reducible refine Kd.C_alloc ?_ _) | (with_reducible refine Kd.C_drewN ?_ _) | (with_reducible refine Kd.C_drew ?_))); (case aB => exact (by repeat (first | (with_reducible first | exact HB.out | apply below_alloc | apply pw_below_drewN | apply below_drew1 | refine below_set ?_ GE579.out) | exact HB.out))); (case aF => exact (fun _ _ => trivial)); (case aO => exact ((Kd.R_nil _ _ _ _ (fun _ => True)))); (case aS => exact (below_size (by repeat (first | (with_reducible first | exact HB.out | apply below_alloc | apply pw_below_drewN | apply below_drew1 | refine below_set ?_ GE579.out) | exact HB.out)))); (case aL => have := LMc7.out; omega); intro v583 w12 ho hb hg hat; rw [← Ny582.out] at ho; have n0_ := Aside0.mk (blk_grown (g := gb579) (o := .cells #[.int .i64 a0_0, .int .i64 a0_1, .int .i64 a0_2, .slice (some ad581) l0_3.length c0_3] 26 (0, 0)) (by (with_reducible repeat (first | refine blk_drewN ?_ _ | refine blk_drew ?_ | refine blk_alloc ?_ _)); exact BK579.out) hg (by simp [Value.ownBlock])); have n1_ := Aside0.mk (hb); have n2_ := Aside0.mk (ho); clear BK579; clear HB; have BK579 := n0_; have HB := n1_; have HO584 := n2_; clear n0_ n1_ n2_; clear ho hb hg hat))
          go_ret
          exact ⟨_, by first | rfl | (simp [errW_none, errW_some] <;> rfl) | (simp only [← hji4]; first | rfl | (simp [errW_none, errW_some] <;> rfl)) | (simp [*, errW_none, errW_some] <;> rfl), by (with_reducible repeat (first | apply Kd.R_alloc | apply Kd.R_drewN | apply Kd.R_drew)); exact HO584.out, by repeat (first | (with_reducible first | exact HB.out | apply below_alloc | apply pw_below_drewN | apply below_drew1 | refine below_set ?_ GE579.out) | exact HB.out)⟩
        · rw [if_neg c7] at H
          exact absurd H (by simp)
      · rw [if_neg c6] at H
        exact absurd H (by simp)
    · rw [if_neg c5] at H
      exact absurd H (by simp)
  · replace c3 := Bool.eq_false_iff.mpr c3
    subst c3
    have H1 : (some ([] : List (S36))) = some r := by rw [if_neg (show ¬ (false = true) by decide)] at H; exact H
    clear H
    have H := H1
    clear H1
    obtain rfl := Option.some.inj H
    go_enter Tryd.func20, Tryd.ntmps20
    go_wp2_with (first | ((with_reducible refine gate_dst (N := 1) rfl ?_); refine box_event ?hg (N := 1) ?hd (cs := #[.int .i64 a0_0, .int .i64 a0_1, .int .i64 a0_2, .slice A0_3 l0_3.length c0_3]) (t := 26) ?hr ?_; (case hd => rfl); (case hg => rfl); (case hr => first | (go_simp; done) | (go_simp; rfl)); intro gb579 hg w13 hbox hb; have n0_ := Aside0.mk (below_step (by repeat (first | (with_reducible first | exact HB.out | apply below_alloc | apply pw_below_drewN | apply below_drew1) | exact HB.out)) hb); have n1_ := Aside0.mk (hbox); have n2_ := Aside0.mk ((by rw [hg]; exact (below_size (by repeat (first | (with_reducible first | exact HB.out | apply below_alloc | apply pw_below_drewN | apply below_drew1) | exact HB.out))) : w.heap.size ≤ gb579)); have n3_ := Aside0.mk ((by rw [hg]; exact (below_size (by repeat (first | (with_reducible first | exact HB.out | apply below_alloc | apply pw_below_drewN | apply below_drew1) | exact HB.out))) : w.heap.size ≤ gb579)); clear HB; have HB := n0_; have BK579 := n1_; have GW579 := n2_; have GE579 := n3_; clear n0_ n1_ n2_ n3_; clear hb hbox hg; have hcz14_0 : w13.cell? ⟨gb579, 0, none⟩ = some (.int .i64 a0_0) := (blk_cell BK579.out 0).trans rfl; have hcz14_1 : w13.cell? ⟨gb579, 1, none⟩ = some (.int .i64 a0_1) := (blk_cell BK579.out 1).trans rfl; have hcz14_2 : w13.cell? ⟨gb579, 2, none⟩ = some (.int .i64 a0_2) := (blk_cell BK579.out 2).trans rfl; have hcz14_3 : w13.cell? ⟨gb579, 3, none⟩ = some (.slice A0_3 l0_3.length c0_3) := (blk_cell BK579.out 3).trans rfl; have hfz14_0 := blk_frozen BK579.out 0; have hfz14_1 := blk_frozen BK579.out 1; have hfz14_2 := blk_frozen BK579.out 2; have hfz14_3 := blk_frozen BK579.out 3) | ((with_reducible refine gate_callee (f := 17) rfl ?_); refine goesL_ (some 5) rfl rfl Tryd.func17 (by kernel_rfl) rfl #[.agg #[.int .i64 a0_0, .int .i64 a0_1, .int .i64 a0_2, .slice A0_3 l0_3.length c0_3]] rfl (by (try simp only [List.map_toArray, List.map_cons, List.map_nil]); first | done | rfl | (simp only [List.length_drop, List.length_take]; rfl) | (go_simp; done) | (go_simp; rw [Int.tmod_eq_emod_of_nonneg (by omega)]; omega)) ?_; (with_reducible refine (attestorref07_Valid.calls k a0_0 a0_1 a0_2 _ _ l0_3 false _ ?side1 ?side2 A2.out).mono ?_); (case side1 => repeat (first | exact (Kd.C_below HR0_3.out HB.out) | (with_reducible refine Kd.C_alloc ?_ _) | (with_reducible refine Kd.C_drewN ?_ _) | (with_reducible refine Kd.C_drew ?_))); (case side2 => exact HC0_3.out); rintro e w15 ⟨rfl, hb⟩; refine ⟨_, rfl, ?_⟩; have n0_ := Aside0.mk (blk_below (g := gb579) (o := .cells #[.int .i64 a0_0, .int .i64 a0_1, .int .i64 a0_2, .slice A0_3 l0_3.length c0_3] 26 (0, 0)) (by (with_reducible repeat (first | refine blk_drewN ?_ _ | refine blk_drew ?_ | refine blk_alloc ?_ _)); exact BK579.out) hb); have n1_ := Aside0.mk (below_step (by repeat (first | (with_reducible first | exact HB.out | apply below_alloc | apply pw_below_drewN | apply below_drew1 | refine below_set ?_ GE579.out) | exact HB.out)) hb); clear BK579; clear HB; have BK579 := n0_; have HB := n1_; clear n0_ n1_; (try clear hb); (try clear hb2); (try clear hk); (try clear hi)))
    go_ret
    exact ⟨_, by first | rfl | (simp [errW_none, errW_some] <;> rfl) | (simp [*, errW_none, errW_some] <;> rfl), by first | exact Kd.R_nil _ _ _ _ _ | exact Kd.N_nil _ _ _ _ _ | exact Kd.V_nil _ _ _ _ _ | exact Kd.Q_nil _ _ _ _ _ | exact Kd.S_nil _ _ _ _ _, by repeat (first | (with_reducible first | exact HB.out | apply below_alloc | apply pw_below_drewN | apply below_drew1 | refine below_set ?_ GE579.out) | exact HB.out)⟩

end Go.Proofs.YtpnpmeogffodgaaDoor.Q
end
section
namespace Go.Proofs.YtpnpmeogffodgaaDoor.Q
open Go.RowKit Go.Proofs.YtpnpmeogffodgaaDoorW.PrintWords Go.Proofs.YtpnpmeogffodgaaDoorW.PrintLast Go.Proofs.YtpnpmeogffodgaaDoorW.PrintMore
attribute [local go_sem] max2_int min2_int max_two min_two max_three min_three max_four min_four run_store_fnV run_store_fnc run_store_nfn   -- for this text's walks alone
set_option linter.unusedVariables false
set_option linter.unusedSimpArgs false

/-! ### attestorlaw07_small: function 30 -/
def attestorlaw07_small.l0 : Nat → List (List (S36)) → Int → Int → Int → Int → List (List (S36)) → Option (Int × Int × Int × (List (List (S36))))
  | 0, _, _, _, _, _, _ => none
  | k + 1, x3, x4, x760000, x760001, x760002, x760003 => if x4 < (x760003.length : Int) then (if x4 < 8 then (if 0 ≤ x4 then ((attestorlaw07_cut.f (rd_L3 x760003 x4) 70).bind fun t762 => (if x3.length < 5864062014805 then (attestorlaw07_small.l0 k (x3 ++ [t762]) (wrap64 (x4 + 1)) x760000 x760001 x760002 x760003) else (none))) else (none)) else (some (x760000, x760001, x760002, x3))) else (some (x760000, x760001, x760002, x3))
def attestorlaw07_small.f (k : Nat) (a0_0 : Int) (a0_1 : Int) (a0_2 : Int) (l0_3 : List (List (S36))) : Option (Int × Int × Int × (List (List (S36)))) := attestorlaw07_small.l0 k ([] : List (List (S36))) 0 a0_0 a0_1 a0_2 l0_3
theorem attestorlaw07_small.mono_l : ∀ k, (∀ y0 y1 y2 y3 y4 y5, LeO (attestorlaw07_small.l0 k y0 y1 y2 y3 y4 y5) (attestorlaw07_small.l0 (k + 1) y0 y1 y2 y3 y4 y5))
  | 0 => fun _ _ _ _ _ _ r h => by simp [attestorlaw07_small.l0] at h
  | k + 1 => by
    have ih0 := attestorlaw07_small.mono_l k
    · intro y0 y1 y2 y3 y4 y5
      unfold attestorlaw07_small.l0
      repeat' first
      | (with_reducible exact ih0 _ _ _ _ _ _)
      | (with_reducible exact LeO.refl _)
      | (with_reducible exact LeO.none _)
      | (with_reducible refine LeO.ite ?_ ?_)
      | (with_reducible refine LeO.bind ?_ (fun _ => ?_))
      | exact ih0 _ _ _ _ _ _
      | exact LeO.none _
      | refine LeO.ite ?_ ?_
      | refine LeO.bind ?_ (fun _ => ?_)
theorem attestorlaw07_small.mono : ∀ a0 a1 a2 a3 k, LeO (attestorlaw07_small.f k a0 a1 a2 a3) (attestorlaw07_small.f (k + 1) a0 a1 a2 a3) := by
  intro a0 a1 a2 a3 k
  have ih0 := attestorlaw07_small.mono_l k
  unfold attestorlaw07_small.f
  repeat' first
      | (with_reducible exact ih0 _ _ _ _ _ _)
      | (with_reducible exact LeO.refl _)
      | (with_reducible exact LeO.none _)
      | (with_reducible refine LeO.ite ?_ ?_)
      | (with_reducible refine LeO.bind ?_ (fun _ => ?_))
      | exact ih0 _ _ _ _ _ _
      | exact LeO.none _
      | refine LeO.ite ?_ ?_
      | refine LeO.bind ?_ (fun _ => ?_)
set_option maxHeartbeats 8000000 in
set_option maxRecDepth 100000 in
theorem attestorlaw07_small.calls (k : Nat) (a0_0 : Int) (a0_1 : Int) (a0_2 : Int) (A0_3 : Option Addr) (c0_3 : Nat) (l0_3 : List (List (S36))) (r1 : Int) (r2 : Int) (r3 : Int) (r4 : List (List (S36))) (w : World) (hr0_3 : Kd.C (Kd.slice 36 k36) w A0_3 l0_3.length l0_3) (hc0_3 : l0_3.length ≤ c0_3) (h : attestorlaw07_small.f k a0_0 a0_1 a0_2 l0_3 = some (r1, r2, r3, r4)) :
  Calls Tryd.prog 30 #[.agg #[.int .i64 a0_0, .int .i64 a0_1, .int .i64 a0_2, .slice A0_3 l0_3.length c0_3]] w fun e w' => ∃ v3_ : Value, e = .returned (.agg #[.int .i64 r1, .int .i64 r2, .int .i64 r3, v3_]) ∧ Kd.S (Kd.slice 36 k36) 22 w' w.heap.size (fun _ => True) v3_ r4 ∧ Below w.heap.size w w' := by
 have hu26 := Tryd.underlying26
 have HR0_3 := aj hr0_3
 have HC0_3 := aj hc0_3
 clear hr0_3 hc0_3
 have HB := aj (Below.refl w.heap.size w)
 have H : (attestorlaw07_small.l0 k ([] : List (List (S36))) 0 a0_0 a0_1 a0_2 l0_3) = some (r1, r2, r3, r4) := h
 clear h
 have H' := aj H
 clear H
 go_enter Tryd.func30, Tryd.ntmps30
 go_wp2_with (first | ((with_reducible refine gate_dst (N := 1) rfl ?_); refine box_event ?hg (N := 1) ?hd (cs := #[.int .i64 a0_0, .int .i64 a0_1, .int .i64 a0_2, .slice A0_3 l0_3.length c0_3]) (t := 26) ?hr ?_; (case hd => rfl); (case hg => rfl); (case hr => first | (go_simp; done) | (go_simp; rfl)); intro g759 hg w2 hbox hb; have n0_ := aj (below_step HB.out hb); have n1_ := aj (hbox); have n3_ := aj ((by rw [hg]; exact (below_size HB.out) : w.heap.size ≤ g759)); clear HB; have HB := n0_; have B759 := n1_; have GE759 := n3_; clear n0_ n1_ n3_; clear hb hbox hg) | ((with_reducible refine gate_dst (N := 2) rfl ?_); refine box_event ?hg (N := 2) ?hd (cs := #[.int .i64 0, .int .i64 0, .int .i64 0, .slice none 0 0]) (t := 26) ?hr ?_; (case hd => rfl); (case hg => rfl); (case hr => first | (go_simp; done) | (go_simp; rfl)); intro g760 hg w3 hbox hb; have n0_ := aj (blk_below B759.out hb); have n1_ := aj (below_step HB.out hb); have n2_ := aj (hbox); have n4_ := aj ((by rw [hg]; exact (below_size HB.out) : w.heap.size ≤ g760)); have n5_ := aj ((by rw [hg]; exact Nat.ne_of_lt (blk_lt B759.out) : g759 ≠ g760)); have n6_ := aj ((by rw [hg]; exact Nat.ne_of_gt (blk_lt B759.out) : g760 ≠ g759)); clear B759; clear HB; have B759 := n0_; have HB := n1_; have B760 := n2_; have GE760 := n4_; have NB759_760 := n5_; have NB760_759 := n6_; clear n0_ n1_ n2_ n4_ n5_ n6_; clear hb hbox hg))
 go_loopg [3, 4] k (fun kq v3 v4 w' => ∃ (x3_1 : List (List (S36))) (x4_1 : Int), v4 = .int .i64 x4_1 ∧ Aside0 (attestorlaw07_small.l0 kq x3_1 x4_1 a0_0 a0_1 a0_2 l0_3 = some (r1, r2, r3, r4)) ∧ Aside0 (kq ≤ k) ∧ Aside0 (Kd.S (Kd.slice 36 k36) 22 w' w.heap.size (fun _ => True) v3 x3_1) ∧ Aside0 (w'.heap[g759]? = some (.cells #[.int .i64 a0_0, .int .i64 a0_1, .int .i64 a0_2, (.slice A0_3 l0_3.length c0_3)] 26 (0, 0))) ∧ Aside0 (w'.heap[g760]? = some (.cells #[.int .i64 0, .int .i64 0, .int .i64 0, (.slice none 0 0)] 26 (0, 0))) ∧ Aside0 (Below w.heap.size w w'))
 case atStart => exact ⟨(([] : List (List (S36)))), (0), (by first | rfl | simp), H', ⟨Nat.le_refl _⟩, ⟨by first | exact Kd.S_nil _ _ _ _ _ | exact Kd.N_nil _ _ _ _ _ | exact Kd.V_nil _ _ _ _ _ | exact Kd.Q_nil _ _ _ _ _ | exact Kd.R_nil _ _ _ _ _⟩, ⟨by exact B759.out⟩, ⟨by exact B760.out⟩, ⟨HB.out⟩⟩
 case round =>
  clear H'
  obtain ⟨x3_1, x4_1, rfl, HA, HK1, HO_3, B759, B760, HB⟩ := hrel
  cases gk with
  | zero => exact absurd HA.out (by simp [attestorlaw07_small.l0])
  | succ k1 =>
   have H := HA.out
   clear HA
   simp only [attestorlaw07_small.l0] at H
   by_cases c4 : x4_1 < (l0_3.length : Int)
   ·rw [if_pos c4] at H
    have c4b0 : decide (x4_1 < (l0_3.length : Int)) = true := decide_eq_true c4
    clear c4
    by_cases c5 : x4_1 < 8
    ·rw [if_pos c5] at H
     have c5b0 : decide (x4_1 < 8) = true := decide_eq_true c5
     clear c5
     by_cases c6 : 0 ≤ x4_1
     ·rw [if_pos c6] at H
      have c6b0 : decide (0 ≤ x4_1) = true := decide_eq_true c6
      clear c6
      replace H := Option.bind_eq_some_iff.mp H
      obtain ⟨t762, A70, H⟩ := H
      have A7 := aj A70
      clear A70
      by_cases c8 : x3_1.length < 5864062014805
      ·rw [if_pos c8] at H
       have LMc8 := aj c8
       clear c8
       obtain ⟨y765, hy765⟩ : ∃ y_ : List (List (S36)), y_ = (x3_1 ++ [t762]) := ⟨_, rfl⟩
       (first | rw [← hy765] at H | simp only [← hy765] at H)
       have Ny765 := aj hy765
       clear hy765
       have H' := aj H
       clear H
       have hnb9 := NB759_760.out
       have hnc9 := NB760_759.out
       have hcz10_0 : wr.cell? ⟨g759, 0, none⟩ = some (.int .i64 a0_0) := bq_ B759 0
       have hcz10_1 : wr.cell? ⟨g759, 1, none⟩ = some (.int .i64 a0_1) := bq_ B759 1
       have hcz10_2 : wr.cell? ⟨g759, 2, none⟩ = some (.int .i64 a0_2) := bq_ B759 2
       have hcz10_3 : wr.cell? ⟨g759, 3, none⟩ = some (.slice A0_3 l0_3.length c0_3) := bq_ B759 3
       have hfz10_0 := blk_frozen B759.out 0
       have hfz10_1 := blk_frozen B759.out 1
       have hfz10_2 := blk_frozen B759.out 2
       have hfz10_3 := blk_frozen B759.out 3
       have p761 : 0 ≤ (x4_1 : Int) := of_decide_eq_true (by assumption)
       have q761 : x4_1 < (l0_3.length : Int) := of_decide_eq_true (by assumption)
       obtain ⟨ad761, A761_0, c761_0, e761, hx761_0, hl761_0, hi761_0⟩ := at_L3 HR0_3.out x4_1 p761 q761
       cases e761
       replace hx761_0 := (HB.out.cell (World.block_lt_of_cell? w _ hx761_0)).trans hx761_0
       have HR761_0 := aj hi761_0
       have HC761_0 := aj hl761_0
       clear hi761_0 hl761_0
       replace p761 := eq_true p761
       replace q761 := eq_true q761
       go_wp2_with (first | ((with_reducible refine gate_callee (f := 12) rfl ?_); refine goesL_ (some 22) rfl rfl Tryd.func12 (by kernel_rfl) rfl #[.slice A761_0 (rd_L3 l0_3 x4_1).length c761_0, .int .i64 70] rfl (by (try simp only [List.map_toArray, List.map_cons, List.map_nil]); first | done | rfl | (go_simp; done)) ?_; (with_reducible refine (attestorlaw07_cut.calls _ _ (rd_L3 l0_3 x4_1) 70 t762 _ ?side1 ?side2 A7.out).mono ?_); (case side1 => exact (Kd.C_below HR761_0.out HB.out)); (case side2 => exact HC761_0.out); rintro e w11 ⟨v763, rfl, ho0, hb⟩; refine ⟨_, rfl, ?_⟩; have n0_ := aj (Kd.S_elder' (HO_3.out) (Kd.R_base ho0) hb); have n1_ := aj (Kd.R_lower ho0 (below_size HB.out)); have n2_ := aj (blk_below B759.out hb); have n3_ := aj (blk_below B760.out hb); have n4_ := aj (below_step HB.out hb); clear HO_3; clear B759; clear B760; clear HB; have HO_3 := n0_; have HO764 := n1_; have B759 := n2_; have B760 := n3_; have HB := n4_; clear n0_ n1_ n2_ n3_ n4_; (try clear hb); (try clear hb2); (try clear hk); (try clear hi); (try clear ho0); obtain ⟨Ao13, co13, eo13⟩ := Kd.R_slice HO764.out; subst eo13) | ((with_reducible refine gate_builtin (b := .append) (xs := #[.tmp 16, .tmp 23]) rfl ?_); at_builtin; refine Kd.S_append (Kd.slice 36 k36) (w0 := w) w.heap.size rfl (.tmp 16) (.tmp 23) 24 22 (.slice none 0 0) 24 rfl Tryd.underlying24 info22 rfl (by decide) (by omega) u3 x3_1 t762 [.slice Ao13 t762.length co13] (fun _ => True) (fun k_ => some k_ = (.slice Ao13 t762.length co13 : Value).ownBlock) rfl rfl ?aP (fun k_ hk_ => ((Kd.R_mono (ok' := fun k_ => ((fun _ => True)) k_ ∧ some k_ ≠ (u3 : Value).ownBlock) (Kd.R_apart' (HO764.out) (Kd.S_typed HO_3.out) (by decide)) (fun k_ hk => ⟨trivial, hk.2⟩))).1 k_ hk_.symm) ?aF ?aO ?aB ?aS ?aL ?_; (case aP => exact Kd.M_row (Kd.R_mono (Kd.R_tight rfl (Kd.R_mono (ok' := fun k_ => ((fun _ => True)) k_ ∧ some k_ ≠ (u3 : Value).ownBlock) (Kd.R_apart' (HO764.out) (Kd.S_typed HO_3.out) (by decide)) (fun k_ hk => ⟨trivial, hk.2⟩))) (fun _ h_ => h_))); (case aB => exact HB.out); (case aF => exact (fun _ _ => trivial)); (case aO => exact (Kd.S_mono HO_3.out (fun k_ hk => ⟨trivial, fun e_ => hk.2 e_⟩))); (case aS => exact (below_size HB.out)); (case aL => have := LMc8.out; omega); intro v766 w12 ho hb hg hat; rw [← Ny765.out] at ho; have n0_ := aj (blk_grown B759.out hg (Kd.S_ne HO_3.out B759.out (by decide))); have n1_ := aj (blk_grown B760.out hg (Kd.S_ne HO_3.out B760.out (by decide))); have n2_ := aj (hb); have n3_ := aj (ho); clear B759; clear B760; clear HB; clear HO_3; clear HO764; have B759 := n0_; have B760 := n1_; have HB := n2_; have HO767 := n3_; clear n0_ n1_ n2_ n3_; clear ho hb hg hat))
       go_roundg k1
       case measure => have := HK1.out; omega
       case rel => exact ⟨(y765), (wrap64 (x4_1 + 1)), (by first | rfl | simp), H', ⟨by have := HK1.out; omega⟩, ⟨by (with_reducible repeat (first | apply Kd.S_alloc | apply Kd.S_drewN | apply Kd.S_drew)); exact HO767.out⟩, ⟨by exact B759.out⟩, ⟨by exact B760.out⟩, ⟨HB.out⟩⟩
      ·rw [if_neg c8] at H
       exact absurd H (by simp)
     ·rw [if_neg c6] at H
      exact absurd H (by simp)
    ·rw [if_neg c5] at H
     have c5b0 : decide (x4_1 < 8) = false := decide_eq_false c5
     clear c5
     simp only [Option.some.injEq, Prod.mk.injEq] at H
     obtain ⟨rfl, rfl, rfl, rfl⟩ := H
     have hnb14 := NB759_760.out
     have hnc14 := NB760_759.out
     have hcz15_0 : wr.cell? ⟨g759, 0, none⟩ = some (.int .i64 a0_0) := bq_ B759 0
     have hcz15_1 : wr.cell? ⟨g759, 1, none⟩ = some (.int .i64 a0_1) := bq_ B759 1
     have hcz15_2 : wr.cell? ⟨g759, 2, none⟩ = some (.int .i64 a0_2) := bq_ B759 2
     have hcz15_3 : wr.cell? ⟨g759, 3, none⟩ = some (.slice A0_3 l0_3.length c0_3) := bq_ B759 3
     have hfz15_0 := blk_frozen B759.out 0
     have hfz15_1 := blk_frozen B759.out 1
     have hfz15_2 := blk_frozen B759.out 2
     have hfz15_3 := blk_frozen B759.out 3
     obtain ⟨Ao16, co16, eo16⟩ := Kd.S_slice HO_3.out
     subst eo16
     have hcz17_0 : wr.cell? ⟨g760, 0, none⟩ = some (.int .i64 0) := bq_ B760 0
     have hcz17_1 : wr.cell? ⟨g760, 1, none⟩ = some (.int .i64 0) := bq_ B760 1
     have hcz17_2 : wr.cell? ⟨g760, 2, none⟩ = some (.int .i64 0) := bq_ B760 2
     have hcz17_3 : wr.cell? ⟨g760, 3, none⟩ = some (.slice none 0 0) := bq_ B760 3
     have hfz17_0 := blk_frozen B760.out 0
     have hfz17_1 := blk_frozen B760.out 1
     have hfz17_2 := blk_frozen B760.out 2
     have hfz17_3 := blk_frozen B760.out 3
     go_wp2
     refine bodyPost_ret (results_cell_row rfl _ _ g760 26 #[.int .i64 a0_0, .int .i64 a0_1, .int .i64 a0_2, .slice Ao16 x3_1.length co16] (0, 0) _ rfl (by refine blk_put (cs := #[.int .i64 a0_0, .int .i64 a0_1, .int .i64 a0_2, .slice none 0 0]) ?_ 3 _ rfl; refine blk_put (cs := #[.int .i64 a0_0, .int .i64 a0_1, .int .i64 0, .slice none 0 0]) ?_ 2 _ rfl; refine blk_put (cs := #[.int .i64 a0_0, .int .i64 0, .int .i64 0, .slice none 0 0]) ?_ 1 _ rfl; refine blk_put (cs := #[.int .i64 0, .int .i64 0, .int .i64 0, .slice none 0 0]) ?_ 0 _ rfl; refine blk_far ?_ NB760_759.out _; exact B760.out) Tryd.underlying26 rfl (by kernel_rfl)) rfl ?_
     exact ⟨_, by first | rfl | (simp [errW_none, errW_some] <;> rfl) | (simp [*, errW_none, errW_some] <;> rfl), by (with_reducible repeat (first | apply Kd.S_alloc | apply Kd.S_drewN | apply Kd.S_drew)); exact Kd.S_mono (Kd.S_far (p := ⟨g760, 3, none⟩) (Kd.S_far (p := ⟨g760, 2, none⟩) (Kd.S_far (p := ⟨g760, 1, none⟩) (Kd.S_far (p := ⟨g760, 0, none⟩) (Kd.S_far (p := ⟨g759, 3, none⟩) (Kd.S_types (Kd.S_types HO_3.out B759.out (by decide)) B760.out (by decide)) (fun _ hk => hk.1.2) (.slice Ao16 x3_1.length co16)) (fun _ hk => hk.2) (.int .i64 a0_0)) (fun _ hk => hk.2) (.int .i64 a0_1)) (fun _ hk => hk.2) (.int .i64 a0_2)) (fun _ hk => hk.2) (.slice Ao16 x3_1.length co16)) (fun _ hk => trivial), by repeat (first | (with_reducible first | exact HB.out | apply below_alloc | apply pw_below_drewN | apply below_drew1 | refine below_set ?_ GE759.out | refine below_set ?_ GE760.out) | exact HB.out)⟩
   ·rw [if_neg c4] at H
    have c4b0 : decide (x4_1 < (l0_3.length : Int)) = false := decide_eq_false c4
    clear c4
    simp only [Option.some.injEq, Prod.mk.injEq] at H
    obtain ⟨rfl, rfl, rfl, rfl⟩ := H
    have hnb18 := NB759_760.out
    have hnc18 := NB760_759.out
    have hcz19_0 : wr.cell? ⟨g759, 0, none⟩ = some (.int .i64 a0_0) := bq_ B759 0
    have hcz19_1 : wr.cell? ⟨g759, 1, none⟩ = some (.int .i64 a0_1) := bq_ B759 1
    have hcz19_2 : wr.cell? ⟨g759, 2, none⟩ = some (.int .i64 a0_2) := bq_ B759 2
    have hcz19_3 : wr.cell? ⟨g759, 3, none⟩ = some (.slice A0_3 l0_3.length c0_3) := bq_ B759 3
    have hfz19_0 := blk_frozen B759.out 0
    have hfz19_1 := blk_frozen B759.out 1
    have hfz19_2 := blk_frozen B759.out 2
    have hfz19_3 := blk_frozen B759.out 3
    obtain ⟨Ao20, co20, eo20⟩ := Kd.S_slice HO_3.out
    subst eo20
    have hcz21_0 : wr.cell? ⟨g760, 0, none⟩ = some (.int .i64 0) := bq_ B760 0
    have hcz21_1 : wr.cell? ⟨g760, 1, none⟩ = some (.int .i64 0) := bq_ B760 1
    have hcz21_2 : wr.cell? ⟨g760, 2, none⟩ = some (.int .i64 0) := bq_ B760 2
    have hcz21_3 : wr.cell? ⟨g760, 3, none⟩ = some (.slice none 0 0) := bq_ B760 3
    have hfz21_0 := blk_frozen B760.out 0
    have hfz21_1 := blk_frozen B760.out 1
    have hfz21_2 := blk_frozen B760.out 2
    have hfz21_3 := blk_frozen B760.out 3
    go_wp2
    refine bodyPost_ret (results_cell_row rfl _ _ g760 26 #[.int .i64 a0_0, .int .i64 a0_1, .int .i64 a0_2, .slice Ao20 x3_1.length co20] (0, 0) _ rfl (by refine blk_put (cs := #[.int .i64 a0_0, .int .i64 a0_1, .int .i64 a0_2, .slice none 0 0]) ?_ 3 _ rfl; refine blk_put (cs := #[.int .i64 a0_0, .int .i64 a0_1, .int .i64 0, .slice none 0 0]) ?_ 2 _ rfl; refine blk_put (cs := #[.int .i64 a0_0, .int .i64 0, .int .i64 0, .slice none 0 0]) ?_ 1 _ rfl; refine blk_put (cs := #[.int .i64 0, .int .i64 0, .int .i64 0, .slice none 0 0]) ?_ 0 _ rfl; refine blk_far ?_ NB760_759.out _; exact B760.out) Tryd.underlying26 rfl (by kernel_rfl)) rfl ?_
    exact ⟨_, by first | rfl | (simp [errW_none, errW_some] <;> rfl) | (simp [*, errW_none, errW_some] <;> rfl), by (with_reducible repeat (first | apply Kd.S_alloc | apply Kd.S_drewN | apply Kd.S_drew)); exact Kd.S_mono (Kd.S_far (p := ⟨g760, 3, none⟩) (Kd.S_far (p := ⟨g760, 2, none⟩) (Kd.S_far (p := ⟨g760, 1, none⟩) (Kd.S_far (p := ⟨g760, 0, none⟩) (Kd.S_far (p := ⟨g759, 3, none⟩) (Kd.S_types (Kd.S_types HO_3.out B759.out (by decide)) B760.out (by decide)) (fun _ hk => hk.1.2) (.slice Ao20 x3_1.length co20)) (fun _ hk => hk.2) (.int .i64 a0_0)) (fun _ hk => hk.2) (.int .i64 a0_1)) (fun _ hk => hk.2) (.int .i64 a0_2)) (fun _ hk => hk.2) (.slice Ao20 x3_1.length co20)) (fun _ hk => trivial), by repeat (first | (with_reducible first | exact HB.out | apply below_alloc | apply pw_below_drewN | apply below_drew1 | refine below_set ?_ GE759.out | refine below_set ?_ GE760.out) | exact HB.out)⟩

end Go.Proofs.YtpnpmeogffodgaaDoor.Q
end
section
namespace Go.Proofs.YtpnpmeogffodgaaDoor.Q
open Go.RowKit Go.Proofs.YtpnpmeogffodgaaDoorW.PrintWords Go.Proofs.YtpnpmeogffodgaaDoorW.PrintLast Go.Proofs.YtpnpmeogffodgaaDoorW.PrintMore
attribute [local go_sem] max2_int min2_int max_two min_two max_three min_three max_four min_four run_store_fnV run_store_fnc run_store_nfn   -- for this text's walks alone
set_option linter.unusedVariables false
set_option linter.unusedSimpArgs false

/-! ### attestorref07_other: function 52 -/
def attestorref07_other.f (a0 : Int) : Option (Int) := if (Int.tmod a0 2) = 0 then (some (wrap64 (a0 + 1))) else (some (wrap64 (a0 - 1)))
set_option maxHeartbeats 8000000 in
set_option maxRecDepth 100000 in
theorem attestorref07_other.calls (a0 : Int) (r : Int) (w : World) (h : attestorref07_other.f a0 = some r) :
    Calls Tryd.prog 52 #[.int .i64 a0] w fun e w' => e = .returned (.int .i64 r) ∧ Drawn0 w w' := by
  have H : (if (Int.tmod a0 2) = 0 then (some (wrap64 (a0 + 1))) else (some (wrap64 (a0 - 1)))) = some r := h
  clear h
  by_cases c2 : (Int.tmod a0 2) = 0
  · rw [if_pos c2] at H
    have c2b0 : ((Int.tmod a0 2) == 0) = true := beq_iff_eq.mpr c2
    have c2b1 : ((Int.tmod a0 2) != 0) = false := bne_eq_false_iff_eq.mpr c2
    clear c2
    obtain rfl := Option.some.inj H
    go_enter Tryd.func52, Tryd.ntmps52
    go_wp2
    go_ret
    exact ⟨by first | rfl | (simp; done) | (simp [*]; done), by repeat (first | exact Drawn0.refl _ | apply Drawn0.step)⟩
  · rw [if_neg c2] at H
    have c2b0 : ((Int.tmod a0 2) == 0) = false := beq_eq_false_iff_ne.mpr c2
    have c2b1 : ((Int.tmod a0 2) != 0) = true := bne_iff_ne.mpr c2
    obtain rfl := Option.some.inj H
    go_enter Tryd.func52, Tryd.ntmps52
    go_wp2
    go_ret
    exact ⟨by first | rfl | (simp; done) | (simp [*]; done), by repeat (first | exact Drawn0.refl _ | apply Drawn0.step)⟩

end Go.Proofs.YtpnpmeogffodgaaDoor.Q
end
section
namespace Go.Proofs.YtpnpmeogffodgaaDoor.Q
open Go.RowKit Go.Proofs.YtpnpmeogffodgaaDoorW.PrintWords Go.Proofs.YtpnpmeogffodgaaDoorW.PrintLast Go.Proofs.YtpnpmeogffodgaaDoorW.PrintMore
attribute [local go_sem] max2_int min2_int max_two min_two max_three min_three max_four min_four run_store_fnV run_store_fnc run_store_nfn   -- for this text's walks alone
set_option linter.unusedVariables false
set_option linter.unusedSimpArgs false

abbrev z31_0_ := zb 13 0
abbrev z31_1_ := zb 13 1
abbrev z31_2_ := zb 13 3
abbrev z31_3_ := zb 13 11
abbrev z31_4_ := zb 13 75
abbrev z31_5_ := zb 13 79
abbrev z31_6_ := zb 13 95
abbrev z31_7_ := zb 13 127
abbrev z31_8_ := zb 13 255
abbrev z31_9_ := zb 13 511
abbrev z31_10_ := zb 13 1023
abbrev z31_11_ := zb 13 2047
abbrev z31_12_ := zb 13 4095
abbrev z31_13_ := zb 13 8191
/-! ### attestorref07_Path: function 31 -/
mutual
def attestorref07_Path.j0 : Nat → Int → Bool → Int → Int → Int → List (List (S36)) → Option ((List (S36)) × Int)
  | 0, _, _, _, _, _, _ => none
  | k + 1, x1, b9, az, aA, aC, am => if b9 = true then (some (([] : List (S36)), 2)) else (attestorref07_Path.l0 k x1 ([] : List (S36)) 0 az aA aC am)
def attestorref07_Path.l0 : Nat → Int → List (S36) → Int → Int → Int → Int → List (List (S36)) → Option ((List (S36)) × Int)
  | 0, _, _, _, _, _, _, _ => none
  | k + 1, x1, x6, x7, az, aA, aC, am => if (wrap64 (x7 + 1)) < (am.length : Int) then (if 0 ≤ x7 then (if x7 < (am.length : Int) then ((attestorref07_other.f x1).bind fun ah => (if 0 ≤ ah then (if ah < ((rd_L3 am x7).length : Int) then (if x6.length < 8796093022208 then (attestorref07_Path.l0 k (wrap64 (Int.tdiv x1 2)) (x6 ++ [(⟨(rd_T36 (rd_L3 am x7) ah).f0, (rd_T36 (rd_L3 am x7) ah).f1⟩ : S36)]) (wrap64 (x7 + 1)) az aA aC am) else (none)) else (none)) else (none))) else (none)) else (none)) else (some (x6, 0))
end
def attestorref07_Path.f (k : Nat) (ae : Int) (af : Int) (ag : Int) (ab : List (List (S36))) (a1 : Int) : Option ((List (S36)) × Int) := (attestorref07_Valid.f k ae af ag ab).bind fun aK => (if aK = true then (if a1 < 0 then (attestorref07_Path.j0 k a1 true ae af ag ab) else (if 0 < (ab.length : Int) then (attestorref07_Path.j0 k a1 (decide (a1 ≥ ((rd_L3 ab 0).length : Int))) ae af ag ab) else (none))) else (some (([] : List (S36)), 1)))
theorem attestorref07_Path.mono_l : ∀ k, (∀ y0 y1 y2 y3 y4 y5, LeO (attestorref07_Path.j0 k y0 y1 y2 y3 y4 y5) (attestorref07_Path.j0 (k + 1) y0 y1 y2 y3 y4 y5)) ∧ (∀ y0 y1 y2 y3 y4 y5 y6, LeO (attestorref07_Path.l0 k y0 y1 y2 y3 y4 y5 y6) (attestorref07_Path.l0 (k + 1) y0 y1 y2 y3 y4 y5 y6))
  | 0 => ⟨fun _ _ _ _ _ _ r h => by simp [attestorref07_Path.j0] at h, fun _ _ _ _ _ _ _ r h => by simp [attestorref07_Path.l0] at h⟩
  | k + 1 => by
    obtain ⟨ih0, ih1⟩ := attestorref07_Path.mono_l k
    refine ⟨?_, ?_⟩
    · intro y0 y1 y2 y3 y4 y5
      unfold attestorref07_Path.j0
      repeat' first
      | (with_reducible exact ih0 _ _ _ _ _ _)
      | (with_reducible exact ih1 _ _ _ _ _ _ _)
      | (with_reducible exact attestorref07_Valid.mono _ _ _ _ _)
      | (with_reducible exact LeO.refl _)
      | (with_reducible exact LeO.none _)
      | (with_reducible refine LeO.ite ?_ ?_)
      | (with_reducible refine LeO.bind ?_ (fun _ => ?_))
      | exact ih0 _ _ _ _ _ _
      | exact ih1 _ _ _ _ _ _ _
      | exact attestorref07_Valid.mono _ _ _ _ _
      | exact LeO.none _
      | refine LeO.ite ?_ ?_
      | refine LeO.bind ?_ (fun _ => ?_)
    · intro y0 y1 y2 y3 y4 y5 y6
      unfold attestorref07_Path.l0
      repeat' first
      | (with_reducible exact ih0 _ _ _ _ _ _)
      | (with_reducible exact ih1 _ _ _ _ _ _ _)
      | (with_reducible exact attestorref07_Valid.mono _ _ _ _ _)
      | (with_reducible exact LeO.refl _)
      | (with_reducible exact LeO.none _)
      | (with_reducible refine LeO.ite ?_ ?_)
      | (with_reducible refine LeO.bind ?_ (fun _ => ?_))
      | exact ih0 _ _ _ _ _ _
      | exact ih1 _ _ _ _ _ _ _
      | exact attestorref07_Valid.mono _ _ _ _ _
      | exact LeO.none _
      | refine LeO.ite ?_ ?_
      | refine LeO.bind ?_ (fun _ => ?_)
theorem attestorref07_Path.mono : ∀ a0 a1 a2 a3 a4 k, LeO (attestorref07_Path.f k a0 a1 a2 a3 a4) (attestorref07_Path.f (k + 1) a0 a1 a2 a3 a4) := by
  intro a0 a1 a2 a3 a4 k
  obtain ⟨ih0, ih1⟩ := attestorref07_Path.mono_l k
  unfold attestorref07_Path.f
  repeat' first
      | (with_reducible exact ih0 _ _ _ _ _ _)
      | (with_reducible exact ih1 _ _ _ _ _ _ _)
      | (with_reducible exact attestorref07_Valid.mono _ _ _ _ _)
      | (with_reducible exact LeO.refl _)
      | (with_reducible exact LeO.none _)
      | (with_reducible refine LeO.ite ?_ ?_)
      | (with_reducible refine LeO.bind ?_ (fun _ => ?_))
      | exact ih0 _ _ _ _ _ _
      | exact ih1 _ _ _ _ _ _ _
      | exact attestorref07_Valid.mono _ _ _ _ _
      | exact LeO.none _
      | refine LeO.ite ?_ ?_
      | refine LeO.bind ?_ (fun _ => ?_)
def attestorref07_Path.T9 : Bool × List (List Nat × List Nat) := (true, [([], []), ([], []), ([1], [1]), ([], []), ([2, 3], [2, 3]), ([4], [4]), ([], []), ([6], [6]), ([5, 7], [5, 7]), ([8], [8]), ([9], [9]), ([0, 10, 7], [0, 10]), ([11, 11, 0, 1, 2, 3, 4, 5, 6, 7, 8, 9, 10, 11], [0, 11])])
def attestorref07_Path.B9 : List Nat := [0, 0, 2, 0, 14, 30, 0, 64, 254, 510, 1022, 2047, 4095]
theorem attestorref07_Path.tab9 : rtab .any (opsOf Tryd.f31 9) = attestorref07_Path.T9 := by kernel_rfl
theorem attestorref07_Path.bits9 : waitsOk attestorref07_Path.T9.2 attestorref07_Path.B9 = true := by kernel_rfl
set_option maxHeartbeats 8000000 in
set_option maxRecDepth 100000 in
theorem attestorref07_Path.calls (k : Nat) (ae : Int) (af : Int) (ag : Int) (ap : Option Addr) (ao : Nat) (ab : List (List (S36))) (a1 : Int) (r1 : List (S36)) (r2 : Int) (w : World) (a7 : Kd.C (Kd.slice 36 k36) w ap ab.length ab) (a8 : ab.length ≤ ao) (h : attestorref07_Path.f k ae af ag ab a1 = some (r1, r2)) :
  Calls Tryd.prog 31 #[.agg #[.int .i64 ae, .int .i64 af, .int .i64 ag, .slice ap ab.length ao], .int .i64 a1] w fun e w' => ∃ bq : Value, e = .returned (.tuple #[bq, .int .i64 r2]) ∧ Kd.R k36 36 w' w.heap.size (fun _ => True) bq r1 ∧ Below w.heap.size w w' := by
 have hu26 := Tryd.underlying26
 have hu36 := Tryd.underlying36
 have aG := aj a7
 have a9 := aj a8
 clear a7 a8
 have HB := aj (Below.refl w.heap.size w)
 have H : ((attestorref07_Valid.f k ae af ag ab).bind fun aK => (if aK = true then (if a1 < 0 then (attestorref07_Path.j0 k a1 true ae af ag ab) else (if 0 < (ab.length : Int) then (attestorref07_Path.j0 k a1 (decide (a1 ≥ ((rd_L3 ab 0).length : Int))) ae af ag ab) else (none))) else (some (([] : List (S36)), 1)))) = some (r1, r2) := h
 clear h
 replace H := Option.bind_eq_some_iff.mp H
 obtain ⟨aK, br, H⟩ := H
 have A3 := aj br
 clear br
 by_cases c4 : aK = true
 ·subst c4
  have H1 : (if a1 < 0 then (attestorref07_Path.j0 k a1 true ae af ag ab) else (if 0 < (ab.length : Int) then (attestorref07_Path.j0 k a1 (decide (a1 ≥ ((rd_L3 ab 0).length : Int))) ae af ag ab) else (none))) = some (r1, r2) := by rw [if_pos rfl] at H; exact H
  clear H
  have H := H1
  clear H1
  have bi := aj H
  clear H
  go_enter Tryd.func31, Tryd.ntmps31
  go_upto_region 3 with (first | ((with_reducible refine gate_dst (N := 2) rfl ?_); (try (refine gate_guard (by rfl) ?_; dsimp only)); refine box_event ?hg (N := 2) ?hd (cs := #[.int .i64 ae, .int .i64 af, .int .i64 ag, .slice ap ab.length ao]) (t := 26) ?hr ?_; (case hd => rfl); (case hg => rfl); (case hr => first | (go_simp; done) | (go_simp; rfl)); intro ac hg w6 hbox hb; have aq := aj (below_step HB.out hb); have ar := aj (hbox); have aV := aj ((by rw [hg]; exact (below_size HB.out) : w.heap.size ≤ ac)); clear HB; have HB := aq; have aa := ar; have bm := aV; clear aq ar aV; clear hb hbox hg; have ca : w6.cell? ⟨ac, 0, none⟩ = some (.int .i64 ae) := bq_ aa 0; have cb : w6.cell? ⟨ac, 1, none⟩ = some (.int .i64 af) := bq_ aa 1; have cc : w6.cell? ⟨ac, 2, none⟩ = some (.int .i64 ag) := bq_ aa 2; have cd : w6.cell? ⟨ac, 3, none⟩ = some (.slice ap ab.length ao) := bq_ aa 3; have ce := blk_frozen aa.out 0; have cf := blk_frozen aa.out 1; have cg := blk_frozen aa.out 2; have ci := blk_frozen aa.out 3) | ((with_reducible refine gate_callee (f := 17) rfl ?_); refine goesL_ (some 9) rfl rfl Tryd.func17 (by kernel_rfl) rfl #[.agg #[.int .i64 ae, .int .i64 af, .int .i64 ag, .slice ap ab.length ao]] rfl (by (try simp only [List.map_toArray, List.map_cons, List.map_nil]); first | done | rfl | (go_simp; done)) ?_; (with_reducible refine (attestorref07_Valid.calls k ae af ag _ _ ab true _ ?side1 ?side2 A3.out).mono ?_); (case side1 => exact (Kd.C_below aG.out HB.out)); (case side2 => exact a9.out); rintro e w8 ⟨rfl, hb⟩; refine ⟨_, rfl, ?_⟩; have aq := aj (blk_below aa.out hb); have ar := aj (below_step HB.out hb); clear aa; clear HB; have aa := aq; have HB := ar; clear aq ar; (try clear hb); (try clear hb2); (try clear hk); (try clear hi)))
  (try simp only [Act.put, sa_, sb_, sc_])
  go_cut [21] (fun cj wc => ∃ (kq : Nat) (aH : Bool), cj = .bool aH ∧ Aside0 (attestorref07_Path.j0 kq a1 aH ae af ag ab = some (r1, r2)) ∧ Aside0 (kq ≤ k) ∧ Aside0 (wc.heap[ac]? = some (.cells #[.int .i64 ae, .int .i64 af, .int .i64 ag, (.slice ap ab.length ao)] 26 (0, 0))) ∧ Aside0 (Below w.heap.size w wc))
  case first =>
   have H := bi.out
   clear bi
   by_cases c9 : a1 < 0
   ·rw [if_pos c9] at H
    have c9b0 : decide (a1 < 0) = true := decide_eq_true c9
    clear c9
    (first | rw [c9b0] | (simp only [i64_w, i32_w]; rw [c9b0]) | skip)
    have H' := aj H
    clear H
    go_wp2
    go_meet
    case rel => exact ⟨_, (true), (by first | rfl | simp), H', ⟨by first | omega | exact Nat.le_refl _⟩, ⟨by exact aa.out⟩, ⟨HB.out⟩⟩
   ·rw [if_neg c9] at H
    have c9b0 : decide (a1 < 0) = false := decide_eq_false c9
    clear c9
    (first | rw [c9b0] | (simp only [i64_w, i32_w]; rw [c9b0]) | skip)
    by_cases c10 : 0 < (ab.length : Int)
    ·rw [if_pos c10] at H
     have c10b0 : decide (0 < (ab.length : Int)) = true := decide_eq_true c10
     have c10b1 : decide (0 < ab.length) = true := decide_eq_true (by omega)
     clear c10
     have H' := aj H
     clear H
     have bA : w8.cell? ⟨ac, 0, none⟩ = some (.int .i64 ae) := bq_ aa 0
     have bB : w8.cell? ⟨ac, 1, none⟩ = some (.int .i64 af) := bq_ aa 1
     have bC : w8.cell? ⟨ac, 2, none⟩ = some (.int .i64 ag) := bq_ aa 2
     have bD : w8.cell? ⟨ac, 3, none⟩ = some (.slice ap ab.length ao) := bq_ aa 3
     have bE := blk_frozen aa.out 0
     have bF := blk_frozen aa.out 1
     have bG := blk_frozen aa.out 2
     have bH := blk_frozen aa.out 3
     have aW : 0 ≤ (0 : Int) := (by omega)
     have aX : 0 < (ab.length : Int) := of_decide_eq_true (by assumption)
     obtain ⟨co, ck, cl, bv, au, aM, aN⟩ := at_L3 aG.out 0 aW aX
     cases bv
     have qi770 : (0 < ab.length) = True := eq_true (by omega)
     (try rw [show ((0 : Int)).toNat = 0 from rfl] at au)
     (try rw [Addr.add_zero'] at au)
     replace au := (HB.out.cell (World.block_lt_of_cell? w _ au)).trans au
     have bI := aj aN
     have bJ := aj aM
     clear aN aM
     replace aW := eq_true aW
     replace aX := eq_true aX
     go_wp2
     go_meet
     case rel => exact ⟨_, (decide (a1 ≥ ((rd_L3 ab 0).length : Int))), (by first | rfl | simp), H', ⟨by first | omega | exact Nat.le_refl _⟩, ⟨by exact aa.out⟩, ⟨HB.out⟩⟩
    ·rw [if_neg c10] at H
     exact absurd H (by simp)
  case rest =>
   clear bi
   obtain ⟨kq, aH, rfl, HA, bs, aa, HB⟩ := hcut
   cases kq with
   | zero => exact absurd HA.out (by simp [attestorref07_Path.j0])
   | succ kj4 =>
    have H := HA.out
    clear HA
    simp only [attestorref07_Path.j0] at H
    by_cases ba : aH = true
    ·subst ba
     have H1 : (some (([] : List (S36)), 2)) = some (r1, r2) := by rw [if_pos rfl] at H; exact H
     clear H
     have H := H1
     clear H1
     simp only [Option.some.injEq, Prod.mk.injEq] at H
     obtain ⟨rfl, rfl⟩ := H
     go_wp2
     go_ret2
     exact ⟨_, by first | rfl | (simp [errW_none, errW_some] <;> rfl) | (simp [*, errW_none, errW_some] <;> rfl), by first | exact Kd.R_nil _ _ _ _ _ | exact Kd.N_nil _ _ _ _ _ | exact Kd.V_nil _ _ _ _ _ | exact Kd.Q_nil _ _ _ _ _ | exact Kd.S_nil _ _ _ _ _, HB.out⟩
    ·replace ba := Bool.eq_false_iff.mpr ba
     subst ba
     have H1 : (attestorref07_Path.l0 kj4 a1 ([] : List (S36)) 0 ae af ag ab) = some (r1, r2) := by rw [if_neg (show ¬ (false = true) by decide)] at H; exact H
     clear H
     have H := H1
     clear H1
     have H' := aj H
     clear H
     go_wp2
     go_loopg [1, 6, 7] kj4 (fun kq v1 v6 v7 w' => ∃ (aD : Int) (aE : List (S36)) (ad : Int), v1 = .int .i64 aD ∧ v7 = .int .i64 ad ∧ Aside0 (attestorref07_Path.l0 kq aD aE ad ae af ag ab = some (r1, r2)) ∧ Aside0 (kq ≤ kj4) ∧ Aside0 (Kd.R k36 36 w' w.heap.size (fun _ => True) v6 aE) ∧ Aside0 (w'.heap[ac]? = some (.cells #[.int .i64 ae, .int .i64 af, .int .i64 ag, (.slice ap ab.length ao)] 26 (0, 0))) ∧ Aside0 (Below w.heap.size w w'))
     case atStart => exact ⟨(a1), (([] : List (S36))), (0), (by first | rfl | simp), (by first | rfl | simp), H', ⟨Nat.le_refl _⟩, ⟨by first | exact Kd.R_nil _ _ _ _ _ | exact Kd.N_nil _ _ _ _ _ | exact Kd.V_nil _ _ _ _ _ | exact Kd.Q_nil _ _ _ _ _ | exact Kd.S_nil _ _ _ _ _⟩, ⟨by exact aa.out⟩, ⟨HB.out⟩⟩
     case round =>
      clear H'
      obtain ⟨aD, aE, ad, rfl, rfl, HA, bu, ay, aa, HB⟩ := hrel
      cases gk with
      | zero => exact absurd HA.out (by simp [attestorref07_Path.l0])
      | succ k2 =>
       have H := HA.out
       clear HA
       simp only [attestorref07_Path.l0] at H
       by_cases aQ : (wrap64 (ad + 1)) < (ab.length : Int)
       ·rw [if_pos aQ] at H
        have c13b0 : decide ((wrap64 (ad + 1)) < (ab.length : Int)) = true := decide_eq_true aQ
        clear aQ
        by_cases bb : 0 ≤ ad
        ·rw [if_pos bb] at H
         have c14b0 : decide (0 ≤ ad) = true := decide_eq_true bb
         clear bb
         by_cases bc : ad < (ab.length : Int)
         ·rw [if_pos bc] at H
          have c15b0 : decide (ad < (ab.length : Int)) = true := decide_eq_true bc
          clear bc
          replace H := Option.bind_eq_some_iff.mp H
          obtain ⟨ah, bj, H⟩ := H
          have cm := aj bj
          clear bj
          by_cases bd : 0 ≤ ah
          ·rw [if_pos bd] at H
           have c17b0 : decide (0 ≤ ah) = true := decide_eq_true bd
           clear bd
           by_cases be : ah < ((rd_L3 ab ad).length : Int)
           ·rw [if_pos be] at H
            have c18b0 : decide (ah < ((rd_L3 ab ad).length : Int)) = true := decide_eq_true be
            clear be
            by_cases bf : aE.length < 8796093022208
            ·rw [if_pos bf] at H
             have bn := aj bf
             clear bf
             obtain ⟨bw, aI⟩ : ∃ y_ : List (S36), y_ = (aE ++ [(⟨(rd_T36 (rd_L3 ab ad) ah).f0, (rd_T36 (rd_L3 ab ad) ah).f1⟩ : S36)]) := ⟨_, rfl⟩
             (first | rw [← aI] at H | simp only [← aI] at H)
             have bo := aj aI
             clear aI
             have H' := aj H
             clear H
             have bK : wr.cell? ⟨ac, 0, none⟩ = some (.int .i64 ae) := bq_ aa 0
             have bL : wr.cell? ⟨ac, 1, none⟩ = some (.int .i64 af) := bq_ aa 1
             have bM : wr.cell? ⟨ac, 2, none⟩ = some (.int .i64 ag) := bq_ aa 2
             have bN : wr.cell? ⟨ac, 3, none⟩ = some (.slice ap ab.length ao) := bq_ aa 3
             have bO := blk_frozen aa.out 0
             have bP := blk_frozen aa.out 1
             have bQ := blk_frozen aa.out 2
             have bR := blk_frozen aa.out 3
             try go_wp2
             have aq := aj (Kd.R_drew ay.out)
             have ar := aj (blk_drew aa.out)
             have bk := aj (below_drew1 HB.out)
             clear ay
             clear aa
             clear HB
             have ay := aq
             have aa := ar
             have HB := bk
             have aY : 0 ≤ (ad : Int) := of_decide_eq_true (by assumption)
             have aZ : ad < (ab.length : Int) := of_decide_eq_true (by assumption)
             obtain ⟨bg, cn, bl, bx, av, aR, aT⟩ := at_L3 aG.out ad aY aZ
             have ai := av
             cases bx
             replace av := (HB.out.cell (World.block_lt_of_cell? w _ av)).trans av
             have aU := aj aT
             have bS := aj aR
             clear aT aR
             replace aY := eq_true aY
             replace aZ := eq_true aZ
             have a5 : 0 ≤ (ah : Int) := of_decide_eq_true (by assumption)
             have a6 : ah < ((rd_L3 ab ad).length : Int) := of_decide_eq_true (by assumption)
             obtain ⟨aJ, bz, aw, ax⟩ := at_T36 aU.out ah a5 a6
             have ak := ax
             have al := aw
             cases bz
             replace aw := (HB.out.cell (World.block_lt_of_cell? w _ aw)).trans aw
             replace ax := (HB.out.cell (World.block_lt_of_cell? w _ ax)).trans ax
             replace a5 := eq_true a5
             replace a6 := eq_true a6
             refine start_ (n := 13) (S := fun w' => w'.cell? ⟨ac, 0, none⟩ = some (.int .i64 ae) ∧ w'.cell? ⟨ac, 1, none⟩ = some (.int .i64 af) ∧ w'.cell? ⟨ac, 2, none⟩ = some (.int .i64 ag) ∧ w'.cell? ⟨ac, 3, none⟩ = some (.slice (some bg) ab.length ao) ∧ w'.cell? (bg.add (ad).toNat) = some (.slice (some aJ) (rd_L3 ab ad).length bl) ∧ w'.cell? (aJ.add ((ah).toNat * 2)) = some (.int .u64 ((rd_T36 (rd_L3 ab ad) ah).f0)) ∧ w'.cell? ⟨(aJ.add ((ah).toNat * 2)).block, (aJ.add ((ah).toNat * 2)).off + 1, none⟩ = some (.int .u64 ((rd_T36 (rd_L3 ab ad) ah).f1))) (ds := []) z31_0_ (by kernel_rfl) rfl rfl ⟨bq_ aa 0, bq_ aa 1, bq_ aa 2, bq_ aa 3, ((HB.out.cell (World.block_lt_of_cell? w _ ai)).trans ai), ((HB.out.cell (World.block_lt_of_cell? w _ al)).trans al), ((HB.out.cell (World.block_lt_of_cell? w _ ak)).trans ak)⟩ (fun hL => ?_); refine with_tabW attestorref07_Path.tab9 attestorref07_Path.bits9 (fun T_ W_ => ?_)
             generalize wr.drew = cq at ay aa HB aU av aw ax hL ⊢
             refine pz_ 0 30 z31_1_ ?_
             refine pz_ 1 31 z31_2_ ?_
             refine pz_ 3 33 z31_3_ ?_
             refine pz_ 6 36 z31_4_ ?_
             refine tz_ 2 32 z31_5_ ?_
             refine pz_ 4 34 z31_6_ ?_
             refine tz_ 5 35 z31_7_ ?_
             refine one_ (i := 7) (N := some 37) z31_8_ rfl rfl (on_ T_) (by decide) (fun K hK => ?_)
             refine goes_ Tryd.func52 (by kernel_rfl) rfl #[.int .i64 aD] (by rfl) rfl rfl (by (try simp only [List.map_toArray, List.map_cons, List.map_nil]); first | done | rfl | (go_simp; done)) ?_
             with_reducible refine (attestorref07_other.calls aD ah _ cm.out).mono ?_
             rintro e w' ⟨rfl, ⟨nd, rfl⟩⟩
             refine ⟨_, rfl, ?_⟩
             refine hK.out _ _ ⟨bq_ aa 0, bq_ aa 1, bq_ aa 2, bq_ aa 3, ((HB.out.cell (World.block_lt_of_cell? w _ ai)).trans ai), ((HB.out.cell (World.block_lt_of_cell? w _ al)).trans al), ((HB.out.cell (World.block_lt_of_cell? w _ ak)).trans ak)⟩ (fun hL => ?_)
             clear hK K
             refine norm_ (a' := ?_) ?_ ?_
             rotate_left
             ·show Act.put _ (some 37) _ = _
              simp only [Act.put, sa_, sb_, sc_, i64_w, i32_w]
              rfl
             refine pz_ 8 38 z31_9_ ?_
             refine tz_ 9 39 z31_10_ ?_
             refine one_ (i := 10) (N := some 40) z31_11_ rfl rfl (on_ T_) (by decide) (fun K hK => ?_)
             refine value_ (w1 := ?_) (v := ?_) (by rfl) rfl ?_ ?_
             rotate_left 2
             ·go_simp
              constructor
              ·rfl
              ·rfl
             refine hK.out _ _ ⟨(blk_cell (blk_alloc aa.out _) 0).trans rfl, (blk_cell (blk_alloc aa.out _) 1).trans rfl, (blk_cell (blk_alloc aa.out _) 2).trans rfl, (blk_cell (blk_alloc aa.out _) 3).trans rfl, (World.cell?_alloc_lt _ _ _ (World.block_lt_of_cell? _ _ (((HB.out.cell (World.block_lt_of_cell? w _ ai)).trans ai)))).trans (((HB.out.cell (World.block_lt_of_cell? w _ ai)).trans ai)), (World.cell?_alloc_lt _ _ _ (World.block_lt_of_cell? _ _ (((HB.out.cell (World.block_lt_of_cell? w _ al)).trans al)))).trans (((HB.out.cell (World.block_lt_of_cell? w _ al)).trans al)), (World.cell?_alloc_lt _ _ _ (World.block_lt_of_cell? _ _ (((HB.out.cell (World.block_lt_of_cell? w _ ak)).trans ak)))).trans (((HB.out.cell (World.block_lt_of_cell? w _ ak)).trans ak))⟩ (fun hL => ?_)
             clear hK K
             refine norm_ (a' := ?_) ?_ ?_
             rotate_left
             ·show Act.put _ (some 40) _ = _
              simp only [Act.put, sa_, sb_, sc_, i64_w, i32_w]
              rfl
             refine one_ (i := 11) (N := some 41) z31_12_ rfl rfl (on_ T_) (by decide) (fun K hK => ?_)
             refine Kd.R_append_step k36 (w0 := w) w.heap.size (by rfl) (.tmp 30) (.tmp 40) 22 36 (.agg #[(.int .u64 0), (.int .u64 0)]) 16 rfl Tryd.underlying22 info36 rfl (by decide) (by omega) u6 aE (⟨(rd_T36 (rd_L3 ab ad) ah).f0, (rd_T36 (rd_L3 ab ad) ah).f1⟩ : S36) [.int .u64 ((rd_T36 (rd_L3 ab ad) ah).f0), .int .u64 ((rd_T36 (rd_L3 ab ad) ah).f1)] (fun _ => True) (fun _ => False) rfl rfl ?aP (fun _ hk => hk.elim) ?aF ?aO ?aB ?aS ?aL ?_
             (case aP => exact k36_mkM _ _ _ (⟨(rd_T36 (rd_L3 ab ad) ah).f0, (rd_T36 (rd_L3 ab ad) ah).f1⟩ : S36))
             (case aB => exact (by first | exact HB.out | exact below_drew1 HB.out | exact pw_below_drewN HB.out _))
             (case aF => exact (fun _ _ => trivial))
             (case aO => exact (ay.out))
             (case aS => exact (below_size (by first | exact HB.out | exact below_drew1 HB.out | exact pw_below_drewN HB.out _)))
             (case aL => have := bn.out; omega)
             intro cp cr ho hb hg hat
             rw [← bo.out] at ho
             have aq := aj (blk_grown (by exact aa.out) hg (Kd.R_ne ay.out aa.out (by decide)))
             have ar := aj (hb)
             have bk := aj (ho)
             clear aa
             clear HB
             clear ay
             have aa := aq
             have HB := ar
             have bp := bk
             clear ho hb hg hat
             refine hK.out _ _ ⟨bq_ aa 0, bq_ aa 1, bq_ aa 2, bq_ aa 3, ((HB.out.cell (World.block_lt_of_cell? w _ ai)).trans ai), ((HB.out.cell (World.block_lt_of_cell? w _ al)).trans al), ((HB.out.cell (World.block_lt_of_cell? w _ ak)).trans ak)⟩ (fun hL => ?_)
             clear hK K
             refine norm_ (a' := ?_) ?_ ?_
             rotate_left
             ·show Act.put _ (some 41) _ = _
              simp only [Act.put, sa_, sb_, sc_, i64_w, i32_w]
              rfl
             refine pz_ 12 6 z31_13_ ?_
             refine done_ (done_of T_.out (by kernel_rfl)) ?_
             try go_wp2
             go_roundg k2
             case measure => have := bs.out; have := bu.out; omega
             case rel => exact ⟨(wrap64 (Int.tdiv aD 2)), (bw), (wrap64 (ad + 1)), (by first | rfl | simp), (by first | rfl | simp), H', ⟨by have := bs.out; have := bu.out; omega⟩, ⟨by (with_reducible repeat (first | apply Kd.R_alloc | apply Kd.R_drewN | apply Kd.R_drew)); exact bp.out⟩, ⟨by exact aa.out⟩, ⟨HB.out⟩⟩
            ·rw [if_neg bf] at H
             exact absurd H (by simp)
           ·rw [if_neg be] at H
            exact absurd H (by simp)
          ·rw [if_neg bd] at H
           exact absurd H (by simp)
         ·rw [if_neg bc] at H
          exact absurd H (by simp)
        ·rw [if_neg bb] at H
         exact absurd H (by simp)
       ·rw [if_neg aQ] at H
        have c13b0 : decide ((wrap64 (ad + 1)) < (ab.length : Int)) = false := decide_eq_false aQ
        clear aQ
        simp only [Option.some.injEq, Prod.mk.injEq] at H
        obtain ⟨rfl, rfl⟩ := H
        have bT : wr.cell? ⟨ac, 0, none⟩ = some (.int .i64 ae) := bq_ aa 0
        have bU : wr.cell? ⟨ac, 1, none⟩ = some (.int .i64 af) := bq_ aa 1
        have bV : wr.cell? ⟨ac, 2, none⟩ = some (.int .i64 ag) := bq_ aa 2
        have bW : wr.cell? ⟨ac, 3, none⟩ = some (.slice ap ab.length ao) := bq_ aa 3
        have bX := blk_frozen aa.out 0
        have bY := blk_frozen aa.out 1
        have bZ := blk_frozen aa.out 2
        have b0 := blk_frozen aa.out 3
        go_wp2
        go_ret2
        exact ⟨_, by first | rfl | (simp [errW_none, errW_some] <;> rfl) | (simp [*, errW_none, errW_some] <;> rfl), by (with_reducible repeat (first | apply Kd.R_alloc | apply Kd.R_drewN | apply Kd.R_drew)); exact ay.out, HB.out⟩
 ·replace c4 := Bool.eq_false_iff.mpr c4
  subst c4
  have H1 : (some (([] : List (S36)), 1)) = some (r1, r2) := by rw [if_neg (show ¬ (false = true) by decide)] at H; exact H
  clear H
  have H := H1
  clear H1
  simp only [Option.some.injEq, Prod.mk.injEq] at H
  obtain ⟨rfl, rfl⟩ := H
  go_enter Tryd.func31, Tryd.ntmps31
  go_wp2_with (first | ((with_reducible refine gate_dst (N := 2) rfl ?_); (try (refine gate_guard (by rfl) ?_; dsimp only)); refine box_event ?hg (N := 2) ?hd (cs := #[.int .i64 ae, .int .i64 af, .int .i64 ag, .slice ap ab.length ao]) (t := 26) ?hr ?_; (case hd => rfl); (case hg => rfl); (case hr => first | (go_simp; done) | (go_simp; rfl)); intro ac hg bh hbox hb; have aq := aj (below_step HB.out hb); have ar := aj (hbox); have aV := aj ((by rw [hg]; exact (below_size HB.out) : w.heap.size ≤ ac)); clear HB; have HB := aq; have aa := ar; have bm := aV; clear aq ar aV; clear hb hbox hg; have b1 : bh.cell? ⟨ac, 0, none⟩ = some (.int .i64 ae) := bq_ aa 0; have b2 : bh.cell? ⟨ac, 1, none⟩ = some (.int .i64 af) := bq_ aa 1; have b3 : bh.cell? ⟨ac, 2, none⟩ = some (.int .i64 ag) := bq_ aa 2; have b4 : bh.cell? ⟨ac, 3, none⟩ = some (.slice ap ab.length ao) := bq_ aa 3; have b5 := blk_frozen aa.out 0; have b6 := blk_frozen aa.out 1; have b7 := blk_frozen aa.out 2; have b8 := blk_frozen aa.out 3) | ((with_reducible refine gate_callee (f := 17) rfl ?_); refine goesL_ (some 9) rfl rfl Tryd.func17 (by kernel_rfl) rfl #[.agg #[.int .i64 ae, .int .i64 af, .int .i64 ag, .slice ap ab.length ao]] rfl (by (try simp only [List.map_toArray, List.map_cons, List.map_nil]); first | done | rfl | (go_simp; done)) ?_; (with_reducible refine (attestorref07_Valid.calls k ae af ag _ _ ab false _ ?side1 ?side2 A3.out).mono ?_); (case side1 => exact (Kd.C_below aG.out HB.out)); (case side2 => exact a9.out); rintro e ct ⟨rfl, hb⟩; refine ⟨_, rfl, ?_⟩; have aq := aj (blk_below aa.out hb); have ar := aj (below_step HB.out hb); clear aa; clear HB; have aa := aq; have HB := ar; clear aq ar; (try clear hb); (try clear hb2); (try clear hk); (try clear hi)))
  go_ret2
  exact ⟨_, by first | rfl | (simp [errW_none, errW_some] <;> rfl) | (simp [*, errW_none, errW_some] <;> rfl), by first | exact Kd.R_nil _ _ _ _ _ | exact Kd.N_nil _ _ _ _ _ | exact Kd.V_nil _ _ _ _ _ | exact Kd.Q_nil _ _ _ _ _ | exact Kd.S_nil _ _ _ _ _, HB.out⟩

end Go.Proofs.YtpnpmeogffodgaaDoor.Q
end
section
namespace Go.Proofs.YtpnpmeogffodgaaDoor.Q
open Go.RowKit Go.Proofs.YtpnpmeogffodgaaDoorW.PrintWords Go.Proofs.YtpnpmeogffodgaaDoorW.PrintLast Go.Proofs.YtpnpmeogffodgaaDoorW.PrintMore
attribute [local go_sem] max2_int min2_int max_two min_two max_three min_three max_four min_four run_store_fnV run_store_fnc run_store_nfn   -- for this text's walks alone
set_option linter.unusedVariables false
set_option linter.unusedSimpArgs false

abbrev z33_0_ := zb 26 0
abbrev z33_1_ := zb 26 1
abbrev z33_2_ := zb 26 3
abbrev z33_3_ := zb 26 7
abbrev z33_4_ := zb 26 23
abbrev z33_5_ := zb 26 55
abbrev z33_6_ := zb 26 119
abbrev z33_7_ := zb 26 247
abbrev z33_8_ := zb 26 759
abbrev z33_9_ := zb 26 1783
abbrev z33_10_ := zb 26 9975
abbrev z33_11_ := zb 26 26359
abbrev z33_12_ := zb 26 59127
abbrev z33_13_ := zb 26 124663
abbrev z33_14_ := zb 26 386807
abbrev z33_15_ := zb 26 911095
abbrev z33_16_ := zb 26 1959671
abbrev z33_17_ := zb 26 1959679
abbrev z33_18_ := zb 26 1959935
abbrev z33_19_ := zb 26 1961983
abbrev z33_20_ := zb 26 1966079
abbrev z33_21_ := zb 26 2097151
abbrev z33_22_ := zb 26 4194303
abbrev z33_23_ := zb 26 8388607
abbrev z33_24_ := zb 26 16777215
abbrev z33_25_ := zb 26 33554431
abbrev z33_26_ := zb 26 67108863
/-! ### attestorref07_Replace: function 33 -/
mutual
def attestorref07_Replace.j0 : Nat → Int → Bool → Int → Int → Int → List (List (S36)) → Int → Int → Option (Int × Int × Int × (List (List (S36))) × Int)
  | 0, _, _, _, _, _, _, _, _ => none
  | k + 1, x1, fE, bl, bm, bn, be, bo, bp => if fE = true then (some (0, 0, 0, ([] : List (List (S36))), 2)) else (attestorref07_Replace.l0 k x1 ([] : List (List (S36))) 0 bl bm bn be bo bp)
def attestorref07_Replace.l0 : Nat → Int → List (List (S36)) → Int → Int → Int → Int → List (List (S36)) → Int → Int → Option (Int × Int × Int × (List (List (S36))) × Int)
  | 0, _, _, _, _, _, _, _, _, _ => none
  | k + 1, x1, x8, x9, bl, bm, bn, be, bo, bp => if x9 < (be.length : Int) then (if 0 ≤ x9 then (if ([] : List (S36)).length + (rd_L3 be x9).length < 8796093022208 then ((some (([] : List (S36)) ++ (rd_L3 be x9) : List (S36))).bind fun ar => (if x9 = 0 then (if 0 ≤ x1 then (if x1 < (ar.length : Int) then (if x8.length < 5864062014805 then (attestorref07_Replace.l0 k x1 (x8 ++ [(ar.set (x1 : Int).toNat (⟨bo, bp⟩ : S36))]) (wrap64 (x9 + 1)) bl bm bn be bo bp) else (none)) else (none)) else (none)) else (if 0 ≤ (wrap64 (x9 - 1)) then (if (wrap64 (x9 - 1)) < (x8.length : Int) then (if 0 ≤ (wrap64 (2 * (wrap64 (Int.tdiv x1 2)))) then (if (wrap64 (2 * (wrap64 (Int.tdiv x1 2)))) < ((rd_L3 x8 (wrap64 (x9 - 1))).length : Int) then (if 0 ≤ (wrap64 ((wrap64 (2 * (wrap64 (Int.tdiv x1 2)))) + 1)) then (if (wrap64 ((wrap64 (2 * (wrap64 (Int.tdiv x1 2)))) + 1)) < ((rd_L3 x8 (wrap64 (x9 - 1))).length : Int) then ((attestorref06_Node.f k bl ((rd_T36 (rd_L3 x8 (wrap64 (x9 - 1))) (wrap64 (2 * (wrap64 (Int.tdiv x1 2))))).f0) ((rd_T36 (rd_L3 x8 (wrap64 (x9 - 1))) (wrap64 (2 * (wrap64 (Int.tdiv x1 2))))).f1) ((rd_T36 (rd_L3 x8 (wrap64 (x9 - 1))) (wrap64 ((wrap64 (2 * (wrap64 (Int.tdiv x1 2)))) + 1))).f0) ((rd_T36 (rd_L3 x8 (wrap64 (x9 - 1))) (wrap64 ((wrap64 (2 * (wrap64 (Int.tdiv x1 2)))) + 1))).f1)).bind fun a9 => (if 0 ≤ (wrap64 (Int.tdiv x1 2)) then (if (wrap64 (Int.tdiv x1 2)) < (ar.length : Int) then (if x8.length < 5864062014805 then (attestorref07_Replace.l0 k (wrap64 (Int.tdiv x1 2)) (x8 ++ [(ar.set ((wrap64 (Int.tdiv x1 2)) : Int).toNat (⟨a9.1, a9.2⟩ : S36))]) (wrap64 (x9 + 1)) bl bm bn be bo bp) else (none)) else (none)) else (none))) else (none)) else (none)) else (none)) else (none)) else (none)) else (none)))) else (none)) else (none)) else (some (bl, bm, bn, x8, 0))
end
def attestorref07_Replace.f (k : Nat) (ad : Int) (ah : Int) (al : Int) (ab : List (List (S36))) (a1 : Int) (aH : Int) (aI : Int) : Option (Int × Int × Int × (List (List (S36))) × Int) := (attestorref07_Valid.f k ad ah al ab).bind fun b3 => (if b3 = true then (if a1 < 0 then (attestorref07_Replace.j0 k a1 true ad ah al ab aH aI) else (if 0 < (ab.length : Int) then (if a1 ≥ ((rd_L3 ab 0).length : Int) then (attestorref07_Replace.j0 k a1 true ad ah al ab aH aI) else ((attestorref07_Proper.f ad aH aI).bind fun bz => (attestorref07_Replace.j0 k a1 (!bz) ad ah al ab aH aI))) else (none))) else (some (0, 0, 0, ([] : List (List (S36))), 1)))
theorem attestorref07_Replace.mono_l : ∀ k, (∀ y0 y1 y2 y3 y4 y5 y6 y7, LeO (attestorref07_Replace.j0 k y0 y1 y2 y3 y4 y5 y6 y7) (attestorref07_Replace.j0 (k + 1) y0 y1 y2 y3 y4 y5 y6 y7)) ∧ (∀ y0 y1 y2 y3 y4 y5 y6 y7 y8, LeO (attestorref07_Replace.l0 k y0 y1 y2 y3 y4 y5 y6 y7 y8) (attestorref07_Replace.l0 (k + 1) y0 y1 y2 y3 y4 y5 y6 y7 y8))
  | 0 => ⟨fun _ _ _ _ _ _ _ _ r h => by simp [attestorref07_Replace.j0] at h, fun _ _ _ _ _ _ _ _ _ r h => by simp [attestorref07_Replace.l0] at h⟩
  | k + 1 => by
    obtain ⟨ih0, ih1⟩ := attestorref07_Replace.mono_l k
    refine ⟨?_, ?_⟩
    · intro y0 y1 y2 y3 y4 y5 y6 y7
      unfold attestorref07_Replace.j0
      repeat' first
      | (with_reducible exact ih0 _ _ _ _ _ _ _ _)
      | (with_reducible exact ih1 _ _ _ _ _ _ _ _ _)
      | (with_reducible exact attestorref06_Node.mono _ _ _ _ _ _)
      | (with_reducible exact attestorref07_Valid.mono _ _ _ _ _)
      | (with_reducible exact LeO.refl _)
      | (with_reducible exact LeO.none _)
      | (with_reducible refine LeO.ite ?_ ?_)
      | (with_reducible refine LeO.bind ?_ (fun _ => ?_))
      | exact ih0 _ _ _ _ _ _ _ _
      | exact ih1 _ _ _ _ _ _ _ _ _
      | exact attestorref06_Node.mono _ _ _ _ _ _
      | exact attestorref07_Valid.mono _ _ _ _ _
      | exact LeO.none _
      | refine LeO.ite ?_ ?_
      | refine LeO.bind ?_ (fun _ => ?_)
    · intro y0 y1 y2 y3 y4 y5 y6 y7 y8
      unfold attestorref07_Replace.l0
      repeat' first
      | (with_reducible exact ih0 _ _ _ _ _ _ _ _)
      | (with_reducible exact ih1 _ _ _ _ _ _ _ _ _)
      | (with_reducible exact attestorref06_Node.mono _ _ _ _ _ _)
      | (with_reducible exact attestorref07_Valid.mono _ _ _ _ _)
      | (with_reducible exact LeO.refl _)
      | (with_reducible exact LeO.none _)
      | (with_reducible refine LeO.ite ?_ ?_)
      | (with_reducible refine LeO.bind ?_ (fun _ => ?_))
      | exact ih0 _ _ _ _ _ _ _ _
      | exact ih1 _ _ _ _ _ _ _ _ _
      | exact attestorref06_Node.mono _ _ _ _ _ _
      | exact attestorref07_Valid.mono _ _ _ _ _
      | exact LeO.none _
      | refine LeO.ite ?_ ?_
      | refine LeO.bind ?_ (fun _ => ?_)
theorem attestorref07_Replace.mono : ∀ a0 a1 a2 a3 a4 a5 a6 k, LeO (attestorref07_Replace.f k a0 a1 a2 a3 a4 a5 a6) (attestorref07_Replace.f (k + 1) a0 a1 a2 a3 a4 a5 a6) := by
  intro a0 a1 a2 a3 a4 a5 a6 k
  obtain ⟨ih0, ih1⟩ := attestorref07_Replace.mono_l k
  unfold attestorref07_Replace.f
  repeat' first
      | (with_reducible exact ih0 _ _ _ _ _ _ _ _)
      | (with_reducible exact ih1 _ _ _ _ _ _ _ _ _)
      | (with_reducible exact attestorref06_Node.mono _ _ _ _ _ _)
      | (with_reducible exact attestorref07_Valid.mono _ _ _ _ _)
      | (with_reducible exact LeO.refl _)
      | (with_reducible exact LeO.none _)
      | (with_reducible refine LeO.ite ?_ ?_)
      | (with_reducible refine LeO.bind ?_ (fun _ => ?_))
      | exact ih0 _ _ _ _ _ _ _ _
      | exact ih1 _ _ _ _ _ _ _ _ _
      | exact attestorref06_Node.mono _ _ _ _ _ _
      | exact attestorref07_Valid.mono _ _ _ _ _
      | exact LeO.none _
      | refine LeO.ite ?_ ?_
      | refine LeO.bind ?_ (fun _ => ?_)
def attestorref07_Replace.T14 : Bool × List (List Nat × List Nat) := (true, [([], []), ([], []), ([], []), ([2], [2]), ([], []), ([], []), ([5], [5]), ([4, 6], [4, 6]), ([7], [7]), ([], []), ([9], [9]), ([8, 10], [8, 10]), ([11], [11]), ([], []), ([], []), ([14], [14]), ([13, 15], [13, 15]), ([16], [16]), ([], []), ([18], [18]), ([19], [19]), ([17, 20], [17, 20]), ([21], [21]), ([3, 12, 22], [3, 12, 22]), ([0, 1, 0, 1, 2, 3, 4, 5, 6, 7, 8, 9, 10, 11, 12, 13, 14, 15, 16, 17, 18, 19, 20, 21, 22, 23], [0, 1]), ([24, 23, 23, 0, 1, 2, 3, 4, 5, 6, 7, 8, 9, 10, 11, 12, 13, 14, 15, 16, 17, 18, 19, 20, 21, 22, 23], [23, 24])])
def attestorref07_Replace.B14 : List Nat := [0, 0, 0, 4, 0, 0, 32, 112, 240, 0, 512, 2032, 4080, 0, 0, 16384, 57344, 122880, 0, 262144, 786432, 2088960, 4186112, 8388604, 16777215, 33554431]
theorem attestorref07_Replace.tab14 : rtab .any (opsOf Tryd.f33 14) = attestorref07_Replace.T14 := by kernel_rfl
theorem attestorref07_Replace.bits14 : waitsOk attestorref07_Replace.T14.2 attestorref07_Replace.B14 = true := by kernel_rfl
set_option maxHeartbeats 8000000 in
set_option maxRecDepth 100000 in
theorem attestorref07_Replace.calls (k : Nat) (ad : Int) (ah : Int) (al : Int) (aJ : Option Addr) (az : Nat) (ab : List (List (S36))) (a1 : Int) (aH : Int) (aI : Int) (r1 : Int) (r2 : Int) (r3 : Int) (r4 : List (List (S36))) (r5 : Int) (w : World) (db : Kd.C (Kd.slice 36 k36) w aJ ab.length ab) (dc : ab.length ≤ az) (h : attestorref07_Replace.f k ad ah al ab a1 aH aI = some (r1, r2, r3, r4, r5)) :
  Calls Tryd.prog 33 #[.agg #[.int .i64 ad, .int .i64 ah, .int .i64 al, .slice aJ ab.length az], .int .i64 a1, .agg #[.int .u64 aH, .int .u64 aI]] w fun e w' => ∃ ep : Value, e = .returned (.tuple #[.agg #[.int .i64 r1, .int .i64 r2, .int .i64 r3, ep], .int .i64 r5]) ∧ Kd.S (Kd.slice 36 k36) 22 w' w.heap.size (fun _ => True) ep r4 ∧ Below w.heap.size w w' := by
 have hu26 := Tryd.underlying26
 have hu36 := Tryd.underlying36
 have bB := aj db
 have dd := aj dc
 clear db dc
 have HB := aj (Below.refl w.heap.size w)
 have H : ((attestorref07_Valid.f k ad ah al ab).bind fun b3 => (if b3 = true then (if a1 < 0 then (attestorref07_Replace.j0 k a1 true ad ah al ab aH aI) else (if 0 < (ab.length : Int) then (if a1 ≥ ((rd_L3 ab 0).length : Int) then (attestorref07_Replace.j0 k a1 true ad ah al ab aH aI) else ((attestorref07_Proper.f ad aH aI).bind fun bz => (attestorref07_Replace.j0 k a1 (!bz) ad ah al ab aH aI))) else (none))) else (some (0, 0, 0, ([] : List (List (S36))), 1)))) = some (r1, r2, r3, r4, r5) := h
 clear h
 replace H := Option.bind_eq_some_iff.mp H
 obtain ⟨b3, eq, H⟩ := H
 have A4 := aj eq
 clear eq
 by_cases c5 : b3 = true
 ·subst c5
  have H1 : (if a1 < 0 then (attestorref07_Replace.j0 k a1 true ad ah al ab aH aI) else (if 0 < (ab.length : Int) then (if a1 ≥ ((rd_L3 ab 0).length : Int) then (attestorref07_Replace.j0 k a1 true ad ah al ab aH aI) else ((attestorref07_Proper.f ad aH aI).bind fun bz => (attestorref07_Replace.j0 k a1 (!bz) ad ah al ab aH aI))) else (none))) = some (r1, r2, r3, r4, r5) := by rw [if_pos rfl] at H; exact H
  clear H
  have H := H1
  clear H1
  have dN := aj H
  clear H
  go_enter Tryd.func33, Tryd.ntmps33
  go_upto_region 3 with (first | ((with_reducible refine gate_dst (N := 3) rfl ?_); (try (refine gate_guard (by rfl) ?_; dsimp only)); refine box_event ?hg (N := 3) ?hd (cs := #[.int .i64 ad, .int .i64 ah, .int .i64 al, .slice aJ ab.length az]) (t := 26) ?hr ?_; (case hd => rfl); (case hg => rfl); (case hr => first | (go_simp; done) | (go_simp; rfl)); intro ai hg w7 hbox hb; have aA := aj (below_step HB.out hb); have aC := aj (hbox); have aD := aj ((by rw [hg]; exact (below_size HB.out) : w.heap.size ≤ ai)); have aE := aj ((by rw [hg]; exact (below_size HB.out) : w.heap.size ≤ ai)); clear HB; have HB := aA; have aa := aC; have ed := aD; have aw := aE; clear aA aC aD aE; clear hb hbox hg) | ((with_reducible refine gate_dst (N := 5) rfl ?_); (try (refine gate_guard (by rfl) ?_; dsimp only)); refine box_event ?hg (N := 5) ?hd (cs := #[.int .u64 aH, .int .u64 aI]) (t := 36) ?hr ?_; (case hd => rfl); (case hg => rfl); (case hr => first | (go_simp; done) | (go_simp; rfl)); intro ap hg w8 hbox hb; have aA := aj (blk_below aa.out hb); have aC := aj (below_step HB.out hb); have aD := aj (hbox); have aE := aj ((by rw [hg]; exact (below_size HB.out) : w.heap.size ≤ ap)); have aM := aj ((by rw [hg]; exact (below_size HB.out) : w.heap.size ≤ ap)); have aN := aj ((by rw [hg]; exact Nat.ne_of_lt (blk_lt aa.out) : ai ≠ ap)); have ba := aj ((by rw [hg]; exact Nat.ne_of_gt (blk_lt aa.out) : ap ≠ ai)); clear aa; clear HB; have aa := aA; have HB := aC; have am := aD; have ee := aE; have aG := aM; have aW := aN; have aX := ba; clear aA aC aD aE aM aN ba; clear hb hbox hg) | ((with_reducible refine gate_dst (N := 6) rfl ?_); (try (refine gate_guard (by rfl) ?_; dsimp only)); refine box_event ?hg (N := 6) ?hd (cs := #[.int .i64 0, .int .i64 0, .int .i64 0, .slice none 0 0]) (t := 26) ?hr ?_; (case hd => rfl); (case hg => rfl); (case hr => first | (go_simp; done) | (go_simp; rfl)); intro ax hg w9 hbox hb; have aA := aj (blk_below aa.out hb); have aC := aj (blk_below am.out hb); have aD := aj (below_step HB.out hb); have aE := aj (hbox); have aM := aj ((by rw [hg]; exact (below_size HB.out) : w.heap.size ≤ ax)); have aN := aj ((by rw [hg]; exact (below_size HB.out) : w.heap.size ≤ ax)); have ba := aj ((by rw [hg]; exact Nat.ne_of_lt (blk_lt aa.out) : ai ≠ ax)); have bx := aj ((by rw [hg]; exact Nat.ne_of_gt (blk_lt aa.out) : ax ≠ ai)); have bV := aj ((by rw [hg]; exact Nat.ne_of_lt (blk_lt am.out) : ap ≠ ax)); have bW := aj ((by rw [hg]; exact Nat.ne_of_gt (blk_lt am.out) : ax ≠ ap)); clear aa; clear am; clear HB; have aa := aA; have am := aC; have HB := aD; have ag := aE; have ef := aM; have aK := aN; have aU := ba; have aQ := bx; have bb := bV; have bc := bW; clear aA aC aD aE aM aN ba bx bV bW; clear hb hbox hg; have fW := aW.out; have fX := aX.out; have fY := aU.out; have fZ := aQ.out; have b5 : w9.cell? ⟨ai, 0, none⟩ = some (.int .i64 ad) := bq_ aa 0; have b6 : w9.cell? ⟨ai, 1, none⟩ = some (.int .i64 ah) := bq_ aa 1; have b7 : w9.cell? ⟨ai, 2, none⟩ = some (.int .i64 al) := bq_ aa 2; have b8 : w9.cell? ⟨ai, 3, none⟩ = some (.slice aJ ab.length az) := bq_ aa 3; have b9 := blk_frozen aa.out 0; have ca := blk_frozen aa.out 1; have cb := blk_frozen aa.out 2; have cc := blk_frozen aa.out 3) | ((with_reducible refine gate_callee (f := 17) rfl ?_); refine goesL_ (some 12) rfl rfl Tryd.func17 (by kernel_rfl) rfl #[.agg #[.int .i64 ad, .int .i64 ah, .int .i64 al, .slice aJ ab.length az]] rfl (by (try simp only [List.map_toArray, List.map_cons, List.map_nil]); first | done | rfl | (go_simp; done)) ?_; (with_reducible refine (attestorref07_Valid.calls k ad ah al _ _ ab true _ ?side1 ?side2 A4.out).mono ?_); (case side1 => exact (Kd.C_below bB.out HB.out)); (case side2 => exact dd.out); rintro e bF ⟨rfl, hb⟩; refine ⟨_, rfl, ?_⟩; have aA := aj (blk_below aa.out hb); have aC := aj (blk_below am.out hb); have aD := aj (blk_below ag.out hb); have aE := aj (below_step HB.out hb); clear aa; clear am; clear ag; clear HB; have aa := aA; have am := aC; have ag := aD; have HB := aE; clear aA aC aD aE; (try clear hb); (try clear hb2); (try clear hk); (try clear hi)))
  (try simp only [Act.put, sa_, sb_, sc_])
  go_cut [32] (fun fF wc => ∃ (kq : Nat) (bZ : Bool), fF = .bool bZ ∧ Aside0 (attestorref07_Replace.j0 kq a1 bZ ad ah al ab aH aI = some (r1, r2, r3, r4, r5)) ∧ Aside0 (kq ≤ k) ∧ Aside0 (wc.heap[ai]? = some (.cells #[.int .i64 ad, .int .i64 ah, .int .i64 al, (.slice aJ ab.length az)] 26 (0, 0))) ∧ Aside0 (wc.heap[ap]? = some (.cells #[.int .u64 aH, .int .u64 aI] 36 (0, 0))) ∧ Aside0 (wc.heap[ax]? = some (.cells #[.int .i64 0, .int .i64 0, .int .i64 0, (.slice none 0 0)] 26 (0, 0))) ∧ Aside0 (Below w.heap.size w wc))
  case first =>
   have H := dN.out
   clear dN
   by_cases bX : a1 < 0
   ·rw [if_pos bX] at H
    have c14b0 : decide (a1 < 0) = true := decide_eq_true bX
    clear bX
    (first | rw [c14b0] | (simp only [i64_w, i32_w]; rw [c14b0]) | skip)
    have H' := aj H
    clear H
    go_wp2
    go_meet
    case rel => exact ⟨_, (true), (by first | rfl | simp), H', ⟨by first | omega | exact Nat.le_refl _⟩, ⟨by exact aa.out⟩, ⟨by exact am.out⟩, ⟨by exact ag.out⟩, ⟨HB.out⟩⟩
   ·rw [if_neg bX] at H
    have c14b0 : decide (a1 < 0) = false := decide_eq_false bX
    clear bX
    (first | rw [c14b0] | (simp only [i64_w, i32_w]; rw [c14b0]) | skip)
    by_cases cd : 0 < (ab.length : Int)
    ·rw [if_pos cd] at H
     have c15b0 : decide (0 < (ab.length : Int)) = true := decide_eq_true cd
     have c15b1 : decide (0 < ab.length) = true := decide_eq_true (by omega)
     clear cd
     by_cases bY : a1 ≥ ((rd_L3 ab 0).length : Int)
     ·rw [if_pos bY] at H
      have c16b0 : decide (((rd_L3 ab 0).length : Int) ≤ a1) = true := decide_eq_true bY
      clear bY
      have H' := aj H
      clear H
      have f2 := aW.out
      have f3 := aX.out
      have f4 := aU.out
      have f5 := aQ.out
      have ce : bF.cell? ⟨ai, 0, none⟩ = some (.int .i64 ad) := bq_ aa 0
      have cf : bF.cell? ⟨ai, 1, none⟩ = some (.int .i64 ah) := bq_ aa 1
      have cg : bF.cell? ⟨ai, 2, none⟩ = some (.int .i64 al) := bq_ aa 2
      have ci : bF.cell? ⟨ai, 3, none⟩ = some (.slice aJ ab.length az) := bq_ aa 3
      have cj := blk_frozen aa.out 0
      have ck := blk_frozen aa.out 1
      have cl := blk_frozen aa.out 2
      have cm := blk_frozen aa.out 3
      have bv : 0 ≤ (0 : Int) := (by omega)
      have bw : 0 < (ab.length : Int) := of_decide_eq_true (by assumption)
      obtain ⟨de, dO, dP, cU, aT, bq, br⟩ := at_L3 bB.out 0 bv bw
      cases cU
      have qi781 : (0 < ab.length) = True := eq_true (by omega)
      (try rw [show ((0 : Int)).toNat = 0 from rfl] at aT)
      (try rw [Addr.add_zero'] at aT)
      replace aT := (HB.out.cell (World.block_lt_of_cell? w _ aT)).trans aT
      have dC := aj br
      have dD := aj bq
      clear br bq
      replace bv := eq_true bv
      replace bw := eq_true bw
      go_wp2
      go_meet
      case rel => exact ⟨_, (true), (by first | rfl | simp), H', ⟨by first | omega | exact Nat.le_refl _⟩, ⟨by exact aa.out⟩, ⟨by exact am.out⟩, ⟨by exact ag.out⟩, ⟨HB.out⟩⟩
     ·rw [if_neg bY] at H
      have c16b0 : decide (((rd_L3 ab 0).length : Int) ≤ a1) = false := decide_eq_false bY
      clear bY
      replace H := Option.bind_eq_some_iff.mp H
      obtain ⟨bz, dQ, H⟩ := H
      have fG := aj dQ
      clear dQ
      have H' := aj H
      clear H
      have f6 := aW.out
      have f7 := aX.out
      have f8 := aU.out
      have f9 := aQ.out
      have cn : bF.cell? ⟨ai, 0, none⟩ = some (.int .i64 ad) := bq_ aa 0
      have co : bF.cell? ⟨ai, 1, none⟩ = some (.int .i64 ah) := bq_ aa 1
      have cp : bF.cell? ⟨ai, 2, none⟩ = some (.int .i64 al) := bq_ aa 2
      have cq : bF.cell? ⟨ai, 3, none⟩ = some (.slice aJ ab.length az) := bq_ aa 3
      have cr := blk_frozen aa.out 0
      have ct := blk_frozen aa.out 1
      have cu := blk_frozen aa.out 2
      have cv := blk_frozen aa.out 3
      have bv : 0 ≤ (0 : Int) := (by omega)
      have bw : 0 < (ab.length : Int) := of_decide_eq_true (by assumption)
      obtain ⟨de, dO, dP, cU, aT, bq, br⟩ := at_L3 bB.out 0 bv bw
      cases cU
      have qi781 : (0 < ab.length) = True := eq_true (by omega)
      (try rw [show ((0 : Int)).toNat = 0 from rfl] at aT)
      (try rw [Addr.add_zero'] at aT)
      replace aT := (HB.out.cell (World.block_lt_of_cell? w _ aT)).trans aT
      have dC := aj br
      have dD := aj bq
      clear br bq
      replace bv := eq_true bv
      replace bw := eq_true bw
      have ga := bb.out
      have gb := bc.out
      have cw : bF.cell? ⟨ap, 0, none⟩ = some (.int .u64 aH) := bq_ am 0
      have cx : bF.cell? ⟨ap, 1, none⟩ = some (.int .u64 aI) := bq_ am 1
      have cy := blk_frozen am.out 0
      have cz := blk_frozen am.out 1
      go_wp2_with (first | (go_at_call 49; (with_reducible refine (attestorref07_Proper.calls ad aH aI bz _ fG.out).mono ?_); rintro e gM ⟨rfl, hb⟩; have aA := aj (blk_below aa.out hb); have aC := aj (blk_below am.out hb); have aD := aj (blk_below ag.out hb); have aE := aj (below_step HB.out hb); clear aa; clear am; clear ag; clear HB; have aa := aA; have am := aC; have ag := aD; have HB := aE; clear aA aC aD aE))
      go_meet
      case rel => exact ⟨_, (!bz), (by first | rfl | simp), H', ⟨by first | omega | exact Nat.le_refl _⟩, ⟨by exact aa.out⟩, ⟨by exact am.out⟩, ⟨by exact ag.out⟩, ⟨HB.out⟩⟩
    ·rw [if_neg cd] at H
     exact absurd H (by simp)
  case rest =>
   clear dN
   obtain ⟨kq, bZ, rfl, HA, df, aa, am, ag, HB⟩ := hcut
   cases kq with
   | zero => exact absurd HA.out (by simp [attestorref07_Replace.j0])
   | succ kj5 =>
    have H := HA.out
    clear HA
    simp only [attestorref07_Replace.j0] at H
    by_cases cR : bZ = true
    ·subst cR
     have H1 : (some (0, 0, 0, ([] : List (List (S36))), 2)) = some (r1, r2, r3, r4, r5) := by rw [if_pos rfl] at H; exact H
     clear H
     have H := H1
     clear H1
     simp only [Option.some.injEq, Prod.mk.injEq] at H
     obtain ⟨rfl, rfl, rfl, rfl, rfl⟩ := H
     have ge := aQ.out
     have gf := aU.out
     have gg := bc.out
     have gh := bb.out
     have dE : wc.cell? ⟨ax, 0, none⟩ = some (.int .i64 0) := bq_ ag 0
     have dF : wc.cell? ⟨ax, 1, none⟩ = some (.int .i64 0) := bq_ ag 1
     have dG : wc.cell? ⟨ax, 2, none⟩ = some (.int .i64 0) := bq_ ag 2
     have dH : wc.cell? ⟨ax, 3, none⟩ = some (.slice none 0 0) := bq_ ag 3
     have dI := blk_frozen ag.out 0
     have dJ := blk_frozen ag.out 1
     have dK := blk_frozen ag.out 2
     have dL := blk_frozen ag.out 3
     go_wp2
     refine bodyPost_ret (results_ct rfl _ _ ax 26 #[.int .i64 0, .int .i64 0, .int .i64 0, .slice none 0 0] (0, 0) _ rfl (by refine blk_put (cs := #[.int .i64 0, .int .i64 0, .int .i64 0, .slice none 0 0]) ?_ 3 _ rfl; refine blk_put (cs := #[.int .i64 0, .int .i64 0, .int .i64 0, .slice none 0 0]) ?_ 2 _ rfl; refine blk_put (cs := #[.int .i64 0, .int .i64 0, .int .i64 0, .slice none 0 0]) ?_ 1 _ rfl; refine blk_put (cs := #[.int .i64 0, .int .i64 0, .int .i64 0, .slice none 0 0]) ?_ 0 _ rfl; exact ag.out) Tryd.underlying26 rfl (by kernel_rfl)) rfl ?_
     exact ⟨_, by first | rfl | (simp [errW_none, errW_some] <;> rfl) | (simp [*, errW_none, errW_some] <;> rfl), by first | exact Kd.S_nil _ _ _ _ _ | exact Kd.N_nil _ _ _ _ _ | exact Kd.V_nil _ _ _ _ _ | exact Kd.Q_nil _ _ _ _ _ | exact Kd.R_nil _ _ _ _ _, by repeat (first | (with_reducible first | exact HB.out | apply below_alloc | apply pw_below_drewN | apply below_drew1 | refine below_set ?_ aw.out | refine below_set ?_ aG.out | refine below_set ?_ aK.out) | exact HB.out)⟩
    ·replace cR := Bool.eq_false_iff.mpr cR
     subst cR
     have H1 : (attestorref07_Replace.l0 kj5 a1 ([] : List (List (S36))) 0 ad ah al ab aH aI) = some (r1, r2, r3, r4, r5) := by rw [if_neg (show ¬ (false = true) by decide)] at H; exact H
     clear H
     have H := H1
     clear H1
     have H' := aj H
     clear H
     go_wp2
     go_loopg [1, 8, 9] kj5 (fun kq v1 v8 v9 w' => ∃ (ak : Int) (ac : List (List (S36))) (av : Int) (ae : Int) (af : Int), v1 = .int .i64 ak ∧ v9 = .int .i64 av ∧ Aside0 (attestorref07_Replace.l0 kq ak ac av ad ah al ab ae af = some (r1, r2, r3, r4, r5)) ∧ Aside0 (kq ≤ kj5) ∧ Aside0 (Kd.S (Kd.slice 36 k36) 22 w' w.heap.size (fun k_ => k_ ≠ ap) v8 ac) ∧ Aside0 (w'.heap[ai]? = some (.cells #[.int .i64 ad, .int .i64 ah, .int .i64 al, (.slice aJ ab.length az)] 26 (0, 0))) ∧ Aside0 (w'.heap[ap]? = some (.cells #[.int .u64 ae, .int .u64 af] 36 (0, 0))) ∧ Aside0 (w'.heap[ax]? = some (.cells #[.int .i64 0, .int .i64 0, .int .i64 0, (.slice none 0 0)] 26 (0, 0))) ∧ Aside0 (Below w.heap.size w w'))
     case atStart => exact ⟨(a1), (([] : List (List (S36)))), (0), (aH), (aI), (by first | rfl | simp), (by first | rfl | simp), H', ⟨Nat.le_refl _⟩, ⟨by first | exact Kd.S_nil _ _ _ _ _ | exact Kd.N_nil _ _ _ _ _ | exact Kd.V_nil _ _ _ _ _ | exact Kd.Q_nil _ _ _ _ _ | exact Kd.R_nil _ _ _ _ _⟩, ⟨by exact aa.out⟩, ⟨by exact am.out⟩, ⟨by exact ag.out⟩, ⟨HB.out⟩⟩
     case round =>
      clear H'
      obtain ⟨ak, ac, av, ae, af, rfl, rfl, HA, dg, ay, aa, am, ag, HB⟩ := hrel
      cases gk with
      | zero => exact absurd HA.out (by simp [attestorref07_Replace.l0])
      | succ k2 =>
       have H := HA.out
       clear HA
       simp only [attestorref07_Replace.l0] at H
       by_cases cA : av < (ab.length : Int)
       ·rw [if_pos cA] at H
        have c31b0 : decide (av < (ab.length : Int)) = true := decide_eq_true cA
        clear cA
        by_cases dh : 0 ≤ av
        ·rw [if_pos dh] at H
         have c32b0 : decide (0 ≤ av) = true := decide_eq_true dh
         clear dh
         by_cases di : ([] : List (S36)).length + (rd_L3 ab av).length < 8796093022208
         ·rw [if_pos di] at H
          have dj := aj di
          clear di
          obtain ⟨ar, bI⟩ : ∃ y_ : List (S36), y_ = (([] : List (S36)) ++ (rd_L3 ab av)) := ⟨_, rfl⟩
          replace H : (if av = 0 then (if 0 ≤ ak then (if ak < (ar.length : Int) then (if ac.length < 5864062014805 then (attestorref07_Replace.l0 k2 ak (ac ++ [(ar.set (ak : Int).toNat (⟨ae, af⟩ : S36))]) (wrap64 (av + 1)) ad ah al ab ae af) else (none)) else (none)) else (none)) else (if 0 ≤ (wrap64 (av - 1)) then (if (wrap64 (av - 1)) < (ac.length : Int) then (if 0 ≤ (wrap64 (2 * (wrap64 (Int.tdiv ak 2)))) then (if (wrap64 (2 * (wrap64 (Int.tdiv ak 2)))) < ((rd_L3 ac (wrap64 (av - 1))).length : Int) then (if 0 ≤ (wrap64 ((wrap64 (2 * (wrap64 (Int.tdiv ak 2)))) + 1)) then (if (wrap64 ((wrap64 (2 * (wrap64 (Int.tdiv ak 2)))) + 1)) < ((rd_L3 ac (wrap64 (av - 1))).length : Int) then ((attestorref06_Node.f k2 ad ((rd_T36 (rd_L3 ac (wrap64 (av - 1))) (wrap64 (2 * (wrap64 (Int.tdiv ak 2))))).f0) ((rd_T36 (rd_L3 ac (wrap64 (av - 1))) (wrap64 (2 * (wrap64 (Int.tdiv ak 2))))).f1) ((rd_T36 (rd_L3 ac (wrap64 (av - 1))) (wrap64 ((wrap64 (2 * (wrap64 (Int.tdiv ak 2)))) + 1))).f0) ((rd_T36 (rd_L3 ac (wrap64 (av - 1))) (wrap64 ((wrap64 (2 * (wrap64 (Int.tdiv ak 2)))) + 1))).f1)).bind fun a9 => (if 0 ≤ (wrap64 (Int.tdiv ak 2)) then (if (wrap64 (Int.tdiv ak 2)) < (ar.length : Int) then (if ac.length < 5864062014805 then (attestorref07_Replace.l0 k2 (wrap64 (Int.tdiv ak 2)) (ac ++ [(ar.set ((wrap64 (Int.tdiv ak 2)) : Int).toNat (⟨a9.1, a9.2⟩ : S36))]) (wrap64 (av + 1)) ad ah al ab ae af) else (none)) else (none)) else (none))) else (none)) else (none)) else (none)) else (none)) else (none)) else (none))) = some (r1, r2, r3, r4, r5) := by first | (rw [bI]; with_reducible exact H) | (have bd := (Option.bind_some _ _).symm.trans H; rw [bI]; with_reducible exact bd) | (have bd := (Option.bind_some _ _).symm.trans H; with_reducible exact bd) | with_reducible exact H | (rw [bI]; exact H) | exact H
          have dk := aj bI
          clear bI
          by_cases b4 : av = 0
          ·rw [if_pos b4] at H
           have c34b0 : (av == 0) = true := beq_iff_eq.mpr b4
           have c34b1 : (av != 0) = false := bne_eq_false_iff_eq.mpr b4
           clear b4
           by_cases dl : 0 ≤ ak
           ·rw [if_pos dl] at H
            have c35b0 : decide (0 ≤ ak) = true := decide_eq_true dl
            clear dl
            by_cases dm : ak < (ar.length : Int)
            ·rw [if_pos dm] at H
             have c36b0 : decide (ak < (ar.length : Int)) = true := decide_eq_true dm
             clear dm
             obtain ⟨cJ, bJ⟩ : ∃ y_ : List (S36), y_ = (ar.set (ak : Int).toNat (⟨ae, af⟩ : S36)) := ⟨_, rfl⟩
             (first | rw [← bJ] at H | simp only [← bJ] at H)
             have eg := aj bJ
             clear bJ
             by_cases dn : ac.length < 5864062014805
             ·rw [if_pos dn] at H
              have eh := aj dn
              clear dn
              obtain ⟨dR, bK⟩ : ∃ y_ : List (List (S36)), y_ = (ac ++ [cJ]) := ⟨_, rfl⟩
              replace H : (attestorref07_Replace.l0 k2 ak dR (wrap64 (av + 1)) ad ah al ab ae af) = some (r1, r2, r3, r4, r5) := by first | (rw [bK]; with_reducible exact H) | (have bd := (Option.bind_some _ _).symm.trans H; rw [bK]; with_reducible exact bd) | (have bd := (Option.bind_some _ _).symm.trans H; with_reducible exact bd) | with_reducible exact H | (rw [bK]; exact H) | exact H
              have ei := aj bK
              clear bK
              have H' := aj H
              clear H
              have gi := aW.out
              have gj := aX.out
              have gl := aU.out
              have gm := aQ.out
              have eC : wr.cell? ⟨ai, 0, none⟩ = some (.int .i64 ad) := bq_ aa 0
              have eD : wr.cell? ⟨ai, 1, none⟩ = some (.int .i64 ah) := bq_ aa 1
              have eE : wr.cell? ⟨ai, 2, none⟩ = some (.int .i64 al) := bq_ aa 2
              have eF : wr.cell? ⟨ai, 3, none⟩ = some (.slice aJ ab.length az) := bq_ aa 3
              have eG := blk_frozen aa.out 0
              have eH := blk_frozen aa.out 1
              have eI := blk_frozen aa.out 2
              have eJ := blk_frozen aa.out 3
              have bG : 0 ≤ (av : Int) := of_decide_eq_true (by assumption)
              have bH : av < (ab.length : Int) := of_decide_eq_true (by assumption)
              obtain ⟨bj, dS, dT, cV, bf, bs, bu⟩ := at_L3 bB.out av bG bH
              cases cV
              replace bf := (HB.out.cell (World.block_lt_of_cell? w _ bf)).trans bf
              have bQ := aj bu
              have dM := aj bs
              clear bu bs
              replace bG := eq_true bG
              replace bH := eq_true bH
              go_wp2_with (first | ((with_reducible refine gate_builtin (b := .append) (xs := #[.tmp 41, .tmp 46]) rfl ?_); (try (refine gate_guard (by rfl) ?_; dsimp only)); at_builtin; refine Kd.R_append_rows k36 (w0 := w) w.heap.size rfl (.tmp 41) (.tmp 46) 22 36 (.agg #[(.int .u64 0), (.int .u64 0)]) 16 rfl Tryd.underlying22 info36 rfl (by decide) (by omega) (.slice none 0 0) ([] : List (S36)) (rd_L3 ab av) _ _ _ (fun k_ => k_ ≠ ap) (fun _ => False) rfl rfl ?aO ?aR (fun _ _ h => h) (fun _ h => h.elim) ?aF ?aB ?aS ?aL ?_; (case aR => repeat (first | exact (Kd.C_below bQ.out HB.out) | (with_reducible refine Kd.C_alloc ?_ _) | (with_reducible refine Kd.C_drewN ?_ _) | (with_reducible refine Kd.C_drew ?_))); (case aB => exact HB.out); (case aF => exact (fun k_ hk => Kd.freshB am.out k_ hk)); (case aO => exact ((Kd.R_nil _ _ _ _ (fun k_ => k_ ≠ ap)))); (case aS => exact (below_size HB.out)); (case aL => have := dj.out; omega); intro ev bL ho hb hg hat; rw [← dk.out] at ho; have aA := aj (Kd.S_after (Kd.S_apart_nil (ay.out)) hg hat); have aC := aj (blk_grown aa.out hg (by simp [Value.ownBlock])); have aD := aj (blk_grown am.out hg (by simp [Value.ownBlock])); have aE := aj (blk_grown ag.out hg (by simp [Value.ownBlock])); have aM := aj (hb); have aN := aj (ho); clear ay; clear aa; clear am; clear ag; clear HB; have ay := aA; have aa := aC; have am := aD; have ag := aE; have HB := aM; have au := aN; clear aA aC aD aE aM aN; have gn := bb.out; have gp := bc.out; have eK : bL.cell? ⟨ap, 0, none⟩ = some (.int .u64 ae) := bq_ am 0; have eL : bL.cell? ⟨ap, 1, none⟩ = some (.int .u64 af) := bq_ am 1; have eM := blk_frozen am.out 0; have eN := blk_frozen am.out 1; have dU : 0 ≤ (ak : Int) := of_decide_eq_true (by assumption); have dV : (ak : Int) < ((ar.length : Int) : Int) := of_decide_eq_true (by assumption); obtain ⟨go37, bR, dW, er, gl37, cl37, HG37⟩ := Kd.R_form au.out (by omega); (first | cases dW | (injection dW with ea_ en_ ec_; (first | subst ea_ | (injection ea_ with ea_; subst ea_)); subst ec_; clear en_)); have GB37 := aj er; have gH := aj HG37; clear er gl37 HG37; obtain ⟨ce37, hcl37, dX, cK, hfr37⟩ := Kd.R_elem au.out z36 (ak : Int) dU dV; obtain rfl := k36_openM dX; have fO : bL.cell? ⟨go37, (ak : Int).toNat * 2, none⟩ = some (.int .u64 ((rd_T36 ar ak).f0)) := cK 0 _ rfl; have fP : bL.cell? ⟨go37, (ak : Int).toNat * 2 + 1, none⟩ = some (.int .u64 ((rd_T36 ar ak).f1)) := cK 1 _ rfl; have hf37_0 : bL.frozen? ⟨go37, (ak : Int).toNat * 2, none⟩ = false := hfr37 0; have hf37_1 : bL.frozen? ⟨go37, (ak : Int).toNat * 2 + 1, none⟩ = false := hfr37 1; clear hcl37 cK hfr37 dX; replace dU := eq_true dU; replace dV := eq_true dV; have dY := aj (show Kd.R k36 36 bL w.heap.size (fun k_ => k_ ≠ ap) (.slice (some ⟨go37, 0, none⟩) ar.length bR) ar from (au.out)); obtain ⟨ce45, hcl45, dZ, b0, hfr45⟩ := Kd.R_elem dY.out z36 (ak : Int) (of_decide_eq_true (by assumption)) (by have h_ : (ak : Int) < ((ar.length : Int) : Int) := of_decide_eq_true (by assumption); first | exact h_ | (have e_ := (Kd.R_reads' au.out).1; omega) | simpa using h_); obtain rfl := k36_openM dZ; have HP45 := Kd.R_seg dY.out (ak : Int) (of_decide_eq_true (by assumption)) (by have h_ : (ak : Int) < ((ar.length : Int) : Int) := of_decide_eq_true (by assumption); first | exact h_ | (have e_ := (Kd.R_reads' au.out).1; omega) | simpa using h_) (seg := [.int .u64 ae, .int .u64 af]) (j := 0) hcl45 b0 (show 2 ≤ 2 from by decide) (x' := (⟨ae, af⟩ : S36)) (k36_mkM _ _ _ (⟨ae, af⟩ : S36) ) (fun _ hk => hk); have d0 := b0 0 _ rfl; (try simp only [show (k36).sz = 2 from rfl, Nat.mul_one, Nat.add_zero] at d0); have hf45_0 := hfr45 0; (try simp only [show (k36).sz = 2 from rfl, Nat.mul_one, Nat.add_zero] at hf45_0); have d1 := b0 1 _ rfl; (try simp only [show (k36).sz = 2 from rfl, Nat.mul_one, Nat.add_zero] at d1); have hf45_1 := hfr45 1; (try simp only [show (k36).sz = 2 from rfl, Nat.mul_one, Nat.add_zero] at hf45_1); clear hcl45 b0 hfr45 dZ) | ((with_reducible refine gate_store (t := 36) (p := 53) rfl ?_); refine store_event (t := 36) (p := 53) (v := ?vo_w46) (w1 := ((bL.setCell ⟨go37, (ak : Int).toNat * 2, none⟩ (.int .u64 ae)).setCell ⟨go37, (ak : Int).toNat * 2 + 1, none⟩ (.int .u64 af))) ?hg ?ho ?hn ?hr ?_; (case ho => rfl); (case hg => rfl); (case hn => rfl); (case hr => first | (go_simp; done) | (go_simp; rfl)); intro d2 hw; have hg : bL.grownBy d2 (some go37) := (by rw [hw]; exact HP45.2); have hp_ : Kd.R k36 36 d2 w.heap.size (fun k_ => k_ ≠ ap) (.slice (some ⟨go37, 0, none⟩) ar.length bR) cJ := (by rw [hw, eg.out]; exact HP45.1); clear HP45; have aA := aj (Kd.S_after (v := (.slice (some ⟨go37, 0, none⟩) ar.length bR)) (v1 := (.slice (some ⟨go37, 0, none⟩) ar.length bR)) (ok := (fun k_ => k_ ≠ ap)) (ay.out) hg (.inl rfl)); have aC := aj (blk_grown aa.out hg (Kd.R_ne au.out aa.out (by decide))); have aD := aj (blk_grown am.out hg (Kd.R_away au.out (fun _ hk => hk))); have aE := aj (blk_grown ag.out hg (Kd.R_ne au.out ag.out (by decide))); have aM := aj (hp_); have aN := aj ((by rw [hw]; exact below_set (below_set (HB.out) GB37.out) GB37.out : Below w.heap.size w d2)); clear ay; clear aa; clear am; clear ag; clear au; clear HB; have ay := aA; have aa := aC; have am := aD; have ag := aE; have au := aM; have HB := aN; clear aA aC aD aE aM aN; clear hg hw hp_) | ((with_reducible refine gate_builtin (b := .append) (xs := #[.tmp 81, .tmp 83]) rfl ?_); (try (refine gate_guard (by rfl) ?_; dsimp only)); at_builtin; refine Kd.S_append (Kd.slice 36 k36) (w0 := w) w.heap.size rfl (.tmp 81) (.tmp 83) 24 22 (.slice none 0 0) 24 rfl Tryd.underlying24 info22 rfl (by decide) (by omega) u8 ac cJ [.slice (some ⟨go37, 0, none⟩) ar.length bR] (fun k_ => k_ ≠ ap) (fun k_ => some k_ = (.slice (some ⟨go37, 0, none⟩) ar.length bR : Value).ownBlock) rfl rfl ?aP (fun k_ hk_ => ((Kd.R_mono (ok' := fun k_ => ((fun k_ => k_ ≠ ap)) k_ ∧ some k_ ≠ (u8 : Value).ownBlock) (Kd.R_apart' (au.out) (Kd.S_typed ay.out) (by decide)) (fun k_ hk => ⟨hk.1, hk.2⟩))).1 k_ hk_.symm) ?aF ?aO ?aB ?aS ?aL ?_; (case aP => exact Kd.M_row (Kd.R_mono (Kd.R_tight rfl (Kd.R_mono (ok' := fun k_ => ((fun k_ => k_ ≠ ap)) k_ ∧ some k_ ≠ (u8 : Value).ownBlock) (Kd.R_apart' (au.out) (Kd.S_typed ay.out) (by decide)) (fun k_ hk => ⟨hk.1, hk.2⟩))) (fun _ h_ => h_))); (case aB => exact HB.out); (case aF => exact (fun k_ hk => Kd.freshB am.out k_ hk)); (case aO => exact (Kd.S_mono ay.out (fun k_ hk => ⟨hk.1, fun e_ => hk.2 e_⟩))); (case aS => exact (below_size HB.out)); (case aL => have := eh.out; omega); intro gI gP ho hb hg hat; rw [← ei.out] at ho; have aA := aj (blk_grown aa.out hg (Kd.S_ne ay.out aa.out (by decide))); have aC := aj (blk_grown am.out hg (Kd.S_ne ay.out am.out (by decide))); have aD := aj (blk_grown ag.out hg (Kd.S_ne ay.out ag.out (by decide))); have aE := aj (hb); have aM := aj (ho); clear aa; clear am; clear ag; clear HB; clear ay; clear au; have aa := aA; have am := aC; have ag := aD; have HB := aE; have ej := aM; clear aA aC aD aE aM))
              go_roundg k2
              case measure => have := df.out; have := dg.out; omega
              case rel => exact ⟨(ak), (dR), (wrap64 (av + 1)), (ae), (af), (by first | rfl | simp), (by first | rfl | simp), H', ⟨by have := df.out; have := dg.out; omega⟩, ⟨by (with_reducible repeat (first | apply Kd.S_alloc | apply Kd.S_drewN | apply Kd.S_drew)); exact ej.out⟩, ⟨by exact aa.out⟩, ⟨by exact am.out⟩, ⟨by exact ag.out⟩, ⟨HB.out⟩⟩
             ·rw [if_neg dn] at H
              exact absurd H (by simp)
            ·rw [if_neg dm] at H
             exact absurd H (by simp)
           ·rw [if_neg dl] at H
            exact absurd H (by simp)
          ·rw [if_neg b4] at H
           have c34b0 : (av == 0) = false := beq_eq_false_iff_ne.mpr b4
           have c34b1 : (av != 0) = true := bne_iff_ne.mpr b4
           obtain ⟨ao, b1⟩ : ∃ j_ : Int, (wrap64 (av - 1)) = j_ := ⟨_, rfl⟩
           replace H : (if 0 ≤ (ao) then (if (ao) < (ac.length : Int) then (if 0 ≤ (wrap64 (2 * (wrap64 (Int.tdiv ak 2)))) then (if (wrap64 (2 * (wrap64 (Int.tdiv ak 2)))) < ((rd_L3 ac (ao)).length : Int) then (if 0 ≤ (wrap64 ((wrap64 (2 * (wrap64 (Int.tdiv ak 2)))) + 1)) then (if (wrap64 ((wrap64 (2 * (wrap64 (Int.tdiv ak 2)))) + 1)) < ((rd_L3 ac (ao)).length : Int) then ((attestorref06_Node.f k2 ad ((rd_T36 (rd_L3 ac (ao)) (wrap64 (2 * (wrap64 (Int.tdiv ak 2))))).f0) ((rd_T36 (rd_L3 ac (ao)) (wrap64 (2 * (wrap64 (Int.tdiv ak 2))))).f1) ((rd_T36 (rd_L3 ac (ao)) (wrap64 ((wrap64 (2 * (wrap64 (Int.tdiv ak 2)))) + 1))).f0) ((rd_T36 (rd_L3 ac (ao)) (wrap64 ((wrap64 (2 * (wrap64 (Int.tdiv ak 2)))) + 1))).f1)).bind fun a9 => (if 0 ≤ (wrap64 (Int.tdiv ak 2)) then (if (wrap64 (Int.tdiv ak 2)) < (ar.length : Int) then (if ac.length < 5864062014805 then (attestorref07_Replace.l0 k2 (wrap64 (Int.tdiv ak 2)) (ac ++ [(ar.set ((wrap64 (Int.tdiv ak 2)) : Int).toNat (⟨a9.1, a9.2⟩ : S36))]) (wrap64 (av + 1)) ad ah al ab ae af) else (none)) else (none)) else (none))) else (none)) else (none)) else (none)) else (none)) else (none)) else (none)) = some (r1, r2, r3, r4, r5) := by first | (rw [b1] at H; exact H) | (simp only [b1] at H ⊢; exact H)
           have hji48w : (IntKind.i64.wrap (av - 1)) = ao := (i64_w _).trans b1
           by_cases dp : 0 ≤ (ao)
           ·rw [if_pos dp] at H
            have c49b0 : decide (0 ≤ (ao)) = true := decide_eq_true dp
            clear dp
            by_cases dq : (ao) < (ac.length : Int)
            ·rw [if_pos dq] at H
             have c50b0 : decide ((ao) < (ac.length : Int)) = true := decide_eq_true dq
             clear dq
             obtain ⟨ji51, hji51⟩ : ∃ j_ : Int, (wrap64 (2 * (wrap64 (Int.tdiv ak 2)))) = j_ := ⟨_, rfl⟩
             replace H : (if 0 ≤ (ji51) then (if (ji51) < ((rd_L3 ac (ao)).length : Int) then (if 0 ≤ (wrap64 ((ji51) + 1)) then (if (wrap64 ((ji51) + 1)) < ((rd_L3 ac (ao)).length : Int) then ((attestorref06_Node.f k2 ad ((rd_T36 (rd_L3 ac (ao)) (ji51)).f0) ((rd_T36 (rd_L3 ac (ao)) (ji51)).f1) ((rd_T36 (rd_L3 ac (ao)) (wrap64 ((ji51) + 1))).f0) ((rd_T36 (rd_L3 ac (ao)) (wrap64 ((ji51) + 1))).f1)).bind fun a9 => (if 0 ≤ (wrap64 (Int.tdiv ak 2)) then (if (wrap64 (Int.tdiv ak 2)) < (ar.length : Int) then (if ac.length < 5864062014805 then (attestorref07_Replace.l0 k2 (wrap64 (Int.tdiv ak 2)) (ac ++ [(ar.set ((wrap64 (Int.tdiv ak 2)) : Int).toNat (⟨a9.1, a9.2⟩ : S36))]) (wrap64 (av + 1)) ad ah al ab ae af) else (none)) else (none)) else (none))) else (none)) else (none)) else (none)) else (none)) = some (r1, r2, r3, r4, r5) := by first | (rw [hji51] at H; exact H) | (simp only [hji51] at H ⊢; exact H)
             have hji51w : (IntKind.i64.wrap (2 * (wrap64 (Int.tdiv ak 2)))) = ji51 := (i64_w _).trans hji51
             by_cases dr : 0 ≤ (ji51)
             ·rw [if_pos dr] at H
              have c52b0 : decide (0 ≤ (ji51)) = true := decide_eq_true dr
              clear dr
              by_cases dt : (ji51) < ((rd_L3 ac (ao)).length : Int)
              ·rw [if_pos dt] at H
               have c53b0 : decide ((ji51) < ((rd_L3 ac (ao)).length : Int)) = true := decide_eq_true dt
               clear dt
               obtain ⟨aV, b2⟩ : ∃ j_ : Int, (wrap64 ((ji51) + 1)) = j_ := ⟨_, rfl⟩
               replace H : (if 0 ≤ (aV) then (if (aV) < ((rd_L3 ac (ao)).length : Int) then ((attestorref06_Node.f k2 ad ((rd_T36 (rd_L3 ac (ao)) (ji51)).f0) ((rd_T36 (rd_L3 ac (ao)) (ji51)).f1) ((rd_T36 (rd_L3 ac (ao)) (aV)).f0) ((rd_T36 (rd_L3 ac (ao)) (aV)).f1)).bind fun a9 => (if 0 ≤ (wrap64 (Int.tdiv ak 2)) then (if (wrap64 (Int.tdiv ak 2)) < (ar.length : Int) then (if ac.length < 5864062014805 then (attestorref07_Replace.l0 k2 (wrap64 (Int.tdiv ak 2)) (ac ++ [(ar.set ((wrap64 (Int.tdiv ak 2)) : Int).toNat (⟨a9.1, a9.2⟩ : S36))]) (wrap64 (av + 1)) ad ah al ab ae af) else (none)) else (none)) else (none))) else (none)) else (none)) = some (r1, r2, r3, r4, r5) := by first | (rw [b2] at H; exact H) | (simp only [b2] at H ⊢; exact H)
               have hji54w : (IntKind.i64.wrap ((ji51) + 1)) = aV := (i64_w _).trans b2
               by_cases du : 0 ≤ (aV)
               ·rw [if_pos du] at H
                have c55b0 : decide (0 ≤ (aV)) = true := decide_eq_true du
                clear du
                by_cases dv : (aV) < ((rd_L3 ac (ao)).length : Int)
                ·rw [if_pos dv] at H
                 have c56b0 : decide ((aV) < ((rd_L3 ac (ao)).length : Int)) = true := decide_eq_true dv
                 clear dv
                 replace H := Option.bind_eq_some_iff.mp H
                 obtain ⟨⟨aY, aZ⟩, d3, H⟩ := H
                 replace H : (if 0 ≤ (wrap64 (Int.tdiv ak 2)) then (if (wrap64 (Int.tdiv ak 2)) < (ar.length : Int) then (if ac.length < 5864062014805 then (attestorref07_Replace.l0 k2 (wrap64 (Int.tdiv ak 2)) (ac ++ [(ar.set ((wrap64 (Int.tdiv ak 2)) : Int).toNat (⟨aY, aZ⟩ : S36))]) (wrap64 (av + 1)) ad ah al ab ae af) else (none)) else (none)) else (none)) = some (r1, r2, r3, r4, r5) := H
                 have et := aj d3
                 clear d3
                 obtain ⟨aq, bC⟩ : ∃ j_ : Int, (wrap64 (Int.tdiv ak 2)) = j_ := ⟨_, rfl⟩
                 replace H : (if 0 ≤ (aq) then (if (aq) < (ar.length : Int) then (if ac.length < 5864062014805 then (attestorref07_Replace.l0 k2 aq (ac ++ [(ar.set ((aq) : Int).toNat (⟨aY, aZ⟩ : S36))]) (wrap64 (av + 1)) ad ah al ab ae af) else (none)) else (none)) else (none)) = some (r1, r2, r3, r4, r5) := by first | (rw [bC] at H; exact H) | (simp only [bC] at H ⊢; exact H)
                 (try rw [bC] at et)
                 have hji58w : (IntKind.i64.wrap (Int.tdiv ak 2)) = aq := (i64_w _).trans bC
                 have hji51' : wrap64 (2 * aq) = ji51 := by rw [← bC]; exact hji51
                 have hji51'w : (IntKind.i64.wrap (2 * aq)) = ji51 := (i64_w _).trans hji51'
                 by_cases dw : 0 ≤ (aq)
                 ·rw [if_pos dw] at H
                  have c59b0 : decide (0 ≤ (aq)) = true := decide_eq_true dw
                  clear dw
                  by_cases dx : (aq) < (ar.length : Int)
                  ·rw [if_pos dx] at H
                   have c60b0 : decide ((aq) < (ar.length : Int)) = true := decide_eq_true dx
                   clear dx
                   obtain ⟨cL, bM⟩ : ∃ y_ : List (S36), y_ = (ar.set ((aq) : Int).toNat (⟨aY, aZ⟩ : S36)) := ⟨_, rfl⟩
                   (first | rw [← bM] at H | simp only [← bM] at H)
                   have ek := aj bM
                   clear bM
                   by_cases dy : ac.length < 5864062014805
                   ·rw [if_pos dy] at H
                    have el := aj dy
                    clear dy
                    obtain ⟨d4, bN⟩ : ∃ y_ : List (List (S36)), y_ = (ac ++ [cL]) := ⟨_, rfl⟩
                    (first | rw [← bN] at H | simp only [← bN] at H)
                    have em := aj bN
                    clear bN
                    have H' := aj H
                    clear H
                    have gq := aW.out
                    have gr := aX.out
                    have gs := aU.out
                    have gt := aQ.out
                    have eO : wr.cell? ⟨ai, 0, none⟩ = some (.int .i64 ad) := bq_ aa 0
                    have eP : wr.cell? ⟨ai, 1, none⟩ = some (.int .i64 ah) := bq_ aa 1
                    have eQ : wr.cell? ⟨ai, 2, none⟩ = some (.int .i64 al) := bq_ aa 2
                    have eR : wr.cell? ⟨ai, 3, none⟩ = some (.slice aJ ab.length az) := bq_ aa 3
                    have eS := blk_frozen aa.out 0
                    have eT := blk_frozen aa.out 1
                    have eU := blk_frozen aa.out 2
                    have eV := blk_frozen aa.out 3
                    have bG : 0 ≤ (av : Int) := of_decide_eq_true (by assumption)
                    have bH : av < (ab.length : Int) := of_decide_eq_true (by assumption)
                    obtain ⟨bj, dS, dT, cV, bf, bs, bu⟩ := at_L3 bB.out av bG bH
                    cases cV
                    replace bf := (HB.out.cell (World.block_lt_of_cell? w _ bf)).trans bf
                    have bQ := aj bu
                    have dM := aj bs
                    clear bu bs
                    replace bG := eq_true bG
                    replace bH := eq_true bH
                    try go_wp2_with (first | ((with_reducible refine gate_builtin (b := .append) (xs := #[.tmp 41, .tmp 46]) rfl ?_); (try (refine gate_guard (by rfl) ?_; dsimp only)); at_builtin; refine Kd.R_append_rows k36 (w0 := w) w.heap.size rfl (.tmp 41) (.tmp 46) 22 36 (.agg #[(.int .u64 0), (.int .u64 0)]) 16 rfl Tryd.underlying22 info36 rfl (by decide) (by omega) (.slice none 0 0) ([] : List (S36)) (rd_L3 ab av) _ _ _ (fun k_ => k_ ≠ ap) (fun _ => False) rfl rfl ?aO ?aR (fun _ _ h => h) (fun _ h => h.elim) ?aF ?aB ?aS ?aL ?_; (case aR => repeat (first | exact (Kd.C_below bQ.out HB.out) | (with_reducible refine Kd.C_alloc ?_ _) | (with_reducible refine Kd.C_drewN ?_ _) | (with_reducible refine Kd.C_drew ?_))); (case aB => exact HB.out); (case aF => exact (fun k_ hk => Kd.freshB am.out k_ hk)); (case aO => exact ((Kd.R_nil _ _ _ _ (fun k_ => k_ ≠ ap)))); (case aS => exact (below_size HB.out)); (case aL => have := dj.out; omega); intro ev fQ ho hb hg hat; rw [← dk.out] at ho; have aA := aj (Kd.S_after (Kd.S_apart_nil (ay.out)) hg hat); have aC := aj (blk_grown aa.out hg (by simp [Value.ownBlock])); have aD := aj (blk_grown am.out hg (by simp [Value.ownBlock])); have aE := aj (blk_grown ag.out hg (by simp [Value.ownBlock])); have aM := aj (hb); have aN := aj (ho); clear ay; clear aa; clear am; clear ag; clear HB; have ay := aA; have aa := aC; have am := aD; have ag := aE; have HB := aM; have au := aN; clear aA aC aD aE aM aN))
                    have aA := aj (Kd.S_drew ay.out)
                    have aC := aj (Kd.R_drew au.out)
                    have aD := aj (blk_drew aa.out)
                    have aE := aj (blk_drew am.out)
                    have aM := aj (blk_drew ag.out)
                    have aN := aj (below_drew1 HB.out)
                    clear ay
                    clear au
                    clear aa
                    clear am
                    clear ag
                    clear HB
                    have ay := aA
                    have au := aC
                    have aa := aD
                    have am := aE
                    have ag := aM
                    have HB := aN
                    clear aA aC aD aE aM aN
                    obtain ⟨gJ, bS, d5⟩ := Kd.S_slice ay.out
                    (first | subst d5 | (injection d5 with f1_ f2_ f3_; have f4_ := f1_.symm; have f5_ := f3_.symm; clear f1_ f2_ f3_; subst f4_; subst f5_))
                    have cM : 0 ≤ ((ao) : Int) := of_decide_eq_true (by assumption)
                    have cN : (ao) < (ac.length : Int) := of_decide_eq_true (by assumption)
                    obtain ⟨bk, fR, bO, ew, bD, cB, cC⟩ := at_L3 (Kd.S_reads' ay.out).2.2 (ao) cM cN
                    cases ew
                    obtain ⟨ce791, d6, hMe791, cS⟩ := Kd.S_get ay.out [] (ao) cM (by first | exact cN | exact of_decide_eq_true (by assumption) | (have e_ := (Kd.S_reads' ay.out).1; omega))
                    obtain ⟨eW, rfl, bT⟩ := hMe791
                    have hv791_0 := cS 0 _ rfl
                    rw [Nat.add_zero, show ((Kd.slice 36 k36)).sz = 1 from rfl, Nat.mul_one] at hv791_0
                    replace hv791_0 := Option.some.inj (hv791_0.symm.trans bD)
                    rw [hv791_0] at bT
                    have a7 := aj (show Kd.R k36 36 _ _ _ _ (rd_L3 ac (ao)) from bT)
                    clear hv791_0 bT
                    clear cS d6
                    have bg := aj cC
                    have eX := aj cB
                    clear cC cB
                    replace cM := eq_true cM
                    replace cN := eq_true cN
                    have cW : 0 ≤ ((ji51) : Int) := of_decide_eq_true (by assumption)
                    have cX : (ji51) < ((rd_L3 ac (ao)).length : Int) := of_decide_eq_true (by assumption)
                    obtain ⟨bi, ey, cD, cE⟩ := at_T36 (by repeat (first | (with_reducible exact bg.out) | (with_reducible refine Kd.C_alloc ?_ _) | (with_reducible refine Kd.C_drewN ?_ _) | (with_reducible refine Kd.C_drew ?_) | exact bg.out)) (ji51) cW cX
                    cases ey
                    replace cW := eq_true cW
                    replace cX := eq_true cX
                    have cO : 0 ≤ ((ao) : Int) := of_decide_eq_true (by assumption)
                    have cP : (ao) < (ac.length : Int) := of_decide_eq_true (by assumption)
                    obtain ⟨en, fS, fT, ez, bE, cF, cG⟩ := at_L3 (Kd.S_reads' ay.out).2.2 (ao) cO cP
                    obtain rfl : bk = en := (by injection ez)
                    obtain ⟨ce793, d7, hMe793, cT⟩ := Kd.S_get ay.out [] (ao) cO (by first | exact cP | exact of_decide_eq_true (by assumption) | (have e_ := (Kd.S_reads' ay.out).1; omega))
                    obtain ⟨eY, rfl, bU⟩ := hMe793
                    have hv793_0 := cT 0 _ rfl
                    rw [Nat.add_zero, show ((Kd.slice 36 k36)).sz = 1 from rfl, Nat.mul_one] at hv793_0
                    replace hv793_0 := Option.some.inj (hv793_0.symm.trans bE)
                    rw [hv793_0] at bU
                    have a8 := aj (show Kd.R k36 36 _ _ _ _ (rd_L3 ac (ao)) from bU)
                    clear hv793_0 bU
                    clear cT d7
                    have bh := aj cG
                    have eZ := aj cF
                    clear cG cF
                    replace cO := eq_true cO
                    replace cP := eq_true cP
                    have ea_ := Option.some.inj (bD.symm.trans bE)
                    injection ea_ with ea_ en_ ec_
                    subst ea_
                    subst ec_
                    clear en_
                    have cY : 0 ≤ ((aV) : Int) := of_decide_eq_true (by assumption)
                    have cZ : (aV) < ((rd_L3 ac (ao)).length : Int) := of_decide_eq_true (by assumption)
                    obtain ⟨gu, eA, cH, cI⟩ := at_T36 (by repeat (first | (with_reducible exact bh.out) | (with_reducible refine Kd.C_alloc ?_ _) | (with_reducible refine Kd.C_drewN ?_ _) | (with_reducible refine Kd.C_drew ?_) | exact bh.out)) (aV) cY cZ
                    cases eA
                    replace cY := eq_true cY
                    replace cZ := eq_true cZ
                    refine start_ (n := 26) (S := fun w' => w'.cell? ⟨ai, 0, none⟩ = some (.int .i64 ad) ∧ w'.cell? ⟨ai, 1, none⟩ = some (.int .i64 ah) ∧ w'.cell? ⟨ai, 2, none⟩ = some (.int .i64 al) ∧ w'.cell? ⟨ai, 3, none⟩ = some (.slice (some bj) ab.length az) ∧ w'.cell? (bk.add ((ao)).toNat) = some (.slice (some bi) (rd_L3 ac (ao)).length bO) ∧ w'.cell? (bi.add (((ji51)).toNat * 2)) = some (.int .u64 ((rd_T36 (rd_L3 ac (ao)) (ji51)).f0)) ∧ w'.cell? ⟨(bi.add (((ji51)).toNat * 2)).block, (bi.add (((ji51)).toNat * 2)).off + 1, none⟩ = some (.int .u64 ((rd_T36 (rd_L3 ac (ao)) (ji51)).f1)) ∧ w'.cell? (bk.add ((ao)).toNat) = some (.slice (some bi) (rd_L3 ac (ao)).length bO) ∧ w'.cell? (bi.add (((aV)).toNat * 2)) = some (.int .u64 ((rd_T36 (rd_L3 ac (ao)) (aV)).f0)) ∧ w'.cell? ⟨(bi.add (((aV)).toNat * 2)).block, (bi.add (((aV)).toNat * 2)).off + 1, none⟩ = some (.int .u64 ((rd_T36 (rd_L3 ac (ao)) (aV)).f1))) (ds := [25]) z33_0_ (by kernel_rfl) rfl rfl ⟨bq_ aa 0, bq_ aa 1, bq_ aa 2, bq_ aa 3, bD, cD, cE, bE, cH, cI⟩ (fun hL => ?_); refine with_tabW attestorref07_Replace.tab14 attestorref07_Replace.bits14 (fun T_ W_ => ?_)
                    generalize fQ.drew = gQ at ay au aa am ag HB a7 a8 bg bh bD cD cE bE cH cI hL ⊢
                    refine pz_ 0 56 z33_1_ ?_
                    refine pz_ 1 57 z33_2_ ?_
                    refine pz_ 2 58 z33_3_ ?_
                    refine pz_ 4 60 z33_4_ ?_
                    refine pz_ 5 61 z33_5_ ?_
                    refine pz_ 6 62 z33_6_ ?_
                    refine pz_ 7 63 z33_7_ ?_
                    refine pz_ 9 65 z33_8_ ?_
                    refine pz_ 10 66 z33_9_ ?_
                    refine pz_ 13 69 z33_10_ ?_
                    refine pz_ 14 70 z33_11_ ?_
                    refine pz_ 15 71 z33_12_ ?_
                    refine pz_ 16 72 z33_13_ ?_
                    refine pz_ 18 74 z33_14_ ?_
                    refine pz_ 19 75 z33_15_ ?_
                    refine pz_ 20 76 z33_16_ ?_
                    refine tz_ 3 59 z33_17_ ?_
                    refine tz_ 8 64 z33_18_ ?_
                    refine pz_ 11 67 z33_19_ ?_
                    refine tz_ 12 68 z33_20_ ?_
                    refine tz_ 17 73 z33_21_ ?_
                    refine pz_ 21 77 z33_22_ ?_
                    refine tz_ 22 78 z33_23_ ?_
                    refine one_ (i := 23) (N := some 79) z33_24_ rfl rfl (on_ T_) (by decide) (fun K hK => ?_)
                    refine goes_ Tryd.func44 (by kernel_rfl) rfl #[.int .i64 ad, .agg #[.int .u64 ((rd_T36 (rd_L3 ac (ao)) (ji51)).f0), .int .u64 ((rd_T36 (rd_L3 ac (ao)) (ji51)).f1)], .agg #[.int .u64 ((rd_T36 (rd_L3 ac (ao)) (aV)).f0), .int .u64 ((rd_T36 (rd_L3 ac (ao)) (aV)).f1)]] (by rfl) rfl rfl (by (try simp only [List.map_toArray, List.map_cons, List.map_nil]); first | done | (simp only [b1, hji51, b2]; rfl) | rfl | (simp only [List.length_drop, List.length_take]; rfl) | (go_simp; done) | (go_simp; rw [Int.tmod_eq_emod_of_nonneg (by omega)]; omega)) ?_
                    with_reducible refine (attestorref06_Node.calls k2 ad ((rd_T36 (rd_L3 ac (ao)) (ji51)).f0) ((rd_T36 (rd_L3 ac (ao)) (ji51)).f1) ((rd_T36 (rd_L3 ac (ao)) (aV)).f0) ((rd_T36 (rd_L3 ac (ao)) (aV)).f1) aY aZ _ et.out).mono ?_
                    rintro e bP ⟨rfl, hb⟩
                    have HS4_ := (hb.cell (World.block_lt_of_cell? _ _ (hL.2.2.2.2.1))).trans (hL.2.2.2.2.1)
                    have HS5_ := (hb.cell (World.block_lt_of_cell? _ _ (hL.2.2.2.2.2.1))).trans (hL.2.2.2.2.2.1)
                    have HS6_ := (hb.cell (World.block_lt_of_cell? _ _ (hL.2.2.2.2.2.2.1))).trans (hL.2.2.2.2.2.2.1)
                    have HS7_ := (hb.cell (World.block_lt_of_cell? _ _ (hL.2.2.2.2.2.2.2.1))).trans (hL.2.2.2.2.2.2.2.1)
                    have HS8_ := (hb.cell (World.block_lt_of_cell? _ _ (hL.2.2.2.2.2.2.2.2.1))).trans (hL.2.2.2.2.2.2.2.2.1)
                    have HS9_ := (hb.cell (World.block_lt_of_cell? _ _ (hL.2.2.2.2.2.2.2.2.2))).trans (hL.2.2.2.2.2.2.2.2.2)
                    refine ⟨_, rfl, ?_⟩
                    have aA := aj (Kd.S_below (ay.out) hb)
                    have aC := aj (Kd.R_below (au.out) hb)
                    have aD := aj (Kd.R_below (a7.out) hb)
                    have aE := aj (Kd.R_below (a8.out) hb)
                    have aM := aj (blk_below aa.out hb)
                    have aN := aj (blk_below am.out hb)
                    have ba := aj (blk_below ag.out hb)
                    have bx := aj (Kd.C_below (by repeat (first | (with_reducible exact bg.out) | (with_reducible refine Kd.C_alloc ?_ _) | (with_reducible refine Kd.C_drewN ?_ _) | (with_reducible refine Kd.C_drew ?_) | exact bg.out)) hb)
                    have bV := aj (Kd.C_below (by repeat (first | (with_reducible exact bh.out) | (with_reducible refine Kd.C_alloc ?_ _) | (with_reducible refine Kd.C_drewN ?_ _) | (with_reducible refine Kd.C_drew ?_) | exact bh.out)) hb)
                    have bW := aj (below_step HB.out hb)
                    clear ay
                    clear au
                    clear a7
                    clear a8
                    clear aa
                    clear am
                    clear ag
                    clear bg
                    clear bh
                    clear HB
                    have ay := aA
                    have au := aC
                    have a7 := aD
                    have a8 := aE
                    have aa := aM
                    have am := aN
                    have ag := ba
                    have bg := bx
                    have bh := bV
                    have HB := bW
                    clear aA aC aD aE aM aN ba bx bV bW
                    have d8 : 0 ≤ ((aq) : Int) := of_decide_eq_true (by assumption)
                    have d9 : ((aq) : Int) < ((ar.length : Int) : Int) := of_decide_eq_true (by assumption)
                    obtain ⟨go61, bA, ea, eu, gl61, cl61, HG61⟩ := Kd.R_form au.out (by omega)
                    (first | cases ea | (injection ea with ea_ en_ ec_; (first | subst ea_ | (injection ea_ with ea_; subst ea_)); subst ec_; clear en_))
                    have GB61 := aj eu
                    have gK := aj HG61
                    clear eu gl61 HG61
                    obtain ⟨ce61, hcl61, eb, cQ, hfr61⟩ := Kd.R_elem au.out z36 ((aq) : Int) d8 d9
                    obtain rfl := k36_openM eb
                    have fU : World.cell? _ ⟨go61, ((aq) : Int).toNat * 2, none⟩ = some (.int .u64 ((rd_T36 ar (aq)).f0)) := cQ 0 _ rfl
                    have fV : World.cell? _ ⟨go61, ((aq) : Int).toNat * 2 + 1, none⟩ = some (.int .u64 ((rd_T36 ar (aq)).f1)) := cQ 1 _ rfl
                    have hf61_0 : World.frozen? _ ⟨go61, ((aq) : Int).toNat * 2, none⟩ = false := hfr61 0
                    have hf61_1 : World.frozen? _ ⟨go61, ((aq) : Int).toNat * 2 + 1, none⟩ = false := hfr61 1
                    clear hcl61 cQ hfr61 eb
                    replace d8 := eq_true d8
                    replace d9 := eq_true d9
                    obtain ⟨ce70, hcl70, ec, dz, hfr70⟩ := Kd.R_elem au.out z36 ((aq) : Int) (of_decide_eq_true (by assumption)) (by have h_ : ((aq) : Int) < ((ar.length : Int) : Int) := of_decide_eq_true (by assumption); first | exact h_ | (have e_ := (Kd.R_reads' au.out).1; omega) | simpa using h_)
                    obtain rfl := k36_openM ec
                    have HP70 := (Kd.R_seg au.out ((aq) : Int) (of_decide_eq_true (by assumption)) (by have h_ : ((aq) : Int) < ((ar.length : Int) : Int) := of_decide_eq_true (by assumption); first | exact h_ | (have e_ := (Kd.R_reads' au.out).1; omega) | simpa using h_) (seg := [.int .u64 aY, .int .u64 aZ]) (j := 0) hcl70 dz (show 2 ≤ 2 from by decide) (x' := (⟨aY, aZ⟩ : S36)) (k36_mkM _ _ _ (⟨aY, aZ⟩ : S36) ) (fun _ hk => hk)).1
                    rw [← ek.out] at HP70
                    have HQ70 := aj HP70
                    clear hcl70 dz hfr70 ec HP70
                    refine hK.out _ _ ⟨bq_ aa 0, bq_ aa 1, bq_ aa 2, bq_ aa 3, HS4_, HS5_, HS6_, HS7_, HS8_, HS9_⟩ (fun hL => ?_)
                    clear hK K
                    refine norm_ (a' := ?_) ?_ ?_
                    rotate_left
                    ·show Act.put _ (some 79) _ = _
                     simp only [Act.put, sa_, sb_, sc_, i64_w, i32_w]
                     rfl
                    refine pz_ 24 80 z33_25_ ?_
                    refine last_ (i := 25) (N := none) z33_26_ rfl rfl (on_ T_) (by decide) (fun K hK => ?_)
                    refine skip_ (w1 := ?_) (by rfl) rfl ?_ ?_
                    rotate_left
                    ·go_simp
                     rfl
                    refine hK.out _ _ ?_
                    clear hK K
                    refine done_ (done_of T_.out (by kernel_rfl)) ?_
                    have aA : Aside0 (Kd.S (Kd.slice 36 k36) 22 ((bP.setCell ⟨go61, ((aq) : Int).toNat * 2, none⟩ (.int .u64 aY)).setCell ⟨go61, ((aq) : Int).toNat * 2 + 1, none⟩ (.int .u64 aZ)) w.heap.size (fun k_ => some k_ ≠ (.slice (some ⟨go61, 0, none⟩) ar.length bA : Value).ownBlock ∧ k_ ≠ ap) (.slice (some bk) ac.length bS) ac) := ⟨by (with_reducible repeat (first | apply Kd.S_alloc | apply Kd.S_drewN | apply Kd.S_drew)); exact Kd.S_mono (Kd.S_far (p := ⟨go61, ((aq) : Int).toNat * 2 + 1, none⟩) (Kd.S_far (p := ⟨go61, ((aq) : Int).toNat * 2, none⟩) (Kd.S_mono ay.out (fun k_ hk => (⟨hk, fun e_ => hk.2 (by rw [e_]; rfl)⟩ : _ ∧ k_ ≠ go61))) (fun _ hk => hk.2) (.int .u64 aY)) (fun _ hk => hk.2) (.int .u64 aZ)) (fun _ hk => ⟨hk.1.2, hk.1.1⟩)⟩
                    have aC : Aside0 (Kd.R k36 36 ((bP.setCell ⟨go61, ((aq) : Int).toNat * 2, none⟩ (.int .u64 aY)).setCell ⟨go61, ((aq) : Int).toNat * 2 + 1, none⟩ (.int .u64 aZ)) w.heap.size (fun k_ => k_ ≠ ap) (.slice (some ⟨go61, 0, none⟩) ar.length bA) cL) := ⟨by (with_reducible repeat (first | apply Kd.R_alloc | apply Kd.R_drewN | apply Kd.R_drew)); exact HQ70.out⟩
                    have aD : Aside0 (Kd.R k36 36 ((bP.setCell ⟨go61, ((aq) : Int).toNat * 2, none⟩ (.int .u64 aY)).setCell ⟨go61, ((aq) : Int).toNat * 2 + 1, none⟩ (.int .u64 aZ)) w.heap.size (fun k_ => some k_ ≠ (.slice (some bk) ac.length bS : Value).ownBlock ∧ some k_ ≠ (.slice (some ⟨go61, 0, none⟩) ar.length bA : Value).ownBlock ∧ k_ ≠ ap) (.slice (some bi) (rd_L3 ac (ao)).length bO) (rd_L3 ac (ao))) := ⟨by (with_reducible repeat (first | apply Kd.R_alloc | apply Kd.R_drewN | apply Kd.R_drew)); exact Kd.R_mono (Kd.R_far (p := ⟨go61, ((aq) : Int).toNat * 2 + 1, none⟩) (Kd.R_far (p := ⟨go61, ((aq) : Int).toNat * 2, none⟩) (Kd.R_mono a7.out (fun k_ hk => (⟨hk, fun e_ => hk.1.2 (by rw [e_]; rfl)⟩ : _ ∧ k_ ≠ go61))) (fun _ hk => hk.2) (.int .u64 aY)) (fun _ hk => hk.2) (.int .u64 aZ)) (fun _ hk => ⟨hk.1.2, ⟨hk.1.1.2, hk.1.1.1⟩⟩)⟩
                    have aE : Aside0 (Kd.R k36 36 ((bP.setCell ⟨go61, ((aq) : Int).toNat * 2, none⟩ (.int .u64 aY)).setCell ⟨go61, ((aq) : Int).toNat * 2 + 1, none⟩ (.int .u64 aZ)) w.heap.size (fun k_ => some k_ ≠ (.slice (some bk) ac.length bS : Value).ownBlock ∧ some k_ ≠ (.slice (some ⟨go61, 0, none⟩) ar.length bA : Value).ownBlock ∧ k_ ≠ ap) (.slice (some bi) (rd_L3 ac (ao)).length bO) (rd_L3 ac (ao))) := ⟨by (with_reducible repeat (first | apply Kd.R_alloc | apply Kd.R_drewN | apply Kd.R_drew)); exact Kd.R_mono (Kd.R_far (p := ⟨go61, ((aq) : Int).toNat * 2 + 1, none⟩) (Kd.R_far (p := ⟨go61, ((aq) : Int).toNat * 2, none⟩) (Kd.R_mono a8.out (fun k_ hk => (⟨hk, fun e_ => hk.1.2 (by rw [e_]; rfl)⟩ : _ ∧ k_ ≠ go61))) (fun _ hk => hk.2) (.int .u64 aY)) (fun _ hk => hk.2) (.int .u64 aZ)) (fun _ hk => ⟨hk.1.2, ⟨hk.1.1.2, hk.1.1.1⟩⟩)⟩
                    have aM : Aside0 (((bP.setCell ⟨go61, ((aq) : Int).toNat * 2, none⟩ (.int .u64 aY)).setCell ⟨go61, ((aq) : Int).toNat * 2 + 1, none⟩ (.int .u64 aZ)).heap[ai]? = some (.cells #[.int .i64 ad, .int .i64 ah, .int .i64 al, .slice (some bj) ab.length az] 26 (0, 0))) := ⟨by refine blk_far ?_ (by have h_ := Kd.R_ne au.out aa.out (by decide); intro e_; exact h_ (by rw [e_]; rfl)) _; refine blk_far ?_ (by have h_ := Kd.R_ne au.out aa.out (by decide); intro e_; exact h_ (by rw [e_]; rfl)) _; exact aa.out⟩
                    have aN : Aside0 (((bP.setCell ⟨go61, ((aq) : Int).toNat * 2, none⟩ (.int .u64 aY)).setCell ⟨go61, ((aq) : Int).toNat * 2 + 1, none⟩ (.int .u64 aZ)).heap[ap]? = some (.cells #[.int .u64 ae, .int .u64 af] 36 (0, 0))) := ⟨by refine blk_far ?_ (by have h_ := Kd.R_away au.out (fun _ hk => hk); intro e_; exact h_ (by rw [e_]; rfl)) _; refine blk_far ?_ (by have h_ := Kd.R_away au.out (fun _ hk => hk); intro e_; exact h_ (by rw [e_]; rfl)) _; exact am.out⟩
                    have ba : Aside0 (((bP.setCell ⟨go61, ((aq) : Int).toNat * 2, none⟩ (.int .u64 aY)).setCell ⟨go61, ((aq) : Int).toNat * 2 + 1, none⟩ (.int .u64 aZ)).heap[ax]? = some (.cells #[.int .i64 0, .int .i64 0, .int .i64 0, .slice none 0 0] 26 (0, 0))) := ⟨by refine blk_far ?_ (by have h_ := Kd.R_ne au.out ag.out (by decide); intro e_; exact h_ (by rw [e_]; rfl)) _; refine blk_far ?_ (by have h_ := Kd.R_ne au.out ag.out (by decide); intro e_; exact h_ (by rw [e_]; rfl)) _; exact ag.out⟩
                    have bx : Aside0 (Below w.heap.size w ((bP.setCell ⟨go61, ((aq) : Int).toNat * 2, none⟩ (.int .u64 aY)).setCell ⟨go61, ((aq) : Int).toNat * 2 + 1, none⟩ (.int .u64 aZ))) := ⟨by repeat (first | (with_reducible first | exact HB.out | apply below_alloc | apply pw_below_drewN | apply below_drew1 | refine below_set ?_ GB61.out | refine below_set ?_ GB61.out | refine below_set ?_ aw.out | refine below_set ?_ aG.out | refine below_set ?_ aK.out) | exact HB.out)⟩
                    generalize ((bP.setCell ⟨go61, ((aq) : Int).toNat * 2, none⟩ (.int .u64 aY)).setCell ⟨go61, ((aq) : Int).toNat * 2 + 1, none⟩ (.int .u64 aZ)) = gR at aA aC aD aE aM aN ba bx ⊢
                    have ay := aA
                    have au := aC
                    have a7 := aD
                    have a8 := aE
                    have aa := aM
                    have am := aN
                    have ag := ba
                    have HB := bx
                    clear aA aC aD aE aM aN ba bx
                    try go_wp2_with (first | ((with_reducible refine gate_builtin (b := .append) (xs := #[.tmp 81, .tmp 83]) rfl ?_); (try (refine gate_guard (by rfl) ?_; dsimp only)); at_builtin; refine Kd.S_append (Kd.slice 36 k36) (w0 := w) w.heap.size rfl (.tmp 81) (.tmp 83) 24 22 (.slice none 0 0) 24 rfl Tryd.underlying24 info22 rfl (by decide) (by omega) (.slice (some bk) ac.length bS) ac cL [.slice (some ⟨go61, 0, none⟩) ar.length bA] (fun k_ => k_ ≠ ap) (fun k_ => some k_ = (.slice (some ⟨go61, 0, none⟩) ar.length bA : Value).ownBlock) rfl rfl ?aP (fun k_ hk_ => ((Kd.R_mono (ok' := fun k_ => ((fun k_ => k_ ≠ ap)) k_ ∧ some k_ ≠ (.slice (some bk) ac.length bS : Value).ownBlock) (Kd.R_apart' (au.out) (Kd.S_typed ay.out) (by decide)) (fun k_ hk => ⟨hk.1, hk.2⟩))).1 k_ hk_.symm) ?aF ?aO ?aB ?aS ?aL ?_; (case aP => exact Kd.M_row (Kd.R_mono (Kd.R_tight rfl (Kd.R_mono (ok' := fun k_ => ((fun k_ => k_ ≠ ap)) k_ ∧ some k_ ≠ (.slice (some bk) ac.length bS : Value).ownBlock) (Kd.R_apart' (au.out) (Kd.S_typed ay.out) (by decide)) (fun k_ hk => ⟨hk.1, hk.2⟩))) (fun _ h_ => h_))); (case aB => exact HB.out); (case aF => exact (fun k_ hk => Kd.freshB am.out k_ hk)); (case aO => exact (Kd.S_mono ay.out (fun k_ hk => ⟨hk.2, fun e_ => hk.1 e_⟩))); (case aS => exact (below_size HB.out)); (case aL => have := el.out; omega); intro gL gS ho hb hg hat; rw [← em.out] at ho; have aA := aj (blk_grown aa.out hg (Kd.S_ne ay.out aa.out (by decide))); have aC := aj (blk_grown am.out hg (Kd.S_ne ay.out am.out (by decide))); have aD := aj (blk_grown ag.out hg (Kd.S_ne ay.out ag.out (by decide))); have aE := aj (Kd.R_after (ok := (fun k_ => some k_ ≠ (.slice (some ⟨go61, 0, none⟩) ar.length bA : Value).ownBlock ∧ k_ ≠ ap)) (Kd.R_mono a7.out (fun _ hk => ⟨⟨hk.2.1, hk.2.2⟩, hk.1⟩)) hg hat); have aM := aj (Kd.R_after (ok := (fun k_ => some k_ ≠ (.slice (some ⟨go61, 0, none⟩) ar.length bA : Value).ownBlock ∧ k_ ≠ ap)) (Kd.R_mono a8.out (fun _ hk => ⟨⟨hk.2.1, hk.2.2⟩, hk.1⟩)) hg hat); have aN := aj (hb); have ba := aj (ho); clear aa; clear am; clear ag; clear a7; clear a8; clear HB; clear ay; clear au; have aa := aA; have am := aC; have ag := aD; have a7 := aE; have a8 := aM; have HB := aN; have eo := ba; clear aA aC aD aE aM aN ba))
                    go_roundg k2
                    case measure => have := df.out; have := dg.out; omega
                    case rel => exact ⟨(aq), (d4), (wrap64 (av + 1)), (ae), (af), (by first | rfl | (simp; done) | (simp only [← bC] <;> (first | rfl | simp)) | (simp [*]; done) | (simp; rfl) | (simp; decide +kernel)), (by first | rfl | simp), H', ⟨by have := df.out; have := dg.out; omega⟩, ⟨by (with_reducible repeat (first | apply Kd.S_alloc | apply Kd.S_drewN | apply Kd.S_drew)); exact eo.out⟩, ⟨by exact aa.out⟩, ⟨by exact am.out⟩, ⟨by exact ag.out⟩, ⟨HB.out⟩⟩
                   ·rw [if_neg dy] at H
                    exact absurd H (by simp)
                  ·rw [if_neg dx] at H
                   exact absurd H (by simp)
                 ·rw [if_neg dw] at H
                  exact absurd H (by simp)
                ·rw [if_neg dv] at H
                 exact absurd H (by simp)
               ·rw [if_neg du] at H
                exact absurd H (by simp)
              ·rw [if_neg dt] at H
               exact absurd H (by simp)
             ·rw [if_neg dr] at H
              exact absurd H (by simp)
            ·rw [if_neg dq] at H
             exact absurd H (by simp)
           ·rw [if_neg dp] at H
            exact absurd H (by simp)
         ·rw [if_neg di] at H
          exact absurd H (by simp)
        ·rw [if_neg dh] at H
         exact absurd H (by simp)
       ·rw [if_neg cA] at H
        have c31b0 : decide (av < (ab.length : Int)) = false := decide_eq_false cA
        clear cA
        simp only [Option.some.injEq, Prod.mk.injEq] at H
        obtain ⟨rfl, rfl, rfl, rfl, rfl⟩ := H
        have gv := aW.out
        have gw := aX.out
        have gx := aU.out
        have gy := aQ.out
        have e0 : wr.cell? ⟨ai, 0, none⟩ = some (.int .i64 ad) := bq_ aa 0
        have e1 : wr.cell? ⟨ai, 1, none⟩ = some (.int .i64 ah) := bq_ aa 1
        have e2 : wr.cell? ⟨ai, 2, none⟩ = some (.int .i64 al) := bq_ aa 2
        have e3 : wr.cell? ⟨ai, 3, none⟩ = some (.slice aJ ab.length az) := bq_ aa 3
        have e4 := blk_frozen aa.out 0
        have e5 := blk_frozen aa.out 1
        have e6 := blk_frozen aa.out 2
        have e7 := blk_frozen aa.out 3
        obtain ⟨c0, da, eB⟩ := Kd.S_slice ay.out
        subst eB
        have gz := bc.out
        have gA := bb.out
        have e8 : wr.cell? ⟨ax, 0, none⟩ = some (.int .i64 0) := bq_ ag 0
        have e9 : wr.cell? ⟨ax, 1, none⟩ = some (.int .i64 0) := bq_ ag 1
        have fa : wr.cell? ⟨ax, 2, none⟩ = some (.int .i64 0) := bq_ ag 2
        have fb : wr.cell? ⟨ax, 3, none⟩ = some (.slice none 0 0) := bq_ ag 3
        have fc := blk_frozen ag.out 0
        have ff := blk_frozen ag.out 1
        have fh := blk_frozen ag.out 2
        have fi := blk_frozen ag.out 3
        go_wp2
        refine bodyPost_ret (results_ct rfl _ _ ax 26 #[.int .i64 ad, .int .i64 ah, .int .i64 al, .slice c0 ac.length da] (0, 0) _ rfl (by refine blk_put (cs := #[.int .i64 ad, .int .i64 ah, .int .i64 al, .slice none 0 0]) ?_ 3 _ rfl; refine blk_put (cs := #[.int .i64 ad, .int .i64 ah, .int .i64 0, .slice none 0 0]) ?_ 2 _ rfl; refine blk_put (cs := #[.int .i64 ad, .int .i64 0, .int .i64 0, .slice none 0 0]) ?_ 1 _ rfl; refine blk_put (cs := #[.int .i64 0, .int .i64 0, .int .i64 0, .slice none 0 0]) ?_ 0 _ rfl; refine blk_far ?_ aQ.out _; exact ag.out) Tryd.underlying26 rfl (by kernel_rfl)) rfl ?_
        exact ⟨_, by first | rfl | (simp [errW_none, errW_some] <;> rfl) | (simp [*, errW_none, errW_some] <;> rfl), by (with_reducible repeat (first | apply Kd.S_alloc | apply Kd.S_drewN | apply Kd.S_drew)); exact Kd.S_mono (Kd.S_far (p := ⟨ax, 3, none⟩) (Kd.S_far (p := ⟨ax, 2, none⟩) (Kd.S_far (p := ⟨ax, 1, none⟩) (Kd.S_far (p := ⟨ax, 0, none⟩) (Kd.S_far (p := ⟨ai, 3, none⟩) (Kd.S_types (Kd.S_types ay.out aa.out (by decide)) ag.out (by decide)) (fun _ hk => hk.1.2) (.slice c0 ac.length da)) (fun _ hk => hk.2) (.int .i64 ad)) (fun _ hk => hk.2) (.int .i64 ah)) (fun _ hk => hk.2) (.int .i64 al)) (fun _ hk => hk.2) (.slice c0 ac.length da)) (fun _ hk => trivial), by repeat (first | (with_reducible first | exact HB.out | apply below_alloc | apply pw_below_drewN | apply below_drew1 | refine below_set ?_ aw.out | refine below_set ?_ aG.out | refine below_set ?_ aK.out) | exact HB.out)⟩
 ·replace c5 := Bool.eq_false_iff.mpr c5
  subst c5
  have H1 : (some (0, 0, 0, ([] : List (List (S36))), 1)) = some (r1, r2, r3, r4, r5) := by rw [if_neg (show ¬ (false = true) by decide)] at H; exact H
  clear H
  have H := H1
  clear H1
  simp only [Option.some.injEq, Prod.mk.injEq] at H
  obtain ⟨rfl, rfl, rfl, rfl, rfl⟩ := H
  go_enter Tryd.func33, Tryd.ntmps33
  go_wp2_with (first | ((with_reducible refine gate_dst (N := 3) rfl ?_); (try (refine gate_guard (by rfl) ?_; dsimp only)); refine box_event ?hg (N := 3) ?hd (cs := #[.int .i64 ad, .int .i64 ah, .int .i64 al, .slice aJ ab.length az]) (t := 26) ?hr ?_; (case hd => rfl); (case hg => rfl); (case hr => first | (go_simp; done) | (go_simp; rfl)); intro ai hg gT hbox hb; have aA := aj (below_step HB.out hb); have aC := aj (hbox); have aD := aj ((by rw [hg]; exact (below_size HB.out) : w.heap.size ≤ ai)); have aE := aj ((by rw [hg]; exact (below_size HB.out) : w.heap.size ≤ ai)); clear HB; have HB := aA; have aa := aC; have ed := aD; have aw := aE; clear aA aC aD aE; clear hb hbox hg) | ((with_reducible refine gate_dst (N := 5) rfl ?_); (try (refine gate_guard (by rfl) ?_; dsimp only)); refine box_event ?hg (N := 5) ?hd (cs := #[.int .u64 aH, .int .u64 aI]) (t := 36) ?hr ?_; (case hd => rfl); (case hg => rfl); (case hr => first | (go_simp; done) | (go_simp; rfl)); intro ap hg gU hbox hb; have aA := aj (blk_below aa.out hb); have aC := aj (below_step HB.out hb); have aD := aj (hbox); have aE := aj ((by rw [hg]; exact (below_size HB.out) : w.heap.size ≤ ap)); have aM := aj ((by rw [hg]; exact (below_size HB.out) : w.heap.size ≤ ap)); have aN := aj ((by rw [hg]; exact Nat.ne_of_lt (blk_lt aa.out) : ai ≠ ap)); have ba := aj ((by rw [hg]; exact Nat.ne_of_gt (blk_lt aa.out) : ap ≠ ai)); clear aa; clear HB; have aa := aA; have HB := aC; have am := aD; have ee := aE; have aG := aM; have aW := aN; have aX := ba; clear aA aC aD aE aM aN ba; clear hb hbox hg) | ((with_reducible refine gate_dst (N := 6) rfl ?_); (try (refine gate_guard (by rfl) ?_; dsimp only)); refine box_event ?hg (N := 6) ?hd (cs := #[.int .i64 0, .int .i64 0, .int .i64 0, .slice none 0 0]) (t := 26) ?hr ?_; (case hd => rfl); (case hg => rfl); (case hr => first | (go_simp; done) | (go_simp; rfl)); intro ax hg dA hbox hb; have aA := aj (blk_below aa.out hb); have aC := aj (blk_below am.out hb); have aD := aj (below_step HB.out hb); have aE := aj (hbox); have aM := aj ((by rw [hg]; exact (below_size HB.out) : w.heap.size ≤ ax)); have aN := aj ((by rw [hg]; exact (below_size HB.out) : w.heap.size ≤ ax)); have ba := aj ((by rw [hg]; exact Nat.ne_of_lt (blk_lt aa.out) : ai ≠ ax)); have bx := aj ((by rw [hg]; exact Nat.ne_of_gt (blk_lt aa.out) : ax ≠ ai)); have bV := aj ((by rw [hg]; exact Nat.ne_of_lt (blk_lt am.out) : ap ≠ ax)); have bW := aj ((by rw [hg]; exact Nat.ne_of_gt (blk_lt am.out) : ax ≠ ap)); clear aa; clear am; clear HB; have aa := aA; have am := aC; have HB := aD; have ag := aE; have ef := aM; have aK := aN; have aU := ba; have aQ := bx; have bb := bV; have bc := bW; clear aA aC aD aE aM aN ba bx bV bW; clear hb hbox hg; have gB := aW.out; have gC := aX.out; have gD := aU.out; have gE := aQ.out; have fj : dA.cell? ⟨ai, 0, none⟩ = some (.int .i64 ad) := bq_ aa 0; have fk : dA.cell? ⟨ai, 1, none⟩ = some (.int .i64 ah) := bq_ aa 1; have fm : dA.cell? ⟨ai, 2, none⟩ = some (.int .i64 al) := bq_ aa 2; have fo : dA.cell? ⟨ai, 3, none⟩ = some (.slice aJ ab.length az) := bq_ aa 3; have fq := blk_frozen aa.out 0; have fs := blk_frozen aa.out 1; have fu := blk_frozen aa.out 2; have fv := blk_frozen aa.out 3) | ((with_reducible refine gate_callee (f := 17) rfl ?_); refine goesL_ (some 12) rfl rfl Tryd.func17 (by kernel_rfl) rfl #[.agg #[.int .i64 ad, .int .i64 ah, .int .i64 al, .slice aJ ab.length az]] rfl (by (try simp only [List.map_toArray, List.map_cons, List.map_nil]); first | done | rfl | (go_simp; done)) ?_; (with_reducible refine (attestorref07_Valid.calls k ad ah al _ _ ab false _ ?side1 ?side2 A4.out).mono ?_); (case side1 => exact (Kd.C_below bB.out HB.out)); (case side2 => exact dd.out); rintro e dB ⟨rfl, hb⟩; refine ⟨_, rfl, ?_⟩; have aA := aj (blk_below aa.out hb); have aC := aj (blk_below am.out hb); have aD := aj (blk_below ag.out hb); have aE := aj (below_step HB.out hb); clear aa; clear am; clear ag; clear HB; have aa := aA; have am := aC; have ag := aD; have HB := aE; clear aA aC aD aE; (try clear hb); (try clear hb2); (try clear hk); (try clear hi); have gF := bc.out; have gG := bb.out; have fw : dB.cell? ⟨ax, 0, none⟩ = some (.int .i64 0) := bq_ ag 0; have fx : dB.cell? ⟨ax, 1, none⟩ = some (.int .i64 0) := bq_ ag 1; have fy : dB.cell? ⟨ax, 2, none⟩ = some (.int .i64 0) := bq_ ag 2; have fz : dB.cell? ⟨ax, 3, none⟩ = some (.slice none 0 0) := bq_ ag 3; have fA := blk_frozen ag.out 0; have fB := blk_frozen ag.out 1; have fC := blk_frozen ag.out 2; have fD := blk_frozen ag.out 3))
  refine bodyPost_ret (results_ct rfl _ _ ax 26 #[.int .i64 0, .int .i64 0, .int .i64 0, .slice none 0 0] (0, 0) _ rfl (by refine blk_put (cs := #[.int .i64 0, .int .i64 0, .int .i64 0, .slice none 0 0]) ?_ 3 _ rfl; refine blk_put (cs := #[.int .i64 0, .int .i64 0, .int .i64 0, .slice none 0 0]) ?_ 2 _ rfl; refine blk_put (cs := #[.int .i64 0, .int .i64 0, .int .i64 0, .slice none 0 0]) ?_ 1 _ rfl; refine blk_put (cs := #[.int .i64 0, .int .i64 0, .int .i64 0, .slice none 0 0]) ?_ 0 _ rfl; exact ag.out) Tryd.underlying26 rfl (by kernel_rfl)) rfl ?_
  exact ⟨_, by first | rfl | (simp [errW_none, errW_some] <;> rfl) | (simp [*, errW_none, errW_some] <;> rfl), by first | exact Kd.S_nil _ _ _ _ _ | exact Kd.N_nil _ _ _ _ _ | exact Kd.V_nil _ _ _ _ _ | exact Kd.Q_nil _ _ _ _ _ | exact Kd.R_nil _ _ _ _ _, by repeat (first | (with_reducible first | exact HB.out | apply below_alloc | apply pw_below_drewN | apply below_drew1 | refine below_set ?_ aw.out | refine below_set ?_ aG.out | refine below_set ?_ aK.out) | exact HB.out)⟩

end Go.Proofs.YtpnpmeogffodgaaDoor.Q
end
section
namespace Go.Proofs.YtpnpmeogffodgaaDoor.Q
open Go.RowKit Go.Proofs.YtpnpmeogffodgaaDoorW.PrintWords Go.Proofs.YtpnpmeogffodgaaDoorW.PrintLast Go.Proofs.YtpnpmeogffodgaaDoorW.PrintMore
set_option linter.unusedVariables false
set_option linter.unusedSimpArgs false
/-- Headers, each as an element of one cell. -/
def hd1 (H : List Value) : List (List Value) := H.map fun v => [v]
theorem hd1_len (H : List Value) : (hd1 H).length = H.length := by simp [hd1]
theorem hd1_get {H : List Value} {j : Nat} {u : Value} (h : H[j]? = some u) : (hd1 H)[j]? = some [u] := by simp [hd1, h]
theorem hd1_set (H : List Value) (j : Nat) (u : Value) : (hd1 H).set j [u] = hd1 (H.set j u) := by simp [hd1, List.map_set]
/-- The headers of rows that are read. -/
theorem C_hdrs {w : World} {A : Option Addr} {ls : List (List S36)} (h : Kd.C (Kd.slice 36 k36) w A ls.length ls) : ∃ H : List Value, H.length = ls.length ∧ Kd.C (Kd.raw 1) w A ls.length (hd1 H) ∧ ∀ (j : Nat) (l : List S36), ls[j]? = some l → ∃ (A : Option Addr) (c : Nat), H[j]? = some (Value.slice A l.length c) ∧ l.length ≤ c ∧ Kd.C k36 w A l.length l := by
  have hle := h.2.1
  by_cases hn : 0 < ls.length
  · obtain ⟨ad, hA, hcc⟩ := h.2.2 hn
    subst hA
    have hx : ∀ j : Nat, ∃ v : Value, ∀ l : List S36, ls[j]? = some l → (∃ (A : Option Addr) (c : Nat), v = Value.slice A l.length c ∧ l.length ≤ c ∧ Kd.C k36 w A l.length l) ∧ w.cell? (ad.add j) = some v := by
      intro j
      cases hj : ls[j]? with
      | none => exact ⟨undef, fun l hl => by cases hl⟩
      | some l0 =>
        obtain ⟨c, hcl, ⟨A, c0, rfl, h1, h2⟩, hcell⟩ := hcc j l0 hj
        refine ⟨Value.slice A l0.length c0, fun l hl => ?_⟩
        obtain rfl := Option.some.inj hl
        have h0 := hcell 0 _ rfl
        simp only [show (Kd.slice 36 k36).sz = 1 from rfl, Nat.mul_one, Nat.add_zero] at h0
        exact ⟨⟨A, c0, rfl, h1, h2⟩, h0⟩
    obtain ⟨F, hF⟩ := Classical.axiomOfChoice hx
    have hget : ∀ (j : Nat) (l : List S36), ls[j]? = some l → ((List.range ls.length).map F)[j]? = some (F j) := by
      intro j l hl
      have := (List.getElem?_eq_some_iff.mp hl).1
      simp [this]
    refine ⟨(List.range ls.length).map F, by simp, ⟨by rw [hd1_len]; simp, hle, fun _ => ⟨ad, rfl, fun j p hp => ?_⟩⟩, fun j l hl => ?_⟩
    · have hlt : j < ls.length := by
        have := (List.getElem?_eq_some_iff.mp hp).1
        rw [hd1_len] at this
        simpa using this
      have hl := List.getElem?_eq_getElem hlt
      have e := hd1_get (hget j _ hl)
      rw [e] at hp
      obtain rfl := Option.some.inj hp
      obtain ⟨⟨A, c, hv, _, _⟩, hcell⟩ := hF j _ hl
      refine ⟨[F j], rfl, ⟨rfl, rfl, fun u hu => ?_⟩, fun i u hi => ?_⟩
      · rw [List.mem_singleton.mp hu, hv]; rfl
      · cases i with
        | zero =>
          obtain rfl := Option.some.inj hi
          simp only [show (Kd.raw 1).sz = 1 from rfl, Nat.mul_one, Nat.add_zero]
          exact hcell
        | succ i => simp at hi
    · obtain ⟨⟨A, c, hv, h1, h2⟩, _⟩ := hF j l hl
      exact ⟨A, c, by rw [hget j l hl, hv], h1, h2⟩
  · have h0 : ls = [] := List.eq_nil_of_length_eq_zero (by omega)
    subst h0
    exact ⟨[], rfl, ⟨rfl, Nat.zero_le _, fun h => absurd h (Nat.lt_irrefl 0)⟩, fun j l hl => by simp at hl⟩
/-- A header cell of an own row of headers. -/
theorem hd_cell {W : World} {base gO n c : Nat} {ok : Nat → Prop} {H : List Value} (h : Kd.R (Kd.raw 1) 22 W base ok (.slice (some ⟨gO, 0, none⟩) n c) (hd1 H)) (j : Nat) (u : Value) (hj : H[j]? = some u) : W.cell? ⟨gO, j, none⟩ = some u := by
  obtain ⟨hn, _, hC⟩ := Kd.R_reads' h
  have hlt := (List.getElem?_eq_some_iff.mp hj).1
  obtain ⟨ad, e, hc⟩ := hC.2.2 (by rw [hd1_len]; omega)
  injection e with e
  subst e
  obtain ⟨cs, hl, ⟨rfl, _, _⟩, hcell⟩ := hc j _ (hd1_get hj)
  have := hcell 0 u rfl
  simp only [show (Kd.raw 1).sz = 1 from rfl, Nat.mul_one, Nat.add_zero] at this
  rw [add_plain] at this
  exact this
/-- Own rows, told by headers, each of its own block. -/
structure RwI (b : Nat) (H : List Value) (pre : List (List S36)) (W : World) : Prop where
  row : ∀ (j : Nat) (l : List S36), pre[j]? = some l → ∃ u : Value, H[j]? = some u ∧ Kd.R k36 36 W b (fun k => some k = u.ownBlock) u l
  ne : ∀ (j j' : Nat) (u u' : Value) (k : Nat), j < pre.length → j' < pre.length → H[j]? = some u → H[j']? = some u' → u.ownBlock = some k → u'.ownBlock = some k → j = j'
theorem RwI.move {b : Nat} {H : List Value} {pre : List (List S36)} {W W1 : World} (h : RwI b H pre W) (hm : ∀ k, b ≤ k → k < W.heap.size → (∃ cs, W.heap[k]? = some (Obj.cells cs 36 (0, 0))) → W1.heap[k]? = W.heap[k]?) : RwI b H pre W1 := by
  refine ⟨fun j l hl => ?_, h.ne⟩
  obtain ⟨u, hu, hr⟩ := h.row j l hl
  refine ⟨u, hu, Kd.R_mono (Kd.R_step (Kd.R_bound hr) fun k hk _ => ?_) fun k hk => hk.1⟩
  obtain ⟨_, h1, h2, q, hq, cs, hc⟩ := hk
  obtain rfl : q = 36 := by simpa [k36, Kd.iso, Kd.pair, Kd.int, Kd.scalar] using hq
  exact hm k h1 h2 ⟨cs, hc⟩
theorem RwI.below {b : Nat} {H : List Value} {pre : List (List S36)} {W W1 : World} (h : RwI b H pre W) (hb : Below W.heap.size W W1) : RwI b H pre W1 := h.move fun k _ hk _ => hb.block k hk
theorem RwI.setLow {b : Nat} {H : List Value} {pre : List (List S36)} {W : World} (h : RwI b H pre W) {g : Nat} (hg : g < b) (j : Nat) (u : Value) : RwI b H pre (W.setCell ⟨g, j, none⟩ u) := h.move fun k hk _ _ => Below.heap_setCell W ⟨g, j, none⟩ u k (by show k ≠ g; omega)
theorem RwI.setOther {b : Nat} {H : List Value} {pre : List (List S36)} {W : World} (h : RwI b H pre W) {g t : Nat} {cells : Array Value} (hg : W.heap[g]? = some (.cells cells t (0, 0))) (ht : t ≠ 36) (j : Nat) (u : Value) : RwI b H pre (W.setCell ⟨g, j, none⟩ u) := h.move fun k _ _ hc => Below.heap_setCell W ⟨g, j, none⟩ u k (fun e : k = g => by
  obtain ⟨cs, hc⟩ := hc
  subst e
  rw [hc] at hg
  injection hg with e1
  injection e1 with _ e2
  exact ht e2.symm)
/-- The header at a place is put anew. -/
theorem hd_put {W : World} {base gO n c : Nat} {H : List Value} (h : Kd.R (Kd.raw 1) 22 W base (fun _ => True) (.slice (some ⟨gO, 0, none⟩) n c) (hd1 H)) (j : Nat) (hj : j < n) (u : Value) (hu : u.oneCell' = true) : Kd.R (Kd.raw 1) 22 (W.setCell ⟨gO, j, none⟩ u) base (fun _ => True) (.slice (some ⟨gO, 0, none⟩) n c) (hd1 (H.set j u)) := by
  obtain ⟨ce, hcl, hMe, hcc, hfr⟩ := Kd.R_elem h [] (j : Int) (by omega) (by omega)
  have hce : ce.length = 1 := hcl
  obtain ⟨x, rfl⟩ : ∃ x, ce = [x] := by
    match ce, hce with
    | [x], _ => exact ⟨x, rfl⟩
  have hP := (Kd.R_seg h (j : Int) (by omega) (by omega) (seg := [u]) (j := 0) hcl hcc (show 1 ≤ 1 from Nat.le_refl _) (x' := [u]) (okp := fun k => True ∧ k ≠ gO) (show Kd.M (Kd.raw 1) W base _ [u] [u] from ⟨rfl, rfl, fun y hy => by rw [List.mem_singleton.mp hy]; exact hu⟩) (fun _ hk => hk)).1
  simp only [show (Kd.raw 1).sz = 1 from rfl, Nat.mul_one, Nat.add_zero, Int.toNat_natCast] at hP
  rw [hd1_set] at hP
  exact hP
theorem hd_far {W : World} {base gO n c : Nat} {H : List Value} (h : Kd.R (Kd.raw 1) 22 W base (fun _ => True) (.slice (some ⟨gO, 0, none⟩) n c) (hd1 H)) {g : Nat} (hne : gO ≠ g) (j : Nat) (u : Value) : Kd.R (Kd.raw 1) 22 (W.setCell ⟨g, j, none⟩ u) base (fun _ => True) (.slice (some ⟨gO, 0, none⟩) n c) (hd1 H) :=
  Kd.R_mono (Kd.R_far (p := ⟨g, j, none⟩) (Kd.R_tight rfl h) (fun k hk => by
    have e : k = gO := Option.some.inj hk
    subst e
    exact hne) u) (fun _ _ => trivial)
/-- A digest of an own row is put anew. -/
theorem dg_put {W : World} {base g n c : Nat} {ok : Nat → Prop} {l : List S36} (h : Kd.R k36 36 W base ok (.slice (some ⟨g, 0, none⟩) n c) l) (i : Nat) (hi : i < n) (d : S36) : Kd.R k36 36 ((W.setCell ⟨g, i * 2, none⟩ (.int .u64 d.f0)).setCell ⟨g, i * 2 + 1, none⟩ (.int .u64 d.f1)) base ok (.slice (some ⟨g, 0, none⟩) n c) (l.set i d) := by
  obtain ⟨ce, hcl, hMe, hcc, hfr⟩ := Kd.R_elem h z36 (i : Int) (by omega) (by omega)
  obtain rfl := k36_openM hMe
  have hP := (Kd.R_seg h (i : Int) (by omega) (by omega) (seg := [.int .u64 d.f0, .int .u64 d.f1]) (j := 0) hcl hcc (show 2 ≤ 2 from by decide) (x' := d) (k36_mkM _ _ _ d) (fun _ hk => hk)).1
  simp only [show (k36).sz = 2 from rfl, Nat.mul_one, Nat.add_zero, Int.toNat_natCast] at hP
  exact hP
/-- A new row comes behind the own rows. -/
theorem RwI.snoc {b : Nat} {H : List Value} {pre : List (List S36)} {W : World} {u : Value} {l : List S36} {N : Nat} (h : RwI b H pre W) (hr : Kd.R k36 36 W N (fun _ => True) u l) (hN : b ≤ N) (hold : ∀ j v k, j < pre.length → H[j]? = some v → v.ownBlock = some k → k < N) (hl : pre.length < H.length) : RwI b (H.set pre.length u) (pre ++ [l]) W := by
  have hun : ∀ k, u.ownBlock = some k → N ≤ k := Kd.R_base hr
  have get : ∀ j v, j < (pre ++ [l]).length → (H.set pre.length u)[j]? = some v → (j < pre.length ∧ H[j]? = some v) ∨ (j = pre.length ∧ v = u) := by
    intro j v hj hv
    rw [List.getElem?_set] at hv
    split at hv
    · rename_i e
      subst e
      (try rw [if_pos hl] at hv)
      exact Or.inr ⟨rfl, (Option.some.inj hv).symm⟩
    · rename_i e
      rw [List.length_append, List.length_singleton] at hj
      exact Or.inl ⟨by omega, hv⟩
  refine ⟨fun j m hm => ?_, fun j j' v v' k hj hj' hv hv' hk hk' => ?_⟩
  · have hlt := (List.getElem?_eq_some_iff.mp hm).1
    rw [List.length_append, List.length_singleton] at hlt
    by_cases hj : j < pre.length
    · rw [List.getElem?_append_left hj] at hm
      obtain ⟨v, hv, hr0⟩ := h.row j m hm
      exact ⟨v, by rw [List.getElem?_set, if_neg (by omega)]; exact hv, hr0⟩
    · obtain rfl : j = pre.length := by omega
      rw [List.getElem?_append_right (Nat.le_refl _), Nat.sub_self] at hm
      obtain rfl := Option.some.inj hm
      exact ⟨u, by rw [List.getElem?_set, if_pos rfl, if_pos hl], Kd.R_lower (Kd.R_tight rfl hr) hN⟩
  · rcases get j v hj hv with ⟨h1, h2⟩ | ⟨h1, rfl⟩
    · rcases get j' v' hj' hv' with ⟨h3, h4⟩ | ⟨h3, rfl⟩
      · exact h.ne j j' v v' k h1 h3 h2 h4 hk hk'
      · have := hold j v k h1 h2 hk
        have := hun k hk'
        omega
    · rcases get j' v' hj' hv' with ⟨h3, h4⟩ | ⟨h3, rfl⟩
      · have := hold j' v' k h3 h4 hk'
        have := hun k hk
        omega
      · rw [h1, h3]
theorem RwI.old {b : Nat} {H : List Value} {pre : List (List S36)} {W : World} (h : RwI b H pre W) (j : Nat) (v : Value) (k : Nat) (hj : j < pre.length) (hv : H[j]? = some v) (hk : v.ownBlock = some k) : b ≤ k ∧ k < W.heap.size := by
  obtain ⟨u, hu, hr⟩ := h.row j _ (List.getElem?_eq_getElem hj)
  rw [hv] at hu
  obtain rfl := Option.some.inj hu
  exact ⟨Kd.R_base hr k hk, Kd.R_lt hr k hk⟩
/-- The last row is written into. -/
theorem RwI.put {b g n c : Nat} {H : List Value} {pre : List (List S36)} {l : List S36} {W : World} (h : RwI b H (pre ++ [l]) W) (hg : H[pre.length]? = some (.slice (some ⟨g, 0, none⟩) n c)) (i : Nat) (hi : i < n) (d : S36) : RwI b H (pre ++ [l.set i d]) ((W.setCell ⟨g, i * 2, none⟩ (.int .u64 d.f0)).setCell ⟨g, i * 2 + 1, none⟩ (.int .u64 d.f1)) := by
  refine ⟨fun j m hm => ?_, fun j j' v v' k hj hj' => h.ne j j' v v' k (by simpa using hj) (by simpa using hj')⟩
  have hlt := (List.getElem?_eq_some_iff.mp hm).1
  rw [List.length_append, List.length_singleton] at hlt
  by_cases hj : j < pre.length
  · rw [List.getElem?_append_left hj] at hm
    obtain ⟨v, hv, hr0⟩ := h.row j m (by rw [List.getElem?_append_left hj]; exact hm)
    have hne : ∀ k, some k = v.ownBlock → k ≠ g := fun k hk e => by
      subst e
      have := h.ne j pre.length v _ k (by simp; omega) (by simp) hv hg hk.symm rfl
      omega
    exact ⟨v, hv, Kd.R_far (p := ⟨g, _, none⟩) (Kd.R_far (p := ⟨g, _, none⟩) hr0 hne _) hne _⟩
  · obtain rfl : j = pre.length := by omega
    rw [List.getElem?_append_right (Nat.le_refl _), Nat.sub_self] at hm
    obtain rfl := Option.some.inj hm
    obtain ⟨v, hv, hr0⟩ := h.row pre.length l (by rw [List.getElem?_append_right (Nat.le_refl _), Nat.sub_self]; rfl)
    rw [hg] at hv
    obtain rfl := Option.some.inj hv
    exact ⟨_, hg, dg_put hr0 i hi d⟩
/-- Rows of rows out of their headers. -/
theorem S_rows {W : World} {base : Nat} {v : Value} {H : List Value} {xs : List (List S36)} (h : Kd.R (Kd.raw 1) 22 W base (fun _ => True) v (hd1 H)) (hl : H.length = xs.length) (hr : RwI base H xs W) : Kd.S (Kd.slice 36 k36) 22 W base (fun _ => True) v xs := by
  have hf : ∀ k : Nat, ∃ j : Nat, ∀ j' u, j' < xs.length → H[j']? = some u → u.ownBlock = some k → j = j' := by
    intro k
    by_cases hx : ∃ (j : Nat) (u : Value), j < xs.length ∧ H[j]? = some u ∧ u.ownBlock = some k
    · obtain ⟨j, u, h1, h2, h3⟩ := hx
      exact ⟨j, fun j' u' g1 g2 g3 => hr.ne j j' u u' k h1 g1 h2 g2 h3 g3⟩
    · exact ⟨0, fun j' u' g1 g2 g3 => absurd ⟨j', u', g1, g2, g3⟩ hx⟩
  obtain ⟨F, hF⟩ := Classical.axiomOfChoice hf
  have hty := Kd.R_typed h
  obtain ⟨_, inner, ho, hi⟩ := h
  refine ⟨F, fun _ _ => trivial, inner, ?_, ?_, fun j p hp => ?_⟩
  · rw [List.length_zipIdx, ← hl, ← hd1_len]; exact ho
  · have := hi.1
    rw [hd1_len, hl] at this
    rw [List.length_zipIdx]
    exact this
  · rw [List.getElem?_zipIdx, Nat.zero_add] at hp
    obtain ⟨l, hj, rfl⟩ := Option.map_eq_some_iff.1 hp
    obtain ⟨u, hu, hru⟩ := hr.row j l hj
    have hM := hi.2 j [u] (hd1_get hu)
    refine ⟨u, hM.1, Kd.R_mono hru fun k hk => ⟨⟨trivial, fun e => ?_⟩, hF k j u (List.getElem?_eq_some_iff.mp hj).1 hu hk.symm⟩⟩
    obtain ⟨c1, h1⟩ := hty k e.symm
    obtain ⟨c2, h2⟩ := Kd.R_typed hru k hk.symm
    rw [h1] at h2
    injection h2 with e1
    injection e1 with _ e2
    exact absurd e2 (by decide)
end Go.Proofs.YtpnpmeogffodgaaDoor.Q
end
