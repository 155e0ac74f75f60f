/- Several texts in one, in build order. What they prove, each by its own first remark:
tree.Replace by hand: what it computes, and its contract.
Written by our own copy of a printing program (a twelfth state) out of the translation. Not trusted: Lean checks it.
Of PPathsT what this claim needs.
For all arguments attestorlaw07.TreePaths returns true and leaves them as they were, where the package-level variables hold what the program's text lays (the card ties that): no other condition. -/
import Derived.Test.YtpnpmeogffodgaaDoorM2
import Derived.Test.YtpnpmeogffodgaaDoorM4
import Derived.Test.YtpnpmeogffodgaaDoorM5
import Derived.Test.YtpnpmeogffodgaaDoorM3
import Derived.Test.YtpnpmeogffodgaaDoorCards
import Derived.Test.YtpnpmeogffodgaaDoorTie
import Derived.SevenTiedAt
import Derived.SizedLaws
import Derived.ShutString
import Derived.ChangeOld
import Derived.ProofKit
import Derived.Below
import Derived.OpenShut
section
namespace Go.Proofs.YtpnpmeogffodgaaDoor.Q
open Go.RowKit Go.Proofs.YtpnpmeogffodgaaDoorW.PrintWords Go.Proofs.YtpnpmeogffodgaaDoorW.PrintLast Go.Proofs.YtpnpmeogffodgaaDoorW.PrintMore
set_option linter.unusedVariables false
set_option linter.unusedSimpArgs false
/-- The leaf of a level: the one that came in, or the node of the pair below. -/
def leafL (f : Int) : Option (List S36) → Nat → S36 → Option S36
  | none, _, d => some d
  | some p, i, _ => if 2 * i + 1 < p.length then (sponge_Node.f 200 f (p.getD (2 * i) z36).f0 (p.getD (2 * i) z36).f1 (p.getD (2 * i + 1) z36).f0 (p.getD (2 * i + 1) z36).f1).bind fun n => some ⟨n.1, n.2⟩ else none
/-- The levels with another leaf. -/
def replL (f : Int) : Option (List S36) → List (List S36) → Nat → S36 → Option (List (List S36))
  | _, [], _, _ => some []
  | p, row :: rest, i, d => (leafL f p i d).bind fun x => if i < row.length ∧ row.length ≤ 1048576 then (replL f (some (row.set i x)) rest (i / 2) x).bind fun r => some (row.set i x :: r) else none
def tree_Replace.f (k : Nat) (af ag ah : Int) (ab : List (List S36)) (a1 d0 d1 : Int) : Option (Int × Int × Int × List (List S36) × Int) :=
  (tree_place.f k af ag ah ab a1).bind fun e => if e = 0 then ((tree_proper.f af [⟨d0, d1⟩]).bind fun p => if p = true then (if 0 ≤ a1 ∧ 0 < ab.length ∧ ab.length ≤ 1000 then (replL af none ab a1.toNat ⟨d0, d1⟩).bind fun r => some (af, ag, ah, r, 0) else none) else some (0, 0, 0, [], 2)) else some (0, 0, 0, [], e)
theorem tree_Replace.mono : ∀ a0 a1 a2 a3 a4 a5 a6 k, LeO (tree_Replace.f k a0 a1 a2 a3 a4 a5 a6) (tree_Replace.f (k + 1) a0 a1 a2 a3 a4 a5 a6) := by
  intro a0 a1 a2 a3 a4 a5 a6 k r h
  unfold tree_Replace.f at h ⊢
  obtain ⟨e, he, h⟩ := Option.bind_eq_some_iff.mp h
  rw [tree_place.mono _ _ _ _ _ _ _ he, Option.bind_some]
  exact h
theorem R_low {α : Type} {d : Kd α} {e b : Nat} {ok : Nat → Prop} {W : World} {v : Value} {xs : List α} (h : d.R e W b ok v xs) {g : Nat} (hg : g < b) (j : Nat) (u : Value) : d.R e (W.setCell ⟨g, j, none⟩ u) b ok v xs :=
  Kd.R_mono (Kd.R_step (Kd.R_bound h) (fun k hk _ => Below.heap_setCell W ⟨g, j, none⟩ u k (by have := hk.2.1; show k ≠ g; omega))) (fun _ hk => hk.1)
theorem rowsC (A : Option Addr) (c n : Nat) (H : List Value) (hn : H.length = n) (w : World) (hr : Kd.C (Kd.raw 1) w A n (hd1 H)) (hc : n ≤ c) (h1 : n ≤ 1000) : Calls Tryd.prog 53 #[.slice A n c] w fun e w' => ∃ bm : Value, e = .returned bm ∧ Kd.R (Kd.raw 1) 22 w' w.heap.size (fun _ => True) bm (hd1 H) ∧ Below w.heap.size w w' := by
  obtain rfl : (hd1 H).length = n := by rw [hd1_len]; exact hn
  refine rows_Clone.calls A c (hd1 H) (hd1 H) w hr hc ?_
  unfold rows_Clone.f
  rw [Option.bind_some, if_pos (by rw [List.length_nil]; omega)]
  rfl
set_option maxHeartbeats 4000000 in
set_option maxRecDepth 100000 in
theorem replace_place (k : Nat) (af ag ah : Int) (ai : Option Addr) (ak : Nat) (ab : List (List S36)) (a1 d0 d1 : Int) (w : World) (aw : Kd.C (Kd.slice 36 k36) w ai ab.length ab) (ax : ab.length ≤ ak) (hrG : GL w) (e : Int) (h1 : tree_place.f k af ag ah ab a1 = some e) (he : e ≠ 0) : Calls Tryd.prog 32 #[.agg #[.int .i64 af, .int .i64 ag, .int .i64 ah, .slice ai ab.length ak], .int .i64 a1, .agg #[.int .u64 d0, .int .u64 d1]] w fun e' w' => e' = .returned (.tuple #[.agg #[.int .i64 0, .int .i64 0, .int .i64 0, .slice none 0 0], .int .i64 e]) ∧ Below w.heap.size w w' := by
  have hu26 := Tryd.underlying26
  have hu36 := Tryd.underlying36
  have hu24 := Tryd.underlying24
  have hu22 := Tryd.underlying22
  obtain ⟨w0, aC⟩ : ∃ w0, w0 = w := ⟨_, rfl⟩
  generalize hSS : (fun _ : Nat => False) = S
  have HS : Aside0 (Stp w0 w S w) := ⟨by rw [aC]; exact Below.refl _ _, Kept.refl _ _⟩
  have HW := aj aC
  have a8 : Aside0 (Kd.C (Kd.slice 36 k36) w0 ai ab.length ab) := ⟨by rw [aC]; exact aw⟩
  have a9 := aj ax
  have HRG : Aside0 (GL w0) := ⟨by rw [aC]; exact hrG⟩
  clear hSS aC aw ax hrG
  have ba := aj h1
  clear h1
  have he0 : (e != 0) = true := bne_iff_ne.mpr he
  clear he
  go_enter Tryd.func32, Tryd.ntmps32
  go_wp2_with (first
    | ((with_reducible refine gate_dst (N := 3) rfl ?_); refine box_event ?hg (N := 3) ?hd (cs := #[.int .i64 af, .int .i64 ag, .int .i64 ah, .slice ai ab.length ak]) (t := 26) ?hr ?_; (case hd => rfl); (case hg => rfl); (case hr => first | (go_simp; done) | (go_simp; rfl)); intro g3 xg w1 y_ hb; skip; have bi := aj (stp_new HS.out xg); replace HS := aj (show Stp w0 w S w1 from stp_below HS.out hb); have aa := aj y_; clear xg y_ hb; skip)
    | ((with_reducible refine gate_dst (N := 5) rfl ?_); refine box_event ?hg (N := 5) ?hd (cs := #[.int .u64 d0, .int .u64 d1]) (t := 36) ?hr ?_; (case hd => rfl); (case hg => rfl); (case hr => first | (go_simp; done) | (go_simp; rfl)); intro g5 xg w2 y_ hb; skip; have aB := aj (new_ne aa.out xg); have aV := aj aB.out.symm; have bd := aj (stp_new HS.out xg); replace aa := aj (show w2.heap[g3]? = some (.cells #[.int .i64 af, .int .i64 ag, .int .i64 ah, .slice ai ab.length ak] 26 (0, 0)) from blk_below aa.out hb); replace HS := aj (show Stp w0 w S w2 from stp_below HS.out hb); have ac := aj y_; clear xg y_ hb; skip)
    | ((with_reducible refine gate_dst (N := 6) rfl ?_); refine box_event ?hg (N := 6) ?hd (cs := #[.int .i64 0, .int .i64 0, .int .i64 0, .slice none 0 0]) (t := 26) ?hr ?_; (case hd => rfl); (case hg => rfl); (case hr => first | (go_simp; done) | (go_simp; rfl)); intro g6 xg w3 y_ hb; skip; have ay := aj (new_ne aa.out xg); have aW := aj ay.out.symm; have az := aj (new_ne ac.out xg); have aS := aj az.out.symm; have aA := aj (stp_new HS.out xg); replace aa := aj (show w3.heap[g3]? = some (.cells #[.int .i64 af, .int .i64 ag, .int .i64 ah, .slice ai ab.length ak] 26 (0, 0)) from blk_below aa.out hb); replace ac := aj (show w3.heap[g5]? = some (.cells #[.int .u64 d0, .int .u64 d1] 36 (0, 0)) from blk_below ac.out hb); replace HS := aj (show Stp w0 w S w3 from stp_below HS.out hb); have ae := aj y_; clear xg y_ hb; have am := bq_ aa 0; have ao := blk_frozen aa.out 0; have ap := bq_ aa 1; have aq := blk_frozen aa.out 1; have ar := bq_ aa 2; have au := blk_frozen aa.out 2; have al := bq_ aa 3; have av := blk_frozen aa.out 3)
    | (go_at_call 46; (with_reducible refine (tree_place.calls k af ag ah _ _ ab a1 e _ (Kd.C_below a8.out (stp_b HS.out)) a9.out (GL.below HRG.out (stp_b HS.out)) ba.out).mono ?_); rintro e w4 ⟨rfl, hb⟩; clear am ao ap aq ar au al av; replace aa := aj (show w4.heap[g3]? = some (.cells #[.int .i64 af, .int .i64 ag, .int .i64 ah, .slice ai ab.length ak] 26 (0, 0)) from blk_below aa.out hb); replace ac := aj (show w4.heap[g5]? = some (.cells #[.int .u64 d0, .int .u64 d1] 36 (0, 0)) from blk_below ac.out hb); replace ae := aj (show w4.heap[g6]? = some (.cells #[.int .i64 0, .int .i64 0, .int .i64 0, .slice none 0 0] 26 (0, 0)) from blk_below ae.out hb); replace HS := aj (show Stp w0 w S w4 from stp_below HS.out hb); have aG := bq_ ae 0; have aH := blk_frozen ae.out 0; have aI := bq_ ae 1; have aJ := blk_frozen ae.out 1; have aK := bq_ ae 2; have aL := blk_frozen ae.out 2; have aM := bq_ ae 3; have aN := blk_frozen ae.out 3)
    | ((with_reducible refine gate_store (t := 26) (p := 6) rfl ?_); refine store_event (t := 26) (p := 6) (v := .tmp 16) (w1 := ((((w4.setCell ⟨g6, 0, none⟩ (.int .i64 0)).setCell ⟨g6, 1, none⟩ (.int .i64 0)).setCell ⟨g6, 2, none⟩ (.int .i64 0)).setCell ⟨g6, 3, none⟩ (.slice none 0 0))) ?hg ?ho ?hn ?hr ?_; (case ho => rfl); (case hg => rfl); (case hn => rfl); (case hr => first | (go_simp; done) | (go_simp; rfl)); intro w5 hw; clear aG aH aI aJ aK aL aM aN; replace aa := aj (show w5.heap[g3]? = some (.cells #[.int .i64 af, .int .i64 ag, .int .i64 ah, .slice ai ab.length ak] 26 (0, 0)) from (by rw [hw]; (repeat (refine blk_far ?_ ay.out _)); exact aa.out)); replace ac := aj (show w5.heap[g5]? = some (.cells #[.int .u64 d0, .int .u64 d1] 36 (0, 0)) from (by rw [hw]; (repeat (refine blk_far ?_ az.out _)); exact ac.out)); replace ae := aj (show w5.heap[g6]? = some (.cells #[.int .i64 0, .int .i64 0, .int .i64 0, .slice none 0 0] 26 (0, 0)) from (by rw [hw]; exact (blk_put (cs := #[.int .i64 0, .int .i64 0, .int .i64 0, .slice none 0 0]) (blk_put (cs := #[.int .i64 0, .int .i64 0, .int .i64 0, .slice none 0 0]) (blk_put (cs := #[.int .i64 0, .int .i64 0, .int .i64 0, .slice none 0 0]) (blk_put (cs := #[.int .i64 0, .int .i64 0, .int .i64 0, .slice none 0 0]) ae.out 0 (.int .i64 0) rfl) 1 (.int .i64 0) rfl) 2 (.int .i64 0) rfl) 3 (.slice none 0 0) rfl))); replace HS := aj (show Stp w0 w S w5 from (by rw [hw]; exact (stp_set (stp_set (stp_set (stp_set HS.out aA.out 0 (.int .i64 0)) aA.out 1 (.int .i64 0)) aA.out 2 (.int .i64 0)) aA.out 3 (.slice none 0 0)))); skip))
  refine bodyPost_ret (results_list (rs := [.cell 6 26, .tmp 7]) rfl (by simp) (.cell g6 26 #[.int .i64 0, .int .i64 0, .int .i64 0, .slice none 0 0] (0, 0) _ rfl ae.out Tryd.underlying26 rfl (by kernel_rfl) (.tmp .nil))) rfl ?_
  obtain rfl := HW.out
  exact ⟨rfl, stp_b HS.out⟩
set_option maxHeartbeats 4000000 in
set_option maxRecDepth 100000 in
theorem replace_prop (k : Nat) (af ag ah : Int) (ai : Option Addr) (ak : Nat) (ab : List (List S36)) (a1 d0 d1 : Int) (w : World) (aw : Kd.C (Kd.slice 36 k36) w ai ab.length ab) (ax : ab.length ≤ ak) (hrG : GL w) (h1 : tree_place.f k af ag ah ab a1 = some 0) (h2 : tree_proper.f af [⟨d0, d1⟩] = some false) : Calls Tryd.prog 32 #[.agg #[.int .i64 af, .int .i64 ag, .int .i64 ah, .slice ai ab.length ak], .int .i64 a1, .agg #[.int .u64 d0, .int .u64 d1]] w fun e' w' => e' = .returned (.tuple #[.agg #[.int .i64 0, .int .i64 0, .int .i64 0, .slice none 0 0], .int .i64 2]) ∧ Below w.heap.size w w' := by
  have hu26 := Tryd.underlying26
  have hu36 := Tryd.underlying36
  have hu24 := Tryd.underlying24
  have hu22 := Tryd.underlying22
  obtain ⟨w0, aC⟩ : ∃ w0, w0 = w := ⟨_, rfl⟩
  generalize hSS : (fun _ : Nat => False) = S
  have HS : Aside0 (Stp w0 w S w) := ⟨by rw [aC]; exact Below.refl _ _, Kept.refl _ _⟩
  have HW := aj aC
  have a8 : Aside0 (Kd.C (Kd.slice 36 k36) w0 ai ab.length ab) := ⟨by rw [aC]; exact aw⟩
  have a9 := aj ax
  have HRG : Aside0 (GL w0) := ⟨by rw [aC]; exact hrG⟩
  clear hSS aC aw ax hrG
  have ba := aj h1
  clear h1
  obtain ⟨yy, hyy⟩ : ∃ yy, yy = [(⟨d0, d1⟩ : S36)] := ⟨_, rfl⟩
  have HYY := aj hyy
  rw [← hyy] at h2
  have bj := aj h2
  clear h2 hyy
  go_enter Tryd.func32, Tryd.ntmps32
  go_wp2_with (first
    | ((with_reducible refine gate_dst (N := 3) rfl ?_); refine box_event ?hg (N := 3) ?hd (cs := #[.int .i64 af, .int .i64 ag, .int .i64 ah, .slice ai ab.length ak]) (t := 26) ?hr ?_; (case hd => rfl); (case hg => rfl); (case hr => first | (go_simp; done) | (go_simp; rfl)); intro g3 xg w1 y_ hb; skip; have bi := aj (stp_new HS.out xg); replace HS := aj (show Stp w0 w S w1 from stp_below HS.out hb); have aa := aj y_; clear xg y_ hb; skip)
    | ((with_reducible refine gate_dst (N := 5) rfl ?_); refine box_event ?hg (N := 5) ?hd (cs := #[.int .u64 d0, .int .u64 d1]) (t := 36) ?hr ?_; (case hd => rfl); (case hg => rfl); (case hr => first | (go_simp; done) | (go_simp; rfl)); intro g5 xg w2 y_ hb; skip; have aB := aj (new_ne aa.out xg); have aV := aj aB.out.symm; have bd := aj (stp_new HS.out xg); replace aa := aj (show w2.heap[g3]? = some (.cells #[.int .i64 af, .int .i64 ag, .int .i64 ah, .slice ai ab.length ak] 26 (0, 0)) from blk_below aa.out hb); replace HS := aj (show Stp w0 w S w2 from stp_below HS.out hb); have ac := aj y_; clear xg y_ hb; skip)
    | ((with_reducible refine gate_dst (N := 6) rfl ?_); refine box_event ?hg (N := 6) ?hd (cs := #[.int .i64 0, .int .i64 0, .int .i64 0, .slice none 0 0]) (t := 26) ?hr ?_; (case hd => rfl); (case hg => rfl); (case hr => first | (go_simp; done) | (go_simp; rfl)); intro g6 xg w3 y_ hb; skip; have ay := aj (new_ne aa.out xg); have aW := aj ay.out.symm; have az := aj (new_ne ac.out xg); have aS := aj az.out.symm; have aA := aj (stp_new HS.out xg); replace aa := aj (show w3.heap[g3]? = some (.cells #[.int .i64 af, .int .i64 ag, .int .i64 ah, .slice ai ab.length ak] 26 (0, 0)) from blk_below aa.out hb); replace ac := aj (show w3.heap[g5]? = some (.cells #[.int .u64 d0, .int .u64 d1] 36 (0, 0)) from blk_below ac.out hb); replace HS := aj (show Stp w0 w S w3 from stp_below HS.out hb); have ae := aj y_; clear xg y_ hb; have am := bq_ aa 0; have ao := blk_frozen aa.out 0; have ap := bq_ aa 1; have aq := blk_frozen aa.out 1; have ar := bq_ aa 2; have au := blk_frozen aa.out 2; have al := bq_ aa 3; have av := blk_frozen aa.out 3)
    | (go_at_call 46; (with_reducible refine (tree_place.calls k af ag ah _ _ ab a1 0 _ (Kd.C_below a8.out (stp_b HS.out)) a9.out (GL.below HRG.out (stp_b HS.out)) ba.out).mono ?_); rintro e w4 ⟨rfl, hb⟩; clear am ao ap aq ar au al av; replace aa := aj (show w4.heap[g3]? = some (.cells #[.int .i64 af, .int .i64 ag, .int .i64 ah, .slice ai ab.length ak] 26 (0, 0)) from blk_below aa.out hb); replace ac := aj (show w4.heap[g5]? = some (.cells #[.int .u64 d0, .int .u64 d1] 36 (0, 0)) from blk_below ac.out hb); replace ae := aj (show w4.heap[g6]? = some (.cells #[.int .i64 0, .int .i64 0, .int .i64 0, .slice none 0 0] 26 (0, 0)) from blk_below ae.out hb); replace HS := aj (show Stp w0 w S w4 from stp_below HS.out hb); have am := bq_ aa 0; have ao := blk_frozen aa.out 0; have ap := bq_ aa 1; have aq := blk_frozen aa.out 1; have ar := bq_ aa 2; have au := blk_frozen aa.out 2; have al := bq_ aa 3; have av := blk_frozen aa.out 3; have aO := bq_ ac 0; have aP := blk_frozen ac.out 0; have aQ := bq_ ac 1; have aR := blk_frozen ac.out 1)
    | ((with_reducible refine gate_dst (N := 21) rfl ?_); refine Kd.R_lit k36 _ 36 ?hg (N := 21) ?hd (xs := [(⟨d0, d1⟩ : S36)]) (inner := [.int .u64 d0, .int .u64 d1]) (ok := fun _ => True) (okp := fun _ => True) ?hr ?hp (fun _ hk => hk) trivial (Below.refl _ _) (Nat.le_refl _) (by simp) ?_; (case hd => rfl); (case hg => rfl); (case hr => first | (go_simp; done) | (go_simp; rfl)); (case hp => exact (Reps.c2 (show Kd.M k36 _ _ _ (⟨d0, d1⟩ : S36) [.int .u64 d0, .int .u64 d1] from (k36_mkM _ _ _ (⟨d0, d1⟩ : S36))) (Reps.none _ _))); intro bv w5 ho hb hg_ hnew_; clear hg_ hnew_; clear am ao ap aq ar au al av aO aP aQ aR; replace aa := aj (show w5.heap[g3]? = some (.cells #[.int .i64 af, .int .i64 ag, .int .i64 ah, .slice ai ab.length ak] 26 (0, 0)) from blk_below aa.out hb); replace ac := aj (show w5.heap[g5]? = some (.cells #[.int .u64 d0, .int .u64 d1] 36 (0, 0)) from blk_below ac.out hb); replace ae := aj (show w5.heap[g6]? = some (.cells #[.int .i64 0, .int .i64 0, .int .i64 0, .slice none 0 0] 26 (0, 0)) from blk_below ae.out hb); replace HS := aj (show Stp w0 w S w5 from stp_below HS.out hb); rw [← HYY.out] at ho; obtain ⟨Al, cl, el⟩ := Kd.R_slice ho; subst el; have HLt := aj ho)
    | (go_at_call 39; (with_reducible refine (tree_proper.calls af _ _ yy false _ (Kd.R_reads' HLt.out).2.2 (Kd.R_reads' HLt.out).2.1 (GL.below HRG.out (stp_b HS.out)) bj.out).mono ?_); rintro e w6 ⟨rfl, hb⟩; skip; replace aa := aj (show w6.heap[g3]? = some (.cells #[.int .i64 af, .int .i64 ag, .int .i64 ah, .slice ai ab.length ak] 26 (0, 0)) from blk_below aa.out hb); replace ac := aj (show w6.heap[g5]? = some (.cells #[.int .u64 d0, .int .u64 d1] 36 (0, 0)) from blk_below ac.out hb); replace ae := aj (show w6.heap[g6]? = some (.cells #[.int .i64 0, .int .i64 0, .int .i64 0, .slice none 0 0] 26 (0, 0)) from blk_below ae.out hb); replace HS := aj (show Stp w0 w S w6 from stp_below HS.out hb); have aG := bq_ ae 0; have aH := blk_frozen ae.out 0; have aI := bq_ ae 1; have aJ := blk_frozen ae.out 1; have aK := bq_ ae 2; have aL := blk_frozen ae.out 2; have aM := bq_ ae 3; have aN := blk_frozen ae.out 3)
    | ((with_reducible refine gate_store (t := 26) (p := 6) rfl ?_); refine store_event (t := 26) (p := 6) (v := .tmp 24) (w1 := ((((w6.setCell ⟨g6, 0, none⟩ (.int .i64 0)).setCell ⟨g6, 1, none⟩ (.int .i64 0)).setCell ⟨g6, 2, none⟩ (.int .i64 0)).setCell ⟨g6, 3, none⟩ (.slice none 0 0))) ?hg ?ho ?hn ?hr ?_; (case ho => rfl); (case hg => rfl); (case hn => rfl); (case hr => first | (go_simp; done) | (go_simp; rfl)); intro w7 hw; clear aG aH aI aJ aK aL aM aN; replace aa := aj (show w7.heap[g3]? = some (.cells #[.int .i64 af, .int .i64 ag, .int .i64 ah, .slice ai ab.length ak] 26 (0, 0)) from (by rw [hw]; (repeat (refine blk_far ?_ ay.out _)); exact aa.out)); replace ac := aj (show w7.heap[g5]? = some (.cells #[.int .u64 d0, .int .u64 d1] 36 (0, 0)) from (by rw [hw]; (repeat (refine blk_far ?_ az.out _)); exact ac.out)); replace ae := aj (show w7.heap[g6]? = some (.cells #[.int .i64 0, .int .i64 0, .int .i64 0, .slice none 0 0] 26 (0, 0)) from (by rw [hw]; exact (blk_put (cs := #[.int .i64 0, .int .i64 0, .int .i64 0, .slice none 0 0]) (blk_put (cs := #[.int .i64 0, .int .i64 0, .int .i64 0, .slice none 0 0]) (blk_put (cs := #[.int .i64 0, .int .i64 0, .int .i64 0, .slice none 0 0]) (blk_put (cs := #[.int .i64 0, .int .i64 0, .int .i64 0, .slice none 0 0]) ae.out 0 (.int .i64 0) rfl) 1 (.int .i64 0) rfl) 2 (.int .i64 0) rfl) 3 (.slice none 0 0) rfl))); replace HS := aj (show Stp w0 w S w7 from (by rw [hw]; exact (stp_set (stp_set (stp_set (stp_set HS.out aA.out 0 (.int .i64 0)) aA.out 1 (.int .i64 0)) aA.out 2 (.int .i64 0)) aA.out 3 (.slice none 0 0)))); skip))
  refine bodyPost_ret (results_list (rs := [.cell 6 26, .tmp 7]) rfl (by simp) (.cell g6 26 #[.int .i64 0, .int .i64 0, .int .i64 0, .slice none 0 0] (0, 0) _ rfl ae.out Tryd.underlying26 rfl (by kernel_rfl) (.tmp .nil))) rfl ?_
  obtain rfl := HW.out
  exact ⟨rfl, stp_b HS.out⟩
set_option maxHeartbeats 16000000 in
set_option maxRecDepth 100000 in
theorem replace_go (k : Nat) (af ag ah : Int) (ai : Option Addr) (ak : Nat) (ab : List (List S36)) (a1 d0 d1 : Int) (w : World) (aw : Kd.C (Kd.slice 36 k36) w ai ab.length ab) (ax : ab.length ≤ ak) (hrG : GL w) (h1 : tree_place.f k af ag ah ab a1 = some 0) (h2 : tree_proper.f af [⟨d0, d1⟩] = some true) (bn : 0 ≤ a1) (hn0 : 0 < ab.length) (hn1 : ab.length ≤ 1000) (R : List (List S36)) (h : replL af none ab a1.toNat ⟨d0, d1⟩ = some R) :
    Calls Tryd.prog 32 #[.agg #[.int .i64 af, .int .i64 ag, .int .i64 ah, .slice ai ab.length ak], .int .i64 a1, .agg #[.int .u64 d0, .int .u64 d1]] w fun e w' => ∃ aX : Value, e = .returned (.tuple #[.agg #[.int .i64 af, .int .i64 ag, .int .i64 ah, aX], .int .i64 0]) ∧ Kd.S (Kd.slice 36 k36) 22 w' w.heap.size (fun _ => True) aX R ∧ Below w.heap.size w w' := by
  have hu26 := Tryd.underlying26
  have hu36 := Tryd.underlying36
  have hu24 := Tryd.underlying24
  have hu22 := Tryd.underlying22
  obtain ⟨w0, aC⟩ : ∃ w0, w0 = w := ⟨_, rfl⟩
  generalize hSS : (fun _ : Nat => False) = S
  have HS : Aside0 (Stp w0 w S w) := ⟨by rw [aC]; exact Below.refl _ _, Kept.refl _ _⟩
  have HW := aj aC
  have a8 : Aside0 (Kd.C (Kd.slice 36 k36) w0 ai ab.length ab) := ⟨by rw [aC]; exact aw⟩
  have a9 := aj ax
  have HRG : Aside0 (GL w0) := ⟨by rw [aC]; exact hrG⟩
  clear hSS aC aw ax hrG
  have ba := aj h1
  obtain ⟨yy, hyy⟩ : ∃ yy, yy = [(⟨d0, d1⟩ : S36)] := ⟨_, rfl⟩
  have HYY := aj hyy
  rw [← hyy] at h2
  have bj := aj h2
  clear hyy
  have H' := aj h
  obtain ⟨H0, hH0, hCH, hrow⟩ := C_hdrs a8.out
  have HCH := aj hCH
  have HROW := aj hrow
  have HN : Aside0 (ab.length ≤ 1000 ∧ H0.length = ab.length ∧ 0 < (hd1 H0).length) := ⟨hn1, hH0, by rw [hd1_len, hH0]; exact hn0⟩
  have HI0 := aj bn
  clear h1 h2 h bn hn0 hn1 hH0 hCH hrow
  go_enter Tryd.func32, Tryd.ntmps32
  go_wp2_with (first
    | ((with_reducible refine gate_dst (N := 3) rfl ?_); refine box_event ?hg (N := 3) ?hd (cs := #[.int .i64 af, .int .i64 ag, .int .i64 ah, .slice ai ab.length ak]) (t := 26) ?hr ?_; (case hd => rfl); (case hg => rfl); (case hr => first | (go_simp; done) | (go_simp; rfl)); intro g3 xg w1 y_ hb; skip; have bi := aj (stp_new HS.out xg); replace HS := aj (show Stp w0 w S w1 from stp_below HS.out hb); have aa := aj y_; clear xg y_ hb; skip)
    | ((with_reducible refine gate_dst (N := 5) rfl ?_); refine box_event ?hg (N := 5) ?hd (cs := #[.int .u64 d0, .int .u64 d1]) (t := 36) ?hr ?_; (case hd => rfl); (case hg => rfl); (case hr => first | (go_simp; done) | (go_simp; rfl)); intro g5 xg w2 y_ hb; skip; have aB := aj (new_ne aa.out xg); have aV := aj aB.out.symm; have bd := aj (stp_new HS.out xg); replace aa := aj (show w2.heap[g3]? = some (.cells #[.int .i64 af, .int .i64 ag, .int .i64 ah, .slice ai ab.length ak] 26 (0, 0)) from blk_below aa.out hb); replace HS := aj (show Stp w0 w S w2 from stp_below HS.out hb); have ac := aj y_; clear xg y_ hb; skip)
    | ((with_reducible refine gate_dst (N := 6) rfl ?_); refine box_event ?hg (N := 6) ?hd (cs := #[.int .i64 0, .int .i64 0, .int .i64 0, .slice none 0 0]) (t := 26) ?hr ?_; (case hd => rfl); (case hg => rfl); (case hr => first | (go_simp; done) | (go_simp; rfl)); intro g6 xg w3 y_ hb; skip; have ay := aj (new_ne aa.out xg); have aW := aj ay.out.symm; have az := aj (new_ne ac.out xg); have aS := aj az.out.symm; have aA := aj (stp_new HS.out xg); replace aa := aj (show w3.heap[g3]? = some (.cells #[.int .i64 af, .int .i64 ag, .int .i64 ah, .slice ai ab.length ak] 26 (0, 0)) from blk_below aa.out hb); replace ac := aj (show w3.heap[g5]? = some (.cells #[.int .u64 d0, .int .u64 d1] 36 (0, 0)) from blk_below ac.out hb); replace HS := aj (show Stp w0 w S w3 from stp_below HS.out hb); have ae := aj y_; clear xg y_ hb; have am := bq_ aa 0; have ao := blk_frozen aa.out 0; have ap := bq_ aa 1; have aq := blk_frozen aa.out 1; have ar := bq_ aa 2; have au := blk_frozen aa.out 2; have al := bq_ aa 3; have av := blk_frozen aa.out 3)
    | (go_at_call 46; (with_reducible refine (tree_place.calls k af ag ah _ _ ab a1 0 _ (Kd.C_below a8.out (stp_b HS.out)) a9.out (GL.below HRG.out (stp_b HS.out)) ba.out).mono ?_); rintro e w4 ⟨rfl, hb⟩; clear am ao ap aq ar au al av; replace aa := aj (show w4.heap[g3]? = some (.cells #[.int .i64 af, .int .i64 ag, .int .i64 ah, .slice ai ab.length ak] 26 (0, 0)) from blk_below aa.out hb); replace ac := aj (show w4.heap[g5]? = some (.cells #[.int .u64 d0, .int .u64 d1] 36 (0, 0)) from blk_below ac.out hb); replace ae := aj (show w4.heap[g6]? = some (.cells #[.int .i64 0, .int .i64 0, .int .i64 0, .slice none 0 0] 26 (0, 0)) from blk_below ae.out hb); replace HS := aj (show Stp w0 w S w4 from stp_below HS.out hb); have am := bq_ aa 0; have ao := blk_frozen aa.out 0; have ap := bq_ aa 1; have aq := blk_frozen aa.out 1; have ar := bq_ aa 2; have au := blk_frozen aa.out 2; have al := bq_ aa 3; have av := blk_frozen aa.out 3; have aO := bq_ ac 0; have aP := blk_frozen ac.out 0; have aQ := bq_ ac 1; have aR := blk_frozen ac.out 1)
    | ((with_reducible refine gate_dst (N := 21) rfl ?_); refine Kd.R_lit k36 _ 36 ?hg (N := 21) ?hd (xs := [(⟨d0, d1⟩ : S36)]) (inner := [.int .u64 d0, .int .u64 d1]) (ok := fun _ => True) (okp := fun _ => True) ?hr ?hp (fun _ hk => hk) trivial (Below.refl _ _) (Nat.le_refl _) (by simp) ?_; (case hd => rfl); (case hg => rfl); (case hr => first | (go_simp; done) | (go_simp; rfl)); (case hp => exact (Reps.c2 (show Kd.M k36 _ _ _ (⟨d0, d1⟩ : S36) [.int .u64 d0, .int .u64 d1] from (k36_mkM _ _ _ (⟨d0, d1⟩ : S36))) (Reps.none _ _))); intro bv w5 ho hb hg_ hnew_; clear hg_ hnew_; clear am ao ap aq ar au al av aO aP aQ aR; replace aa := aj (show w5.heap[g3]? = some (.cells #[.int .i64 af, .int .i64 ag, .int .i64 ah, .slice ai ab.length ak] 26 (0, 0)) from blk_below aa.out hb); replace ac := aj (show w5.heap[g5]? = some (.cells #[.int .u64 d0, .int .u64 d1] 36 (0, 0)) from blk_below ac.out hb); replace ae := aj (show w5.heap[g6]? = some (.cells #[.int .i64 0, .int .i64 0, .int .i64 0, .slice none 0 0] 26 (0, 0)) from blk_below ae.out hb); replace HS := aj (show Stp w0 w S w5 from stp_below HS.out hb); rw [← HYY.out] at ho; obtain ⟨Al, cl, el⟩ := Kd.R_slice ho; subst el; have HLt := aj ho)
    | (go_at_call 39; (with_reducible refine (tree_proper.calls af _ _ yy true _ (Kd.R_reads' HLt.out).2.2 (Kd.R_reads' HLt.out).2.1 (GL.below HRG.out (stp_b HS.out)) bj.out).mono ?_); rintro e w6 ⟨rfl, hb⟩; skip; replace aa := aj (show w6.heap[g3]? = some (.cells #[.int .i64 af, .int .i64 ag, .int .i64 ah, .slice ai ab.length ak] 26 (0, 0)) from blk_below aa.out hb); replace ac := aj (show w6.heap[g5]? = some (.cells #[.int .u64 d0, .int .u64 d1] 36 (0, 0)) from blk_below ac.out hb); replace ae := aj (show w6.heap[g6]? = some (.cells #[.int .i64 0, .int .i64 0, .int .i64 0, .slice none 0 0] 26 (0, 0)) from blk_below ae.out hb); replace HS := aj (show Stp w0 w S w6 from stp_below HS.out hb); have am := bq_ aa 0; have ao := blk_frozen aa.out 0; have ap := bq_ aa 1; have aq := blk_frozen aa.out 1; have ar := bq_ aa 2; have au := blk_frozen aa.out 2; have al := bq_ aa 3; have av := blk_frozen aa.out 3)
    | (go_at_call 53; (with_reducible refine (rowsC ai ak ab.length H0 HN.out.2.1 _ (Kd.C_below HCH.out (stp_b HS.out)) a9.out HN.out.1).mono ?_); rintro e w7 ⟨bF, rfl, ho, hb⟩; have HOUT := aj ho; clear am ao ap aq ar au al av; have HB0 := aj (⟨(stp_b HS.out).size, blk_lt aa.out, blk_lt ac.out, blk_lt ae.out⟩ : w0.heap.size ≤ w6.heap.size ∧ g3 < w6.heap.size ∧ g5 < w6.heap.size ∧ g6 < w6.heap.size); replace aa := aj (show w7.heap[g3]? = some (.cells #[.int .i64 af, .int .i64 ag, .int .i64 ah, .slice ai ab.length ak] 26 (0, 0)) from blk_below aa.out hb); replace ac := aj (show w7.heap[g5]? = some (.cells #[.int .u64 d0, .int .u64 d1] 36 (0, 0)) from blk_below ac.out hb); replace ae := aj (show w7.heap[g6]? = some (.cells #[.int .i64 0, .int .i64 0, .int .i64 0, .slice none 0 0] 26 (0, 0)) from blk_below ae.out hb); replace HS := aj (show Stp w0 w S w7 from stp_below HS.out hb); obtain ⟨gO, cO, eO, _, _, _, _⟩ := Kd.R_form HOUT.out HN.out.2.2; rw [hd1_len, HN.out.2.1] at eO; subst eO; have am := bq_ aa 0; have ao := blk_frozen aa.out 0; have ap := bq_ aa 1; have aq := blk_frozen aa.out 1; have ar := bq_ aa 2; have au := blk_frozen aa.out 2; have al := bq_ aa 3; have av := blk_frozen aa.out 3)
    | ((with_reducible refine gate_store (t := 24) (p := 28) rfl ?_); refine store_event (t := 24) (p := 28) (v := .tmp 27) (w1 := (w7.setCell ⟨g3, 3, none⟩ (.slice (some ⟨gO, 0, none⟩) ab.length cO))) ?hg ?ho ?hn ?hr ?_; (case ho => rfl); (case hg => rfl); (case hn => rfl); (case hr => first | (go_simp; done) | (go_simp; rfl)); intro w8 hw; clear am ao ap aq ar au al av; replace aa := aj (show w8.heap[g3]? = some (.cells #[.int .i64 af, .int .i64 ag, .int .i64 ah, .slice (some ⟨gO, 0, none⟩) ab.length cO] 26 (0, 0)) from (by rw [hw]; exact (blk_put (cs := #[.int .i64 af, .int .i64 ag, .int .i64 ah, .slice ai ab.length ak]) aa.out 3 (.slice (some ⟨gO, 0, none⟩) ab.length cO) rfl))); replace ac := aj (show w8.heap[g5]? = some (.cells #[.int .u64 d0, .int .u64 d1] 36 (0, 0)) from (by rw [hw]; exact blk_far ac.out aV.out _)); replace ae := aj (show w8.heap[g6]? = some (.cells #[.int .i64 0, .int .i64 0, .int .i64 0, .slice none 0 0] 26 (0, 0)) from (by rw [hw]; exact blk_far ae.out aW.out _)); replace HS := aj (show Stp w0 w S w8 from (by rw [hw]; exact stp_set HS.out bi.out 3 (.slice (some ⟨gO, 0, none⟩) ab.length cO))); replace HOUT := aj (show Kd.R (Kd.raw 1) 22 w8 w6.heap.size (fun _ => True) (.slice (some ⟨gO, 0, none⟩) ab.length cO) (hd1 H0) from (by rw [hw]; exact R_low HOUT.out HB0.out.2.1 _ _)); clear hw; have am := bq_ aa 0; have ao := blk_frozen aa.out 0; have ap := bq_ aa 1; have aq := blk_frozen aa.out 1; have ar := bq_ aa 2; have au := blk_frozen aa.out 2; have al := bq_ aa 3; have av := blk_frozen aa.out 3))
  have HRW0 : Aside0 (RwI w6.heap.size H0 [] w8) := ⟨⟨fun j l hl => by simp at hl, fun j j' u u' k hj => by simp at hj⟩⟩
  have HNO : Aside0 (w6.heap.size ≤ gO ∧ g3 ≠ gO ∧ g5 ≠ gO ∧ g6 ≠ gO ∧ (w0.heap.size ≤ gO ∧ (S gO ∨ w.heap.size ≤ gO))) := ⟨by
    have h1 := Kd.R_base HOUT.out gO rfl
    have h2 := HB0.out
    have h3 : w.heap.size = w0.heap.size := by rw [HW.out]
    exact ⟨h1, by omega, by omega, by omega, by omega, Or.inr (by omega)⟩⟩
  go_loopg [1, 9, 10, 32] (ab.length + 1) (fun kq v1 v9 bG bw w' => ∃ (j i : Nat) (H : List Value) (pre : List (List S36)) (d : S36) (r : List (List S36)), v1 = .int .i64 (i : Int) ∧ bw = .int .i64 (j : Int) ∧ Aside0 (replL af pre.getLast? (ab.drop j) i d = some r) ∧ Aside0 (pre.length = j ∧ R = pre ++ r) ∧ Aside0 (kq + j = ab.length + 1 ∧ j ≤ ab.length) ∧ Aside0 (w'.heap[g3]? = some (.cells #[.int .i64 af, .int .i64 ag, .int .i64 ah, .slice (some ⟨gO, 0, none⟩) ab.length cO] 26 (0, 0))) ∧ Aside0 (w'.heap[g5]? = some (.cells #[.int .u64 d.f0, .int .u64 d.f1] 36 (0, 0))) ∧ Aside0 (w'.heap[g6]? = some (.cells #[.int .i64 0, .int .i64 0, .int .i64 0, .slice none 0 0] 26 (0, 0))) ∧ Aside0 (Kd.R (Kd.raw 1) 22 w' w6.heap.size (fun _ => True) (.slice (some ⟨gO, 0, none⟩) ab.length cO) (hd1 H)) ∧ Aside0 (H.length = ab.length ∧ ∀ j', j ≤ j' → H[j']? = H0[j']?) ∧ Aside0 (RwI w6.heap.size H pre w') ∧ Aside0 (Stp w0 w S w'))
  case atStart => exact ⟨0, a1.toNat, H0, [], ⟨d0, d1⟩, R, by rw [Int.toNat_of_nonneg HI0.out], rfl, H', ⟨⟨rfl, rfl⟩⟩, ⟨⟨rfl, Nat.zero_le _⟩⟩, aa, ac, ae, HOUT, ⟨⟨HN.out.2.1, fun _ _ => rfl⟩⟩, HRW0, HS⟩
  case round =>
    clear H' HS ba bj HOUT HRW0 aa ac ae
    obtain ⟨j, i, H, pre, d, r, rfl, rfl, HA, HP, HK, aa, ac, ae, HOUT, HH, RWS, HS⟩ := hrel
    by_cases c3 : j < ab.length
    · obtain ⟨k1, rfl⟩ : ∃ k1, gk = k1 + 1 := ⟨gk - 1, by have := HK.out.1; omega⟩
      obtain ⟨row, hrj⟩ : ∃ row, ab[j]? = some row := ⟨_, List.getElem?_eq_getElem c3⟩
      have hdr : ab.drop j = row :: ab.drop (j + 1) := by
        rw [List.drop_eq_getElem_cons c3]
        rw [List.getElem?_eq_getElem c3] at hrj
        rw [Option.some.inj hrj]
      have aD := HA.out
      clear HA
      rw [hdr] at aD
      simp only [replL] at aD
      obtain ⟨x, hx, aD⟩ := Option.bind_eq_some_iff.mp aD
      by_cases hq : i < row.length ∧ row.length ≤ 1048576
      · rw [if_pos hq] at aD
        obtain ⟨r2, bo, aD⟩ := Option.bind_eq_some_iff.mp aD
        obtain rfl := Option.some.inj aD
        have HX := aj hx
        have H' := aj bo
        obtain ⟨A1, c1, hH0j, bp, bq⟩ := HROW.out j row hrj
        have hHj : H[j]? = some (.slice A1 row.length c1) := (HH.out.2 j (Nat.le_refl _)).trans hH0j
        have HHJ := aj hHj
        have br := aj bq
        have HCL := aj bp
        have HQ := aj hq
        have bs := hd_cell HOUT.out j _ hHj
        have HJ := aj c3
        have c3b : decide (j < ab.length) = true := decide_eq_true c3
        have p2 : (0 ≤ (j : Int)) = True := eq_true (by omega)
        have q2 : ((j : Int) < (ab.length : Int)) = True := eq_true (by omega)
        have q2n : (j < ab.length) = True := eq_true c3
        have hadd : wrap64 ((j : Int) + 1) = ((j + 1 : Nat) : Int) := by have := HN.out.1; unfold wrap64; omega
        clear aD hx bo hH0j bp bq hHj hdr hrj hq c3
        go_upto_region 10 with (fail)
        refine start_ (n := 11) (S := fun w' => w'.cell? ⟨g3, 3, none⟩ = some (.slice (some ⟨gO, 0, none⟩) ab.length cO) ∧ w'.cell? ⟨gO, j, none⟩ = some (.slice A1 row.length c1)) (ds := [10]) #[false, false, false, false, false, false, false, false, false, false, false] (by kernel_rfl) rfl rfl ⟨(blk_cell aa.out 3).trans rfl, bs⟩ (fun hHeld => ?_)
        replace aa := aj (show wr.drew.heap[g3]? = some (.cells #[.int .i64 af, .int .i64 ag, .int .i64 ah, .slice (some ⟨gO, 0, none⟩) ab.length cO] 26 (0, 0)) from aa.out)
        replace ac := aj (show wr.drew.heap[g5]? = some (.cells #[.int .u64 d.f0, .int .u64 d.f1] 36 (0, 0)) from ac.out)
        replace ae := aj (show wr.drew.heap[g6]? = some (.cells #[.int .i64 0, .int .i64 0, .int .i64 0, .slice none 0 0] 26 (0, 0)) from ae.out)
        replace HOUT := aj (show Kd.R (Kd.raw 1) 22 wr.drew w6.heap.size (fun _ => True) (.slice (some ⟨gO, 0, none⟩) ab.length cO) (hd1 H) from Kd.R_drew HOUT.out)
        replace RWS := aj (show RwI w6.heap.size H (pre) wr.drew from RWS.out.below (Below.refl _ _).drew)
        replace HS := aj (show Stp w0 w S wr.drew from stp_drew HS.out)
        generalize wr.drew = w7 at aa ac ae HOUT RWS HS hHeld ⊢
        clear bs
        refine pure_ (i := 0) (N := some 35) (v := ?_) (a' := ?_) #[true, false, false, false, false, false, false, false, false, false, false] rfl rfl (by kernel_rfl) (fun _ _ _ h => h) (Or.inl ⟨by rfl, ?_⟩) ?_ ?_
        rotate_left
        · intro w'
          go_simp
          with_reducible rfl
        rotate_left
        · simp only [Act.put, List.setIfInBounds_toArray, List.set_cons_zero, List.set_cons_succ, i64_w, i32_w]
          rfl
        refine take_ (i := 1) (N := some 36) (v := ?_) (a' := ?_) #[true, true, false, false, false, false, false, false, false, false, false] rfl rfl (by kernel_rfl) (fun _ _ _ h => h) (Or.inl ⟨by rfl, ?_⟩) hHeld ?_ ?_
        rotate_left
        · rintro w' ⟨s0, s1⟩
          go_simp
          with_reducible rfl
        rotate_left
        · simp only [Act.put, List.setIfInBounds_toArray, List.set_cons_zero, List.set_cons_succ, i64_w, i32_w]
          rfl
        refine pure_ (i := 2) (N := some 37) (v := ?_) (a' := ?_) #[true, true, true, false, false, false, false, false, false, false, false] rfl rfl (by kernel_rfl) (fun _ _ _ h => h) (Or.inl ⟨by rfl, ?_⟩) ?_ ?_
        rotate_left
        · intro w'
          go_simp
          with_reducible rfl
        rotate_left
        · simp only [Act.put, List.setIfInBounds_toArray, List.set_cons_zero, List.set_cons_succ, i64_w, i32_w]
          rfl
        refine pure_ (i := 3) (N := some 38) (v := ?_) (a' := ?_) #[true, true, true, true, false, false, false, false, false, false, false] rfl rfl (by kernel_rfl) (fun _ _ _ h => h) (Or.inl ⟨by rfl, ?_⟩) ?_ ?_
        rotate_left
        · intro w'
          go_simp
          with_reducible rfl
        rotate_left
        · simp only [Act.put, List.setIfInBounds_toArray, List.set_cons_zero, List.set_cons_succ, i64_w, i32_w]
          rfl
        refine take_ (i := 4) (N := some 39) (v := ?_) (a' := ?_) #[true, true, true, true, true, false, false, false, false, false, false] rfl rfl (by kernel_rfl) (fun _ _ _ h => h) (Or.inl ⟨by rfl, ?_⟩) hHeld ?_ ?_
        rotate_left
        · rintro w' ⟨s0, s1⟩
          go_simp
          with_reducible rfl
        rotate_left
        · simp only [Act.put, List.setIfInBounds_toArray, List.set_cons_zero, List.set_cons_succ, i64_w, i32_w]
          rfl
        refine pure_ (i := 5) (N := some 40) (v := ?_) (a' := ?_) #[true, true, true, true, true, true, false, false, false, false, false] rfl rfl (by kernel_rfl) (fun _ _ _ h => h) (Or.inl ⟨by rfl, ?_⟩) ?_ ?_
        rotate_left
        · intro w'
          go_simp
          with_reducible rfl
        rotate_left
        · simp only [Act.put, List.setIfInBounds_toArray, List.set_cons_zero, List.set_cons_succ, i64_w, i32_w]
          rfl
        refine pure_ (i := 6) (N := some 41) (v := ?_) (a' := ?_) #[true, true, true, true, true, true, true, false, false, false, false] rfl rfl (by kernel_rfl) (fun _ _ _ h => h) (Or.inl ⟨by rfl, ?_⟩) ?_ ?_
        rotate_left
        · intro w'
          go_simp
          with_reducible rfl
        rotate_left
        · simp only [Act.put, List.setIfInBounds_toArray, List.set_cons_zero, List.set_cons_succ, i64_w, i32_w]
          rfl
        refine take_ (i := 7) (N := some 42) (v := ?_) (a' := ?_) #[true, true, true, true, true, true, true, true, false, false, false] rfl rfl (by kernel_rfl) (fun _ _ _ h => h) (Or.inl ⟨by rfl, ?_⟩) hHeld ?_ ?_
        rotate_left
        · rintro w' ⟨s0, s1⟩
          go_simp
          with_reducible rfl
        rotate_left
        · simp only [Act.put, List.setIfInBounds_toArray, List.set_cons_zero, List.set_cons_succ, i64_w, i32_w]
          rfl
        refine one_ (i := 8) (N := some 43) #[true, true, true, true, true, true, true, true, true, false, false] rfl rfl (by kernel_rfl) (by decide) (fun K hK => ?_)
        refine goes_ Tryd.func45 (by kernel_rfl) rfl #[.slice A1 row.length c1] (by rfl) rfl rfl (by (try simp only [List.map_toArray, List.map_cons, List.map_nil]); first | done | rfl | (go_simp; done)) ?_
        with_reducible refine (slices_Clone.calls A1 c1 row row _ (Kd.C_below br.out (stp_b HS.out)) HCL.out (clone_f row HQ.out.2)).mono ?_
        rintro e aE ⟨v0, rfl, ho, hb⟩
        refine ⟨_, rfl, ?_⟩
        have HBW := aj (Nat.le_trans HNO.out.1 (Nat.le_of_lt (Kd.R_lt HOUT.out gO rfl)))
        have HOLD := aj (fun j' v k h1 h2 h3 => (RwI.old RWS.out j' v k h1 h2 h3).2)
        replace aa := aj (show aE.heap[g3]? = some (.cells #[.int .i64 af, .int .i64 ag, .int .i64 ah, .slice (some ⟨gO, 0, none⟩) ab.length cO] 26 (0, 0)) from blk_below aa.out hb)
        replace ac := aj (show aE.heap[g5]? = some (.cells #[.int .u64 d.f0, .int .u64 d.f1] 36 (0, 0)) from blk_below ac.out hb)
        replace ae := aj (show aE.heap[g6]? = some (.cells #[.int .i64 0, .int .i64 0, .int .i64 0, .slice none 0 0] 26 (0, 0)) from blk_below ae.out hb)
        replace HOUT := aj (show Kd.R (Kd.raw 1) 22 aE w6.heap.size (fun _ => True) (.slice (some ⟨gO, 0, none⟩) ab.length cO) (hd1 H) from Kd.R_below HOUT.out hb)
        replace RWS := aj (show RwI w6.heap.size H (pre) aE from RWS.out.below hb)
        replace HS := aj (show Stp w0 w S aE from stp_below HS.out hb)
        obtain ⟨gN, cN, eN, hgb, hgl, cellsN, hcN⟩ := Kd.R_form ho (by have := HQ.out.1; omega)
        subst eN
        have HNR := aj ho
        clear ho hgb hgl hcN
        refine hK.out _ _ ⟨pw_cell_below hb hHeld.1, pw_cell_below hb hHeld.2⟩ (fun hHeld => ?_)
        clear hK K hb
        refine norm_ (a' := ?_) ?_ ?_
        rotate_left
        · show Act.put _ (some 43) _ = _
          simp only [Act.put, List.setIfInBounds_toArray, List.set_cons_zero, List.set_cons_succ, i64_w, i32_w]
          rfl
        refine pure_ (i := 9) (N := some 44) (v := ?_) (a' := ?_) #[true, true, true, true, true, true, true, true, true, true, false] rfl rfl (by kernel_rfl) (fun _ _ _ h => h) (Or.inl ⟨by rfl, ?_⟩) ?_ ?_
        rotate_left
        · intro w'
          go_simp
          with_reducible rfl
        rotate_left
        · simp only [Act.put, List.setIfInBounds_toArray, List.set_cons_zero, List.set_cons_succ, i64_w, i32_w]
          rfl
        refine last_ (i := 10) (N := none) #[true, true, true, true, true, true, true, true, true, true, true] rfl rfl (by kernel_rfl) (by decide) (fun K hK => ?_)
        have hz0 := hHeld.2
        obtain ⟨cellsO, hcO⟩ := Kd.R_typed HOUT.out gO rfl
        have hf0 := blk_frozen hcO j
        refine skip_ (w1 := ?_) (by rfl) rfl ?_ ?_
        rotate_left
        · go_simp
          rfl
        have HS1 := aj (show RwI w6.heap.size (H.set j (.slice (some ⟨gN, 0, none⟩) row.length cN)) (pre ++ [row]) aE from (by have e_ := RwI.snoc RWS.out HNR.out HBW.out HOLD.out (by have := HP.out.1; have := HH.out.1; have := HJ.out; omega); rw [HP.out.1] at e_; exact e_))
        have HGN := aj (Nat.le_trans HBW.out (Kd.R_base HNR.out gN rfl))
        replace aa := aj (show (aE.setCell ⟨gO, j, none⟩ (.slice (some ⟨gN, 0, none⟩) row.length cN)).heap[g3]? = some (.cells #[.int .i64 af, .int .i64 ag, .int .i64 ah, .slice (some ⟨gO, 0, none⟩) ab.length cO] 26 (0, 0)) from blk_far aa.out HNO.out.2.1 _)
        replace ac := aj (show (aE.setCell ⟨gO, j, none⟩ (.slice (some ⟨gN, 0, none⟩) row.length cN)).heap[g5]? = some (.cells #[.int .u64 d.f0, .int .u64 d.f1] 36 (0, 0)) from blk_far ac.out HNO.out.2.2.1 _)
        replace ae := aj (show (aE.setCell ⟨gO, j, none⟩ (.slice (some ⟨gN, 0, none⟩) row.length cN)).heap[g6]? = some (.cells #[.int .i64 0, .int .i64 0, .int .i64 0, .slice none 0 0] 26 (0, 0)) from blk_far ae.out HNO.out.2.2.2.1 _)
        replace HOUT := aj (show Kd.R (Kd.raw 1) 22 (aE.setCell ⟨gO, j, none⟩ (.slice (some ⟨gN, 0, none⟩) row.length cN)) w6.heap.size (fun _ => True) (.slice (some ⟨gO, 0, none⟩) ab.length cO) (hd1 (H.set j (.slice (some ⟨gN, 0, none⟩) row.length cN))) from hd_put HOUT.out j HJ.out _ rfl)
        replace RWS := aj (show RwI w6.heap.size (H.set j (.slice (some ⟨gN, 0, none⟩) row.length cN)) ((pre ++ [row])) (aE.setCell ⟨gO, j, none⟩ (.slice (some ⟨gN, 0, none⟩) row.length cN)) from HS1.out.setOther hcO (by decide) j _)
        replace HS := aj (show Stp w0 w S (aE.setCell ⟨gO, j, none⟩ (.slice (some ⟨gN, 0, none⟩) row.length cN)) from stp_set HS.out HNO.out.2.2.2.2 j _)
        refine hK.out _ _ ?_
        clear hK K hz0 hf0 hcO hHeld HS1 HOLD
        generalize (aE.setCell ⟨gO, j, none⟩ (.slice (some ⟨gN, 0, none⟩) row.length cN)) = w9 at aa ac ae HOUT RWS HS ⊢
        refine done_ (by kernel_rfl) ?_
        have HHN := aj (show (H.set j (.slice (some ⟨gN, 0, none⟩) row.length cN))[j]? = some (.slice (some ⟨gN, 0, none⟩) row.length cN) from (by rw [List.getElem?_set_self (by have := HH.out.1; have := HJ.out; omega)]))
        have HH1 := aj (show (H.set j (.slice (some ⟨gN, 0, none⟩) row.length cN)).length = ab.length ∧ ∀ j', j + 1 ≤ j' → (H.set j (.slice (some ⟨gN, 0, none⟩) row.length cN))[j']? = H0[j']? from ⟨by rw [List.length_set]; exact HH.out.1, fun j' h => by rw [List.getElem?_set, if_neg (by omega)]; exact HH.out.2 j' (by omega)⟩)
        generalize H.set j (.slice (some ⟨gN, 0, none⟩) row.length cN) = H1 at HOUT RWS HHN HH1
        clear HH HHJ br HCL HNR
        have pi_ : (0 ≤ (i : Int)) = True := eq_true (by omega)
        have qi_ : ((i : Int) < (row.length : Int)) = True := eq_true (by have := HQ.out.1; omega)
        have qin_ : (i < row.length) = True := eq_true HQ.out.1
        rcases Nat.eq_zero_or_pos j with hj0 | hj0
        · have bx : decide (0 < j) = false := decide_eq_false (by omega)
          have bz : decide (0 < (j : Int)) = false := decide_eq_false (by omega)
          have bA : (0 < j) = False := eq_false (by omega)
          have hxd : x = d := by
            have h_ := HX.out
            rw [List.eq_nil_of_length_eq_zero (HP.out.1.trans hj0)] at h_
            exact (Option.some.inj h_).symm
          replace ac := aj (show w9.heap[g5]? = some (.cells #[.int .u64 x.f0, .int .u64 x.f1] 36 (0, 0)) from by rw [hxd]; exact ac.out)
          clear hxd hj0
          go_upto_region 14 with (fail)
          refine start_ (n := 9) (S := fun w' => w'.cell? ⟨g3, 3, none⟩ = some (.slice (some ⟨gO, 0, none⟩) ab.length cO) ∧ w'.cell? ⟨gO, j, none⟩ = some (.slice (some ⟨gN, 0, none⟩) row.length cN) ∧ w'.cell? ⟨g5, 0, none⟩ = some (.int .u64 x.f0) ∧ w'.cell? ⟨g5, 1, none⟩ = some (.int .u64 x.f1)) (ds := [8]) #[false, false, false, false, false, false, false, false, false] (by kernel_rfl) rfl rfl ⟨(blk_cell aa.out 3).trans rfl, hd_cell HOUT.out j _ HHN.out, (blk_cell ac.out 0).trans rfl, (blk_cell ac.out 1).trans rfl⟩ (fun hHeld => ?_)
          replace aa := aj (show w9.drew.heap[g3]? = some (.cells #[.int .i64 af, .int .i64 ag, .int .i64 ah, .slice (some ⟨gO, 0, none⟩) ab.length cO] 26 (0, 0)) from aa.out)
          replace ac := aj (show w9.drew.heap[g5]? = some (.cells #[.int .u64 x.f0, .int .u64 x.f1] 36 (0, 0)) from ac.out)
          replace ae := aj (show w9.drew.heap[g6]? = some (.cells #[.int .i64 0, .int .i64 0, .int .i64 0, .slice none 0 0] 26 (0, 0)) from ae.out)
          replace HOUT := aj (show Kd.R (Kd.raw 1) 22 w9.drew w6.heap.size (fun _ => True) (.slice (some ⟨gO, 0, none⟩) ab.length cO) (hd1 H1) from Kd.R_drew HOUT.out)
          replace RWS := aj (show RwI w6.heap.size H1 ((pre ++ [row])) w9.drew from RWS.out.below (Below.refl _ _).drew)
          replace HS := aj (show Stp w0 w S w9.drew from stp_drew HS.out)
          generalize w9.drew = aY at aa ac ae HOUT RWS HS hHeld ⊢
          refine pure_ (i := 0) (N := some 67) (v := ?_) (a' := ?_) #[true, false, false, false, false, false, false, false, false] rfl rfl (by kernel_rfl) (fun _ _ _ h => h) (Or.inl ⟨by rfl, ?_⟩) ?_ ?_
          rotate_left
          · intro w'
            go_simp
            with_reducible rfl
          rotate_left
          · simp only [Act.put, List.setIfInBounds_toArray, List.set_cons_zero, List.set_cons_succ, i64_w, i32_w]
            rfl
          refine take_ (i := 1) (N := some 68) (v := ?_) (a' := ?_) #[true, true, false, false, false, false, false, false, false] rfl rfl (by kernel_rfl) (fun _ _ _ h => h) (Or.inl ⟨by rfl, ?_⟩) hHeld ?_ ?_
          rotate_left
          · rintro w' ⟨s0, s1, s2, s3⟩
            go_simp
            with_reducible rfl
          rotate_left
          · simp only [Act.put, List.setIfInBounds_toArray, List.set_cons_zero, List.set_cons_succ, i64_w, i32_w]
            rfl
          refine pure_ (i := 2) (N := some 69) (v := ?_) (a' := ?_) #[true, true, true, false, false, false, false, false, false] rfl rfl (by kernel_rfl) (fun _ _ _ h => h) (Or.inl ⟨by rfl, ?_⟩) ?_ ?_
          rotate_left
          · intro w'
            go_simp
            with_reducible rfl
          rotate_left
          · simp only [Act.put, List.setIfInBounds_toArray, List.set_cons_zero, List.set_cons_succ, i64_w, i32_w]
            rfl
          refine pure_ (i := 3) (N := some 70) (v := ?_) (a' := ?_) #[true, true, true, true, false, false, false, false, false] rfl rfl (by kernel_rfl) (fun _ _ _ h => h) (Or.inl ⟨by rfl, ?_⟩) ?_ ?_
          rotate_left
          · intro w'
            go_simp
            with_reducible rfl
          rotate_left
          · simp only [Act.put, List.setIfInBounds_toArray, List.set_cons_zero, List.set_cons_succ, i64_w, i32_w]
            rfl
          refine take_ (i := 4) (N := some 71) (v := ?_) (a' := ?_) #[true, true, true, true, true, false, false, false, false] rfl rfl (by kernel_rfl) (fun _ _ _ h => h) (Or.inl ⟨by rfl, ?_⟩) hHeld ?_ ?_
          rotate_left
          · rintro w' ⟨s0, s1, s2, s3⟩
            go_simp
            with_reducible rfl
          rotate_left
          · simp only [Act.put, List.setIfInBounds_toArray, List.set_cons_zero, List.set_cons_succ, i64_w, i32_w]
            rfl
          refine pure_ (i := 5) (N := some 72) (v := ?_) (a' := ?_) #[true, true, true, true, true, true, false, false, false] rfl rfl (by kernel_rfl) (fun _ _ _ h => h) (Or.inl ⟨by rfl, ?_⟩) ?_ ?_
          rotate_left
          · intro w'
            go_simp
            with_reducible rfl
          rotate_left
          · simp only [Act.put, List.setIfInBounds_toArray, List.set_cons_zero, List.set_cons_succ, i64_w, i32_w]
            rfl
          refine take_ (i := 6) (N := some 73) (v := ?_) (a' := ?_) #[true, true, true, true, true, true, true, false, false] rfl rfl (by kernel_rfl) (fun _ _ _ h => h) (Or.inl ⟨by rfl, ?_⟩) hHeld ?_ ?_
          rotate_left
          · rintro w' ⟨s0, s1, s2, s3⟩
            go_simp
            with_reducible rfl
          rotate_left
          · simp only [Act.put, List.setIfInBounds_toArray, List.set_cons_zero, List.set_cons_succ, i64_w, i32_w]
            rfl
          refine pure_ (i := 7) (N := some 74) (v := ?_) (a' := ?_) #[true, true, true, true, true, true, true, true, false] rfl rfl (by kernel_rfl) (fun _ _ _ h => h) (Or.inl ⟨by rfl, ?_⟩) ?_ ?_
          rotate_left
          · intro w'
            go_simp
            with_reducible rfl
          rotate_left
          · simp only [Act.put, List.setIfInBounds_toArray, List.set_cons_zero, List.set_cons_succ, i64_w, i32_w]
            rfl
          refine last_ (i := 8) (N := none) #[true, true, true, true, true, true, true, true, true] rfl rfl (by kernel_rfl) (by decide) (fun K hK => ?_)
          obtain ⟨uN, hu1, hu2⟩ := RWS.out.row j row (by rw [← HP.out.1, List.getElem?_append_right (Nat.le_refl _), Nat.sub_self]; rfl)
          rw [HHN.out] at hu1
          obtain rfl := Option.some.inj hu1
          obtain ⟨ce, hcl, hMe, hcc, hfr⟩ := Kd.R_elem hu2 z36 (i : Int) (by omega) (by have := HQ.out.1; omega)
          obtain rfl := k36_openM hMe
          have hz0 := hcc 0 _ rfl
          have hz1 := hcc 1 _ rfl
          have hf0 := hfr 0
          have hf1 := hfr 1
          simp only [show (k36).sz = 2 from rfl, Nat.mul_one, Nat.add_zero, Int.toNat_natCast] at hz0 hz1 hf0 hf1
          have ep := add_plain gN (i * 2)
          refine skip_ (w1 := ?_) (by rfl) rfl ?_ ?_
          rotate_left
          · go_simp
            rfl
          have hgN := HGN.out
          have hb0 := HB0.out
          have hn3 : g3 ≠ gN := by omega
          have hn5 : g5 ≠ gN := by omega
          have hn6 : g6 ≠ gN := by omega
          have hnO : gO ≠ gN := fun e => by
            obtain ⟨bB, h1_⟩ := Kd.R_typed HOUT.out gO rfl
            obtain ⟨bC, h2_⟩ := Kd.R_typed hu2 gN rfl
            rw [e, h2_] at h1_
            injection h1_ with bb
            injection bb with _ bl
            exact absurd bl (by decide)
          have hge : w0.heap.size ≤ gN ∧ (S gN ∨ w.heap.size ≤ gN) := ⟨by omega, Or.inr (by rw [← HW.out]; omega)⟩
          replace aa := aj (show ((aY.setCell ⟨gN, i * 2, none⟩ (.int .u64 x.f0)).setCell ⟨gN, i * 2 + 1, none⟩ (.int .u64 x.f1)).heap[g3]? = some (.cells #[.int .i64 af, .int .i64 ag, .int .i64 ah, .slice (some ⟨gO, 0, none⟩) ab.length cO] 26 (0, 0)) from blk_far (blk_far aa.out hn3 _) hn3 _)
          replace ac := aj (show ((aY.setCell ⟨gN, i * 2, none⟩ (.int .u64 x.f0)).setCell ⟨gN, i * 2 + 1, none⟩ (.int .u64 x.f1)).heap[g5]? = some (.cells #[.int .u64 x.f0, .int .u64 x.f1] 36 (0, 0)) from blk_far (blk_far ac.out hn5 _) hn5 _)
          replace ae := aj (show ((aY.setCell ⟨gN, i * 2, none⟩ (.int .u64 x.f0)).setCell ⟨gN, i * 2 + 1, none⟩ (.int .u64 x.f1)).heap[g6]? = some (.cells #[.int .i64 0, .int .i64 0, .int .i64 0, .slice none 0 0] 26 (0, 0)) from blk_far (blk_far ae.out hn6 _) hn6 _)
          replace HOUT := aj (show Kd.R (Kd.raw 1) 22 ((aY.setCell ⟨gN, i * 2, none⟩ (.int .u64 x.f0)).setCell ⟨gN, i * 2 + 1, none⟩ (.int .u64 x.f1)) w6.heap.size (fun _ => True) (.slice (some ⟨gO, 0, none⟩) ab.length cO) (hd1 H1) from hd_far (hd_far HOUT.out hnO _ _) hnO _ _)
          replace RWS := aj (show RwI w6.heap.size H1 ((pre ++ [row.set i x])) ((aY.setCell ⟨gN, i * 2, none⟩ (.int .u64 x.f0)).setCell ⟨gN, i * 2 + 1, none⟩ (.int .u64 x.f1)) from RwI.put RWS.out (by rw [HP.out.1]; exact HHN.out) i HQ.out.1 x)
          replace HS := aj (show Stp w0 w S ((aY.setCell ⟨gN, i * 2, none⟩ (.int .u64 x.f0)).setCell ⟨gN, i * 2 + 1, none⟩ (.int .u64 x.f1)) from stp_set (stp_set HS.out hge _ _) hge _ _)
          refine hK.out _ _ ?_
          clear hK K hHeld hz0 hz1 hf0 hf1 hcc hfr hcl hMe hu2 hgN hb0 hn3 hn5 hn6 hnO hge ep
          generalize ((aY.setCell ⟨gN, i * 2, none⟩ (.int .u64 x.f0)).setCell ⟨gN, i * 2 + 1, none⟩ (.int .u64 x.f1)) = bD at aa ac ae HOUT RWS HS ⊢
          refine done_ (by kernel_rfl) ?_
          try go_wp2
          go_roundg k1
          case measure => omega
          case rel => exact ⟨j + 1, i / 2, H1, pre ++ [row.set i x], x, r2, by first | rfl | (rw [show ((i : Int) / 2) = ((i / 2 : Nat) : Int) by omega]), by first | rw [hadd] | rfl, ⟨by rw [List.getLast?_concat]; exact H'.out⟩, ⟨by have := HP.out.1; simp; omega, by rw [HP.out.2]; simp⟩, ⟨⟨by have := HK.out.1; omega, HJ.out⟩⟩, aa, ac, ae, HOUT, HH1, RWS, HS⟩
        · have bx : decide (0 < j) = true := decide_eq_true (by omega)
          have bz : decide (0 < (j : Int)) = true := decide_eq_true (by omega)
          have bA : (0 < j) = True := eq_true (by omega)
          obtain ⟨jp, hjp⟩ : ∃ jp, j - 1 = jp := ⟨_, rfl⟩
          have hsub : wrap64 ((j : Int) - 1) = (jp : Int) := by have := HN.out.1; have := HJ.out; unfold wrap64; omega
          have hpl : jp < pre.length := by have := HP.out.1; omega
          have hlast : pre.getLast? = some pre[jp] := by rw [List.getLast?_eq_getElem?, HP.out.1, hjp]; exact List.getElem?_eq_getElem hpl
          have hx_ := HX.out
          rw [hlast] at hx_
          have hpj : (pre ++ [row])[jp]? = some pre[jp] := by rw [List.getElem?_append_left hpl]; exact List.getElem?_eq_getElem hpl
          generalize pre[jp] = p at hx_ hpj
          clear hlast
          simp only [leafL] at hx_
          by_cases hq2 : 2 * i + 1 < p.length
          · rw [if_pos hq2] at hx_
            obtain ⟨nn, hnn, hx_⟩ := Option.bind_eq_some_iff.mp hx_
            have bu : nn.1 = x.f0 := by rw [← Option.some.inj hx_]
            have bb : nn.2 = x.f1 := by rw [← Option.some.inj hx_]
            rw [show nn = (x.f0, x.f1) from Prod.ext bu bb] at hnn
            have HND := aj hnn
            obtain ⟨j0, hj0_⟩ : ∃ j0, 2 * i = j0 := ⟨_, rfl⟩
            obtain ⟨j1, hj1_⟩ : ∃ j1, 2 * i + 1 = j1 := ⟨_, rfl⟩
            obtain ⟨up, hup, hRp⟩ := RWS.out.row jp p hpj
            obtain ⟨Ap, cp, eup, hcp, hCp⟩ := Kd.R_reads hRp
            subst eup
            have hmx : p.length ≤ 9223372036854775807 := hCp.2.1
            have hb0 : wrap64 (2 * (i : Int)) = (j0 : Int) := by unfold wrap64; omega
            have hb1 : wrap64 ((j0 : Int) + 1) = (j1 : Int) := by unfold wrap64; omega
            obtain ⟨ad, ea, be, bf⟩ := at_T36 hCp (j0 : Int) (by omega) (by omega)
            obtain ⟨ad', ea', bg, bh⟩ := at_T36 hCp (j1 : Int) (by omega) (by omega)
            rw [ea] at ea'
            injection ea' with ea'
            subst ea'
            subst ea
            rw [show rd_T36 p (j0 : Int) = p.getD (2 * i) z36 by unfold rd_T36; rw [Int.toNat_natCast, hj0_]] at be bf
            rw [show rd_T36 p (j1 : Int) = p.getD (2 * i + 1) z36 by unfold rd_T36; rw [Int.toNat_natCast, hj1_]] at bg bh
            simp only [Int.toNat_natCast] at be bf bg bh
            have p0 : (0 ≤ (j0 : Int)) = True := eq_true (by omega)
            have q0 : ((j0 : Int) < (p.length : Int)) = True := eq_true (by omega)
            have p1 : (0 ≤ (j1 : Int)) = True := eq_true (by omega)
            have q1 : ((j1 : Int) < (p.length : Int)) = True := eq_true (by omega)
            have q0n : (j0 < p.length) = True := eq_true (by omega)
            have q1n : (j1 < p.length) = True := eq_true (by omega)
            have p4 : (0 ≤ (jp : Int)) = True := eq_true (by omega)
            have q4 : ((jp : Int) < (ab.length : Int)) = True := eq_true (by have := HJ.out; omega)
            have q4n : (jp < ab.length) = True := eq_true (by have := HJ.out; omega)
            have bE := hd_cell HOUT.out jp _ hup
            have al := bq_ aa 3
            generalize (p.getD (2 * i) z36).f0 = na0 at be HND
            generalize (p.getD (2 * i) z36).f1 = na1 at bf HND
            generalize (p.getD (2 * i + 1) z36).f0 = nb0 at bg HND
            generalize (p.getD (2 * i + 1) z36).f1 = nb1 at bh HND
            clear hnn hx_ bu bb hup hRp hCp hcp hpj hpl hq2 hmx hj0
            go_upto_region 13 with (fail)
            refine start_ (n := 15) (S := fun w' => w'.cell? ⟨g3, 0, none⟩ = some (.int .i64 af) ∧ w'.cell? (ad.add (j0 * 2)) = some (.int .u64 na0) ∧ w'.cell? ⟨(ad.add (j0 * 2)).block, (ad.add (j0 * 2)).off + 1, none⟩ = some (.int .u64 na1) ∧ w'.cell? (ad.add (j1 * 2)) = some (.int .u64 nb0) ∧ w'.cell? ⟨(ad.add (j1 * 2)).block, (ad.add (j1 * 2)).off + 1, none⟩ = some (.int .u64 nb1)) (ds := [14]) #[false, false, false, false, false, false, false, false, false, false, false, false, false, false, false] (by kernel_rfl) rfl rfl ⟨(blk_cell aa.out 0).trans rfl, be, bf, bg, bh⟩ (fun hHeld => ?_)
            replace aa := aj (show w9.drew.heap[g3]? = some (.cells #[.int .i64 af, .int .i64 ag, .int .i64 ah, .slice (some ⟨gO, 0, none⟩) ab.length cO] 26 (0, 0)) from aa.out)
            replace ac := aj (show w9.drew.heap[g5]? = some (.cells #[.int .u64 d.f0, .int .u64 d.f1] 36 (0, 0)) from ac.out)
            replace ae := aj (show w9.drew.heap[g6]? = some (.cells #[.int .i64 0, .int .i64 0, .int .i64 0, .slice none 0 0] 26 (0, 0)) from ae.out)
            replace HOUT := aj (show Kd.R (Kd.raw 1) 22 w9.drew w6.heap.size (fun _ => True) (.slice (some ⟨gO, 0, none⟩) ab.length cO) (hd1 H1) from Kd.R_drew HOUT.out)
            replace RWS := aj (show RwI w6.heap.size H1 ((pre ++ [row])) w9.drew from RWS.out.below (Below.refl _ _).drew)
            replace HS := aj (show Stp w0 w S w9.drew from stp_drew HS.out)
            generalize w9.drew = aY at aa ac ae HOUT RWS HS hHeld ⊢
            clear be bf bg bh bE al
            refine pure_ (i := 0) (N := some 53) (v := ?_) (a' := ?_) #[true, false, false, false, false, false, false, false, false, false, false, false, false, false, false] rfl rfl (by kernel_rfl) (fun _ _ _ h => h) (Or.inl ⟨by rfl, ?_⟩) ?_ ?_
            rotate_left
            · intro w'
              go_simp
              with_reducible rfl
            rotate_left
            · simp only [Act.put, List.setIfInBounds_toArray, List.set_cons_zero, List.set_cons_succ, i64_w, i32_w]
              rfl
            refine take_ (i := 1) (N := some 54) (v := ?_) (a' := ?_) #[true, true, false, false, false, false, false, false, false, false, false, false, false, false, false] rfl rfl (by kernel_rfl) (fun _ _ _ h => h) (Or.inl ⟨by rfl, ?_⟩) hHeld ?_ ?_
            rotate_left
            · rintro w' ⟨s0, s1, s2, s3, s4⟩
              go_simp
              with_reducible rfl
            rotate_left
            · simp only [Act.put, List.setIfInBounds_toArray, List.set_cons_zero, List.set_cons_succ, i64_w, i32_w]
              rfl
            refine pure_ (i := 2) (N := some 55) (v := ?_) (a' := ?_) #[true, true, true, false, false, false, false, false, false, false, false, false, false, false, false] rfl rfl (by kernel_rfl) (fun _ _ _ h => h) (Or.inl ⟨by rfl, ?_⟩) ?_ ?_
            rotate_left
            · intro w'
              go_simp
              with_reducible rfl
            rotate_left
            · simp only [Act.put, List.setIfInBounds_toArray, List.set_cons_zero, List.set_cons_succ, i64_w, i32_w]
              rfl
            refine pure_ (i := 3) (N := some 56) (v := ?_) (a' := ?_) #[true, true, true, true, false, false, false, false, false, false, false, false, false, false, false] rfl rfl (by kernel_rfl) (fun _ _ _ h => h) (Or.inl ⟨by rfl, ?_⟩) ?_ ?_
            rotate_left
            · intro w'
              go_simp
              with_reducible rfl
            rotate_left
            · simp only [Act.put, List.setIfInBounds_toArray, List.set_cons_zero, List.set_cons_succ, i64_w, i32_w]
              rfl
            refine pure_ (i := 4) (N := some 57) (v := ?_) (a' := ?_) #[true, true, true, true, true, false, false, false, false, false, false, false, false, false, false] rfl rfl (by kernel_rfl) (fun _ _ _ h => h) (Or.inl ⟨by rfl, ?_⟩) ?_ ?_
            rotate_left
            · intro w'
              go_simp
              with_reducible rfl
            rotate_left
            · simp only [Act.put, List.setIfInBounds_toArray, List.set_cons_zero, List.set_cons_succ, i64_w, i32_w]
              rfl
            refine pure_ (i := 5) (N := some 58) (v := ?_) (a' := ?_) #[true, true, true, true, true, true, false, false, false, false, false, false, false, false, false] rfl rfl (by kernel_rfl) (fun _ _ _ h => h) (Or.inl ⟨by rfl, ?_⟩) ?_ ?_
            rotate_left
            · intro w'
              go_simp
              with_reducible rfl
            rotate_left
            · simp only [Act.put, List.setIfInBounds_toArray, List.set_cons_zero, List.set_cons_succ, i64_w, i32_w]
              rfl
            refine take_ (i := 6) (N := some 59) (v := ?_) (a' := ?_) #[true, true, true, true, true, true, true, false, false, false, false, false, false, false, false] rfl rfl (by kernel_rfl) (fun _ _ _ h => h) (Or.inl ⟨by rfl, ?_⟩) hHeld ?_ ?_
            rotate_left
            · rintro w' ⟨s0, s1, s2, s3, s4⟩
              go_simp
              with_reducible rfl
            rotate_left
            · simp only [Act.put, List.setIfInBounds_toArray, List.set_cons_zero, List.set_cons_succ, i64_w, i32_w]
              rfl
            refine pure_ (i := 7) (N := some 60) (v := ?_) (a' := ?_) #[true, true, true, true, true, true, true, true, false, false, false, false, false, false, false] rfl rfl (by kernel_rfl) (fun _ _ _ h => h) (Or.inl ⟨by rfl, ?_⟩) ?_ ?_
            rotate_left
            · intro w'
              go_simp
              with_reducible rfl
            rotate_left
            · simp only [Act.put, List.setIfInBounds_toArray, List.set_cons_zero, List.set_cons_succ, i64_w, i32_w]
              rfl
            refine pure_ (i := 8) (N := some 61) (v := ?_) (a' := ?_) #[true, true, true, true, true, true, true, true, true, false, false, false, false, false, false] rfl rfl (by kernel_rfl) (fun _ _ _ h => h) (Or.inl ⟨by rfl, ?_⟩) ?_ ?_
            rotate_left
            · intro w'
              go_simp
              with_reducible rfl
            rotate_left
            · simp only [Act.put, List.setIfInBounds_toArray, List.set_cons_zero, List.set_cons_succ, i64_w, i32_w]
              rfl
            refine pure_ (i := 9) (N := some 62) (v := ?_) (a' := ?_) #[true, true, true, true, true, true, true, true, true, true, false, false, false, false, false] rfl rfl (by kernel_rfl) (fun _ _ _ h => h) (Or.inl ⟨by rfl, ?_⟩) ?_ ?_
            rotate_left
            · intro w'
              go_simp
              with_reducible rfl
            rotate_left
            · simp only [Act.put, List.setIfInBounds_toArray, List.set_cons_zero, List.set_cons_succ, i64_w, i32_w]
              rfl
            refine pure_ (i := 10) (N := some 63) (v := ?_) (a' := ?_) #[true, true, true, true, true, true, true, true, true, true, true, false, false, false, false] rfl rfl (by kernel_rfl) (fun _ _ _ h => h) (Or.inl ⟨by rfl, ?_⟩) ?_ ?_
            rotate_left
            · intro w'
              go_simp
              with_reducible rfl
            rotate_left
            · simp only [Act.put, List.setIfInBounds_toArray, List.set_cons_zero, List.set_cons_succ, i64_w, i32_w]
              rfl
            refine pure_ (i := 11) (N := some 64) (v := ?_) (a' := ?_) #[true, true, true, true, true, true, true, true, true, true, true, true, false, false, false] rfl rfl (by kernel_rfl) (fun _ _ _ h => h) (Or.inl ⟨by rfl, ?_⟩) ?_ ?_
            rotate_left
            · intro w'
              go_simp
              with_reducible rfl
            rotate_left
            · simp only [Act.put, List.setIfInBounds_toArray, List.set_cons_zero, List.set_cons_succ, i64_w, i32_w]
              rfl
            refine take_ (i := 12) (N := some 65) (v := ?_) (a' := ?_) #[true, true, true, true, true, true, true, true, true, true, true, true, true, false, false] rfl rfl (by kernel_rfl) (fun _ _ _ h => h) (Or.inl ⟨by rfl, ?_⟩) hHeld ?_ ?_
            rotate_left
            · rintro w' ⟨s0, s1, s2, s3, s4⟩
              go_simp
              with_reducible rfl
            rotate_left
            · simp only [Act.put, List.setIfInBounds_toArray, List.set_cons_zero, List.set_cons_succ, i64_w, i32_w]
              rfl
            refine one_ (i := 13) (N := some 66) #[true, true, true, true, true, true, true, true, true, true, true, true, true, true, false] rfl rfl (by kernel_rfl) (by decide) (fun K hK => ?_)
            refine goes_ Tryd.func36 (by kernel_rfl) rfl #[.int .i64 af, .agg #[.int .u64 na0, .int .u64 na1], .agg #[.int .u64 nb0, .int .u64 nb1]] (by rfl) rfl rfl (by (try simp only [List.map_toArray, List.map_cons, List.map_nil]); first | done | rfl | (go_simp; done)) ?_
            with_reducible refine (sponge_Node.calls 200 af na0 na1 nb0 nb1 x.f0 x.f1 _ (GL.below HRG.out (stp_b HS.out)) HND.out).mono ?_
            rintro e aF ⟨rfl, hb⟩
            refine ⟨_, rfl, ?_⟩
            replace aa := aj (show aF.heap[g3]? = some (.cells #[.int .i64 af, .int .i64 ag, .int .i64 ah, .slice (some ⟨gO, 0, none⟩) ab.length cO] 26 (0, 0)) from blk_below aa.out hb)
            replace ac := aj (show aF.heap[g5]? = some (.cells #[.int .u64 d.f0, .int .u64 d.f1] 36 (0, 0)) from blk_below ac.out hb)
            replace ae := aj (show aF.heap[g6]? = some (.cells #[.int .i64 0, .int .i64 0, .int .i64 0, .slice none 0 0] 26 (0, 0)) from blk_below ae.out hb)
            replace HOUT := aj (show Kd.R (Kd.raw 1) 22 aF w6.heap.size (fun _ => True) (.slice (some ⟨gO, 0, none⟩) ab.length cO) (hd1 H1) from Kd.R_below HOUT.out hb)
            replace RWS := aj (show RwI w6.heap.size H1 ((pre ++ [row])) aF from RWS.out.below hb)
            replace HS := aj (show Stp w0 w S aF from stp_below HS.out hb)
            refine hK.out _ _ ⟨pw_cell_below hb hHeld.1, pw_cell_below hb hHeld.2.1, pw_cell_below hb hHeld.2.2.1, pw_cell_below hb hHeld.2.2.2.1, pw_cell_below hb hHeld.2.2.2.2⟩ (fun hHeld => ?_)
            clear hK K hb
            refine norm_ (a' := ?_) ?_ ?_
            rotate_left
            · show Act.put _ (some 66) _ = _
              simp only [Act.put, List.setIfInBounds_toArray, List.set_cons_zero, List.set_cons_succ, i64_w, i32_w]
              rfl
            refine last_ (i := 14) (N := none) #[true, true, true, true, true, true, true, true, true, true, true, true, true, true, true] rfl rfl (by kernel_rfl) (by decide) (fun K hK => ?_)
            have aO := bq_ ac 0
            have aP := blk_frozen ac.out 0
            have aQ := bq_ ac 1
            have aR := blk_frozen ac.out 1
            refine skip_ (w1 := ?_) (by rfl) rfl ?_ ?_
            rotate_left
            · go_simp
              rfl
            replace aa := aj (show ((aF.setCell ⟨g5, 0, none⟩ (.int .u64 x.f0)).setCell ⟨g5, 1, none⟩ (.int .u64 x.f1)).heap[g3]? = some (.cells #[.int .i64 af, .int .i64 ag, .int .i64 ah, .slice (some ⟨gO, 0, none⟩) ab.length cO] 26 (0, 0)) from blk_far (blk_far aa.out aB.out _) aB.out _)
            replace ac := aj (show ((aF.setCell ⟨g5, 0, none⟩ (.int .u64 x.f0)).setCell ⟨g5, 1, none⟩ (.int .u64 x.f1)).heap[g5]? = some (.cells #[.int .u64 x.f0, .int .u64 x.f1] 36 (0, 0)) from blk_put (cs := #[.int .u64 x.f0, .int .u64 d.f1]) (blk_put (cs := #[.int .u64 d.f0, .int .u64 d.f1]) ac.out 0 (.int .u64 x.f0) rfl) 1 (.int .u64 x.f1) rfl)
            replace ae := aj (show ((aF.setCell ⟨g5, 0, none⟩ (.int .u64 x.f0)).setCell ⟨g5, 1, none⟩ (.int .u64 x.f1)).heap[g6]? = some (.cells #[.int .i64 0, .int .i64 0, .int .i64 0, .slice none 0 0] 26 (0, 0)) from blk_far (blk_far ae.out aS.out _) aS.out _)
            replace HOUT := aj (show Kd.R (Kd.raw 1) 22 ((aF.setCell ⟨g5, 0, none⟩ (.int .u64 x.f0)).setCell ⟨g5, 1, none⟩ (.int .u64 x.f1)) w6.heap.size (fun _ => True) (.slice (some ⟨gO, 0, none⟩) ab.length cO) (hd1 H1) from R_low (R_low HOUT.out HB0.out.2.2.1 _ _) HB0.out.2.2.1 _ _)
            replace RWS := aj (show RwI w6.heap.size H1 ((pre ++ [row])) ((aF.setCell ⟨g5, 0, none⟩ (.int .u64 x.f0)).setCell ⟨g5, 1, none⟩ (.int .u64 x.f1)) from (RWS.out.setLow HB0.out.2.2.1 _ _).setLow HB0.out.2.2.1 _ _)
            replace HS := aj (show Stp w0 w S ((aF.setCell ⟨g5, 0, none⟩ (.int .u64 x.f0)).setCell ⟨g5, 1, none⟩ (.int .u64 x.f1)) from stp_set (stp_set HS.out bd.out _ _) bd.out _ _)
            refine hK.out _ _ ?_
            clear hK K hHeld aO aQ aP aR
            generalize ((aF.setCell ⟨g5, 0, none⟩ (.int .u64 x.f0)).setCell ⟨g5, 1, none⟩ (.int .u64 x.f1)) = aZ at aa ac ae HOUT RWS HS ⊢
            refine done_ (by kernel_rfl) ?_
            go_upto_region 14 with (fail)
            refine start_ (n := 9) (S := fun w' => w'.cell? ⟨g3, 3, none⟩ = some (.slice (some ⟨gO, 0, none⟩) ab.length cO) ∧ w'.cell? ⟨gO, j, none⟩ = some (.slice (some ⟨gN, 0, none⟩) row.length cN) ∧ w'.cell? ⟨g5, 0, none⟩ = some (.int .u64 x.f0) ∧ w'.cell? ⟨g5, 1, none⟩ = some (.int .u64 x.f1)) (ds := [8]) #[false, false, false, false, false, false, false, false, false] (by kernel_rfl) rfl rfl ⟨(blk_cell aa.out 3).trans rfl, hd_cell HOUT.out j _ HHN.out, (blk_cell ac.out 0).trans rfl, (blk_cell ac.out 1).trans rfl⟩ (fun hHeld => ?_)
            replace aa := aj (show aZ.drew.heap[g3]? = some (.cells #[.int .i64 af, .int .i64 ag, .int .i64 ah, .slice (some ⟨gO, 0, none⟩) ab.length cO] 26 (0, 0)) from aa.out)
            replace ac := aj (show aZ.drew.heap[g5]? = some (.cells #[.int .u64 x.f0, .int .u64 x.f1] 36 (0, 0)) from ac.out)
            replace ae := aj (show aZ.drew.heap[g6]? = some (.cells #[.int .i64 0, .int .i64 0, .int .i64 0, .slice none 0 0] 26 (0, 0)) from ae.out)
            replace HOUT := aj (show Kd.R (Kd.raw 1) 22 aZ.drew w6.heap.size (fun _ => True) (.slice (some ⟨gO, 0, none⟩) ab.length cO) (hd1 H1) from Kd.R_drew HOUT.out)
            replace RWS := aj (show RwI w6.heap.size H1 ((pre ++ [row])) aZ.drew from RWS.out.below (Below.refl _ _).drew)
            replace HS := aj (show Stp w0 w S aZ.drew from stp_drew HS.out)
            generalize aZ.drew = a7 at aa ac ae HOUT RWS HS hHeld ⊢
            refine pure_ (i := 0) (N := some 67) (v := ?_) (a' := ?_) #[true, false, false, false, false, false, false, false, false] rfl rfl (by kernel_rfl) (fun _ _ _ h => h) (Or.inl ⟨by rfl, ?_⟩) ?_ ?_
            rotate_left
            · intro w'
              go_simp
              with_reducible rfl
            rotate_left
            · simp only [Act.put, List.setIfInBounds_toArray, List.set_cons_zero, List.set_cons_succ, i64_w, i32_w]
              rfl
            refine take_ (i := 1) (N := some 68) (v := ?_) (a' := ?_) #[true, true, false, false, false, false, false, false, false] rfl rfl (by kernel_rfl) (fun _ _ _ h => h) (Or.inl ⟨by rfl, ?_⟩) hHeld ?_ ?_
            rotate_left
            · rintro w' ⟨s0, s1, s2, s3⟩
              go_simp
              with_reducible rfl
            rotate_left
            · simp only [Act.put, List.setIfInBounds_toArray, List.set_cons_zero, List.set_cons_succ, i64_w, i32_w]
              rfl
            refine pure_ (i := 2) (N := some 69) (v := ?_) (a' := ?_) #[true, true, true, false, false, false, false, false, false] rfl rfl (by kernel_rfl) (fun _ _ _ h => h) (Or.inl ⟨by rfl, ?_⟩) ?_ ?_
            rotate_left
            · intro w'
              go_simp
              with_reducible rfl
            rotate_left
            · simp only [Act.put, List.setIfInBounds_toArray, List.set_cons_zero, List.set_cons_succ, i64_w, i32_w]
              rfl
            refine pure_ (i := 3) (N := some 70) (v := ?_) (a' := ?_) #[true, true, true, true, false, false, false, false, false] rfl rfl (by kernel_rfl) (fun _ _ _ h => h) (Or.inl ⟨by rfl, ?_⟩) ?_ ?_
            rotate_left
            · intro w'
              go_simp
              with_reducible rfl
            rotate_left
            · simp only [Act.put, List.setIfInBounds_toArray, List.set_cons_zero, List.set_cons_succ, i64_w, i32_w]
              rfl
            refine take_ (i := 4) (N := some 71) (v := ?_) (a' := ?_) #[true, true, true, true, true, false, false, false, false] rfl rfl (by kernel_rfl) (fun _ _ _ h => h) (Or.inl ⟨by rfl, ?_⟩) hHeld ?_ ?_
            rotate_left
            · rintro w' ⟨s0, s1, s2, s3⟩
              go_simp
              with_reducible rfl
            rotate_left
            · simp only [Act.put, List.setIfInBounds_toArray, List.set_cons_zero, List.set_cons_succ, i64_w, i32_w]
              rfl
            refine pure_ (i := 5) (N := some 72) (v := ?_) (a' := ?_) #[true, true, true, true, true, true, false, false, false] rfl rfl (by kernel_rfl) (fun _ _ _ h => h) (Or.inl ⟨by rfl, ?_⟩) ?_ ?_
            rotate_left
            · intro w'
              go_simp
              with_reducible rfl
            rotate_left
            · simp only [Act.put, List.setIfInBounds_toArray, List.set_cons_zero, List.set_cons_succ, i64_w, i32_w]
              rfl
            refine take_ (i := 6) (N := some 73) (v := ?_) (a' := ?_) #[true, true, true, true, true, true, true, false, false] rfl rfl (by kernel_rfl) (fun _ _ _ h => h) (Or.inl ⟨by rfl, ?_⟩) hHeld ?_ ?_
            rotate_left
            · rintro w' ⟨s0, s1, s2, s3⟩
              go_simp
              with_reducible rfl
            rotate_left
            · simp only [Act.put, List.setIfInBounds_toArray, List.set_cons_zero, List.set_cons_succ, i64_w, i32_w]
              rfl
            refine pure_ (i := 7) (N := some 74) (v := ?_) (a' := ?_) #[true, true, true, true, true, true, true, true, false] rfl rfl (by kernel_rfl) (fun _ _ _ h => h) (Or.inl ⟨by rfl, ?_⟩) ?_ ?_
            rotate_left
            · intro w'
              go_simp
              with_reducible rfl
            rotate_left
            · simp only [Act.put, List.setIfInBounds_toArray, List.set_cons_zero, List.set_cons_succ, i64_w, i32_w]
              rfl
            refine last_ (i := 8) (N := none) #[true, true, true, true, true, true, true, true, true] rfl rfl (by kernel_rfl) (by decide) (fun K hK => ?_)
            obtain ⟨uN, hu1, hu2⟩ := RWS.out.row j row (by rw [← HP.out.1, List.getElem?_append_right (Nat.le_refl _), Nat.sub_self]; rfl)
            rw [HHN.out] at hu1
            obtain rfl := Option.some.inj hu1
            obtain ⟨ce, hcl, hMe, hcc, hfr⟩ := Kd.R_elem hu2 z36 (i : Int) (by omega) (by have := HQ.out.1; omega)
            obtain rfl := k36_openM hMe
            have hz0 := hcc 0 _ rfl
            have hz1 := hcc 1 _ rfl
            have hf0 := hfr 0
            have hf1 := hfr 1
            simp only [show (k36).sz = 2 from rfl, Nat.mul_one, Nat.add_zero, Int.toNat_natCast] at hz0 hz1 hf0 hf1
            have ep := add_plain gN (i * 2)
            refine skip_ (w1 := ?_) (by rfl) rfl ?_ ?_
            rotate_left
            · go_simp
              rfl
            have hgN := HGN.out
            have hb0 := HB0.out
            have hn3 : g3 ≠ gN := by omega
            have hn5 : g5 ≠ gN := by omega
            have hn6 : g6 ≠ gN := by omega
            have hnO : gO ≠ gN := fun e => by
              obtain ⟨bB, h1_⟩ := Kd.R_typed HOUT.out gO rfl
              obtain ⟨bC, h2_⟩ := Kd.R_typed hu2 gN rfl
              rw [e, h2_] at h1_
              injection h1_ with bb
              injection bb with _ bl
              exact absurd bl (by decide)
            have hge : w0.heap.size ≤ gN ∧ (S gN ∨ w.heap.size ≤ gN) := ⟨by omega, Or.inr (by rw [← HW.out]; omega)⟩
            replace aa := aj (show ((a7.setCell ⟨gN, i * 2, none⟩ (.int .u64 x.f0)).setCell ⟨gN, i * 2 + 1, none⟩ (.int .u64 x.f1)).heap[g3]? = some (.cells #[.int .i64 af, .int .i64 ag, .int .i64 ah, .slice (some ⟨gO, 0, none⟩) ab.length cO] 26 (0, 0)) from blk_far (blk_far aa.out hn3 _) hn3 _)
            replace ac := aj (show ((a7.setCell ⟨gN, i * 2, none⟩ (.int .u64 x.f0)).setCell ⟨gN, i * 2 + 1, none⟩ (.int .u64 x.f1)).heap[g5]? = some (.cells #[.int .u64 x.f0, .int .u64 x.f1] 36 (0, 0)) from blk_far (blk_far ac.out hn5 _) hn5 _)
            replace ae := aj (show ((a7.setCell ⟨gN, i * 2, none⟩ (.int .u64 x.f0)).setCell ⟨gN, i * 2 + 1, none⟩ (.int .u64 x.f1)).heap[g6]? = some (.cells #[.int .i64 0, .int .i64 0, .int .i64 0, .slice none 0 0] 26 (0, 0)) from blk_far (blk_far ae.out hn6 _) hn6 _)
            replace HOUT := aj (show Kd.R (Kd.raw 1) 22 ((a7.setCell ⟨gN, i * 2, none⟩ (.int .u64 x.f0)).setCell ⟨gN, i * 2 + 1, none⟩ (.int .u64 x.f1)) w6.heap.size (fun _ => True) (.slice (some ⟨gO, 0, none⟩) ab.length cO) (hd1 H1) from hd_far (hd_far HOUT.out hnO _ _) hnO _ _)
            replace RWS := aj (show RwI w6.heap.size H1 ((pre ++ [row.set i x])) ((a7.setCell ⟨gN, i * 2, none⟩ (.int .u64 x.f0)).setCell ⟨gN, i * 2 + 1, none⟩ (.int .u64 x.f1)) from RwI.put RWS.out (by rw [HP.out.1]; exact HHN.out) i HQ.out.1 x)
            replace HS := aj (show Stp w0 w S ((a7.setCell ⟨gN, i * 2, none⟩ (.int .u64 x.f0)).setCell ⟨gN, i * 2 + 1, none⟩ (.int .u64 x.f1)) from stp_set (stp_set HS.out hge _ _) hge _ _)
            refine hK.out _ _ ?_
            clear hK K hHeld hz0 hz1 hf0 hf1 hcc hfr hcl hMe hu2 hgN hb0 hn3 hn5 hn6 hnO hge ep
            generalize ((a7.setCell ⟨gN, i * 2, none⟩ (.int .u64 x.f0)).setCell ⟨gN, i * 2 + 1, none⟩ (.int .u64 x.f1)) = bD at aa ac ae HOUT RWS HS ⊢
            refine done_ (by kernel_rfl) ?_
            try go_wp2
            go_roundg k1
            case measure => omega
            case rel => exact ⟨j + 1, i / 2, H1, pre ++ [row.set i x], x, r2, by first | rfl | (rw [show ((i : Int) / 2) = ((i / 2 : Nat) : Int) by omega]), by first | rw [hadd] | rfl, ⟨by rw [List.getLast?_concat]; exact H'.out⟩, ⟨by have := HP.out.1; simp; omega, by rw [HP.out.2]; simp⟩, ⟨⟨by have := HK.out.1; omega, HJ.out⟩⟩, aa, ac, ae, HOUT, HH1, RWS, HS⟩
          · rw [if_neg hq2] at hx_
            exact absurd hx_ (by simp)
      · rw [if_neg hq] at aD
        exact absurd aD (by simp)
    · have c3b : decide (j < ab.length) = false := decide_eq_false c3
      have hd0 : ab.drop j = [] := List.drop_eq_nil_of_le (by omega)
      have aD := HA.out
      rw [hd0] at aD
      simp only [replL] at aD
      obtain rfl := Option.some.inj aD
      have HRR := aj (show R = pre by rw [HP.out.2, List.append_nil])
      have HLE := aj (show H.length = pre.length by have := HP.out.1; have := HH.out.1; have := HK.out.2; omega)
      clear HA hd0 aD c3
      have am := bq_ aa 0
      have ao := blk_frozen aa.out 0
      have ap := bq_ aa 1
      have aq := blk_frozen aa.out 1
      have ar := bq_ aa 2
      have au := blk_frozen aa.out 2
      have al := bq_ aa 3
      have av := blk_frozen aa.out 3
      have aG := bq_ ae 0
      have aH := blk_frozen ae.out 0
      have aI := bq_ ae 1
      have aJ := blk_frozen ae.out 1
      have aK := bq_ ae 2
      have aL := blk_frozen ae.out 2
      have aM := bq_ ae 3
      have aN := blk_frozen ae.out 3
      go_wp2_with (first
        | ((with_reducible refine gate_store (t := 26) (p := 6) rfl ?_); refine store_event (t := 26) (p := 6) (v := .tmp 78) (w1 := ((((wr.setCell ⟨g6, 0, none⟩ (.int .i64 af)).setCell ⟨g6, 1, none⟩ (.int .i64 ag)).setCell ⟨g6, 2, none⟩ (.int .i64 ah)).setCell ⟨g6, 3, none⟩ (.slice (some ⟨gO, 0, none⟩) ab.length cO))) ?hg ?ho ?hn ?hr ?_; (case ho => rfl); (case hg => rfl); (case hn => rfl); (case hr => first | (go_simp; done) | (go_simp; rfl)); intro bc hw; clear am ao ap aq ar au al av aG aH aI aJ aK aL aM aN; replace aa := aj (show bc.heap[g3]? = some (.cells #[.int .i64 af, .int .i64 ag, .int .i64 ah, .slice (some ⟨gO, 0, none⟩) ab.length cO] 26 (0, 0)) from (by rw [hw]; (repeat (refine blk_far ?_ ay.out _)); exact aa.out)); replace ac := aj (show bc.heap[g5]? = some (.cells #[.int .u64 d.f0, .int .u64 d.f1] 36 (0, 0)) from (by rw [hw]; (repeat (refine blk_far ?_ az.out _)); exact ac.out)); replace ae := aj (show bc.heap[g6]? = some (.cells #[.int .i64 af, .int .i64 ag, .int .i64 ah, .slice (some ⟨gO, 0, none⟩) ab.length cO] 26 (0, 0)) from (by rw [hw]; exact (blk_put (cs := #[.int .i64 af, .int .i64 ag, .int .i64 ah, .slice none 0 0]) (blk_put (cs := #[.int .i64 af, .int .i64 ag, .int .i64 0, .slice none 0 0]) (blk_put (cs := #[.int .i64 af, .int .i64 0, .int .i64 0, .slice none 0 0]) (blk_put (cs := #[.int .i64 0, .int .i64 0, .int .i64 0, .slice none 0 0]) ae.out 0 (.int .i64 af) rfl) 1 (.int .i64 ag) rfl) 2 (.int .i64 ah) rfl) 3 (.slice (some ⟨gO, 0, none⟩) ab.length cO) rfl))); replace HS := aj (show Stp w0 w S bc from (by rw [hw]; exact (stp_set (stp_set (stp_set (stp_set HS.out aA.out 0 (.int .i64 af)) aA.out 1 (.int .i64 ag)) aA.out 2 (.int .i64 ah)) aA.out 3 (.slice (some ⟨gO, 0, none⟩) ab.length cO)))); replace HOUT := aj (show Kd.R (Kd.raw 1) 22 bc w6.heap.size (fun _ => True) (.slice (some ⟨gO, 0, none⟩) ab.length cO) (hd1 H) from (by rw [hw]; exact R_low (R_low (R_low (R_low (HOUT.out) HB0.out.2.2.2 _ _) HB0.out.2.2.2 _ _) HB0.out.2.2.2 _ _) HB0.out.2.2.2 _ _)); replace RWS := aj (show RwI w6.heap.size H pre bc from (by rw [hw]; exact ((((RWS.out).setLow HB0.out.2.2.2 _ _).setLow HB0.out.2.2.2 _ _).setLow HB0.out.2.2.2 _ _).setLow HB0.out.2.2.2 _ _)); skip))
      refine bodyPost_ret (results_list (rs := [.cell 6 26, .tmp 7]) rfl (by simp) (.cell g6 26 #[.int .i64 af, .int .i64 ag, .int .i64 ah, .slice (some ⟨gO, 0, none⟩) ab.length cO] (0, 0) _ rfl ae.out Tryd.underlying26 rfl (by kernel_rfl) (.tmp .nil))) rfl ?_
      obtain rfl := HW.out
      exact ⟨_, rfl, by rw [HRR.out]; exact Kd.S_lower (S_rows HOUT.out HLE.out RWS.out) HB0.out.1, stp_b HS.out⟩
theorem tree_Replace.calls (k : Nat) (af : Int) (ag : Int) (ah : Int) (ai : Option Addr) (ak : Nat) (ab : List (List (S36))) (a1 : Int) (aT : Int) (aU : Int) (r1 : Int) (r2 : Int) (r3 : Int) (r4 : List (List (S36))) (r5 : Int) (w : World) (aw : Kd.C (Kd.slice 36 k36) w ai ab.length ab) (ax : ab.length ≤ ak) (hrG : GL w) (h : tree_Replace.f k af ag ah ab a1 aT aU = some (r1, r2, r3, r4, r5)) :
  Calls Tryd.prog 32 #[.agg #[.int .i64 af, .int .i64 ag, .int .i64 ah, .slice ai ab.length ak], .int .i64 a1, .agg #[.int .u64 aT, .int .u64 aU]] w fun e w' => ∃ aX : Value, e = .returned (.tuple #[.agg #[.int .i64 r1, .int .i64 r2, .int .i64 r3, aX], .int .i64 r5]) ∧ Kd.S (Kd.slice 36 k36) 22 w' w.heap.size (fun _ => True) aX r4 ∧ Below w.heap.size w w' := by
 have bad : ∀ {q : Int}, some ((0 : Int), (0 : Int), (0 : Int), ([] : List (List S36)), q) = some (r1, r2, r3, r4, r5) → (Calls Tryd.prog 32 #[.agg #[.int .i64 af, .int .i64 ag, .int .i64 ah, .slice ai ab.length ak], .int .i64 a1, .agg #[.int .u64 aT, .int .u64 aU]] w fun e w' => e = .returned (.tuple #[.agg #[.int .i64 0, .int .i64 0, .int .i64 0, .slice none 0 0], .int .i64 q]) ∧ Below w.heap.size w w') → Calls Tryd.prog 32 #[.agg #[.int .i64 af, .int .i64 ag, .int .i64 ah, .slice ai ab.length ak], .int .i64 a1, .agg #[.int .u64 aT, .int .u64 aU]] w fun e w' => ∃ aX : Value, e = .returned (.tuple #[.agg #[.int .i64 r1, .int .i64 r2, .int .i64 r3, aX], .int .i64 r5]) ∧ Kd.S (Kd.slice 36 k36) 22 w' w.heap.size (fun _ => True) aX r4 ∧ Below w.heap.size w w' := by
  intro q e c
  simp only [Option.some.injEq, Prod.mk.injEq] at e
  obtain ⟨rfl, rfl, rfl, rfl, rfl⟩ := e
  refine c.mono ?_
  rintro e w' ⟨rfl, hb⟩
  exact ⟨_, rfl, Kd.S_nil _ _ _ _ _, hb⟩
 unfold tree_Replace.f at h
 obtain ⟨e, h1, h⟩ := Option.bind_eq_some_iff.mp h
 by_cases he : e = 0
 ·subst he
  rw [if_pos rfl] at h
  obtain ⟨p, h2, h⟩ := Option.bind_eq_some_iff.mp h
  cases p with
  | false =>
   rw [if_neg (by decide)] at h
   exact bad h (replace_prop k af ag ah ai ak ab a1 aT aU w aw ax hrG h1 h2)
  | true =>
   rw [if_pos rfl] at h
   by_cases hq : 0 ≤ a1 ∧ 0 < ab.length ∧ ab.length ≤ 1000
   ·rw [if_pos hq] at h
    obtain ⟨R, hR, h⟩ := Option.bind_eq_some_iff.mp h
    simp only [Option.some.injEq, Prod.mk.injEq] at h
    obtain ⟨rfl, rfl, rfl, rfl, rfl⟩ := h
    exact replace_go k af ag ah ai ak ab a1 aT aU w aw ax hrG h1 h2 hq.1 hq.2.1 hq.2.2 R hR
   ·rw [if_neg hq] at h
    exact absurd h (by simp)
 ·rw [if_neg he] at h
  exact bad h (replace_place k af ag ah ai ak ab a1 aT aU w aw ax hrG e h1 he)
end Go.Proofs.YtpnpmeogffodgaaDoor.Q
end
section
namespace Go.Proofs.YtpnpmeogffodgaaDoor.Q
open Go.RowKit Go.Proofs.YtpnpmeogffodgaaDoorW.PrintWords Go.Proofs.YtpnpmeogffodgaaDoorW.PrintLast Go.Proofs.YtpnpmeogffodgaaDoorW.PrintMore
attribute [local go_sem] max2_int min2_int max_two min_two max_three min_three max_four min_four run_store_fnV run_store_fnc run_store_nfn   -- for this text's walks alone
set_option linter.unusedVariables false
set_option linter.unusedSimpArgs false

/-! ### attestorlaw07_TreePaths: function 8 -/
def attestorlaw07_TreePaths.j0 : Nat → Int → Bool → Int → Int → Int → List (List (S36)) → Int → Int → Int → Int → Int → List (List (S36)) → Option (Bool)
  | 0, _, _, _, _, _, _, _, _, _, _, _, _ => none
  | k + 1, x1, fc, bY, bZ, b0, b1, ce, cf, b2, b3, b4, b5 => if fc = true then (none) else ((tree_Path.f k bY bZ b0 b1 x1).bind fun bX => ((attestorref07_Path.f k b2 b3 b4 b5 x1).bind fun bO => ((tree_Replace.f k bY bZ b0 b1 x1 ce cf).bind fun aR => ((attestorref07_Replace.f k b2 b3 b4 b5 x1 ce cf).bind fun aH => (if bX.2 = bO.2 then ((attestorref07_Equal.f k bX.1 bO.1).bind fun bB => (if bB = true then (if aR.2.2.2.2 = aH.2.2.2.2 then ((attestorref07_Same.f k aR.1 aR.2.1 aR.2.2.1 aR.2.2.2.1 aH.1 aH.2.1 aH.2.2.1 aH.2.2.2.1).bind fun bn => (if bn = true then ((attestorref07_Same.f k bY bZ b0 b1 b2 b3 b4 b5).bind fun a8 => (if a8 = true then ((attestorlaw07_lives.f k).bind fun aW => (some aW)) else (none))) else (none))) else (none)) else (none))) else (none))))))
def attestorlaw07_TreePaths.f (k : Nat) (bE : Int) (bC : Int) (bv : Int) (bi : List (List (S36))) (a1 : Int) (aw : Int) (ax : Int) : Option (Bool) := (attestorlaw07_small.f k bE bC bv bi).bind fun aA => ((attestorlaw07_small.f k aA.1 aA.2.1 aA.2.2.1 aA.2.2.2).bind fun ay => ((tree_Valid.f k aA.1 aA.2.1 aA.2.2.1 aA.2.2.2).bind fun bw => ((attestorref07_Valid.f k ay.1 ay.2.1 ay.2.2.1 ay.2.2.2).bind fun bu => (if (bw != bu) = true then (none) else ((tree_Cap.f k aA.1 aA.2.1 aA.2.2.1 aA.2.2.2).bind fun bp => ((attestorref07_Cap.f k ay.1 ay.2.1 ay.2.2.1 ay.2.2.2).bind fun bo => ((attestorref07_Equal.f k bp bo).bind fun bj => (attestorlaw07_TreePaths.j0 k a1 (!bj) aA.1 aA.2.1 aA.2.2.1 aA.2.2.2 aw ax ay.1 ay.2.1 ay.2.2.1 ay.2.2.2))))))))
theorem attestorlaw07_TreePaths.mono_l : ∀ k, (∀ y0 y1 y2 y3 y4 y5 y6 y7 y8 y9 cH cI, LeO (attestorlaw07_TreePaths.j0 k y0 y1 y2 y3 y4 y5 y6 y7 y8 y9 cH cI) (attestorlaw07_TreePaths.j0 (k + 1) y0 y1 y2 y3 y4 y5 y6 y7 y8 y9 cH cI))
  | 0 => fun _ _ _ _ _ _ _ _ _ _ _ _ r h => by simp [attestorlaw07_TreePaths.j0] at h
  | k + 1 => by
    have ih0 := attestorlaw07_TreePaths.mono_l k
    · intro y0 y1 y2 y3 y4 y5 y6 y7 y8 y9 cH cI
      unfold attestorlaw07_TreePaths.j0
      repeat' first
      | (with_reducible exact ih0 _ _ _ _ _ _ _ _ _ _ _ _)
      | (with_reducible exact attestorlaw07_lives.mono _)
      | (with_reducible exact attestorlaw07_small.mono _ _ _ _ _)
      | (with_reducible exact attestorref07_Cap.mono _ _ _ _ _)
      | (with_reducible exact attestorref07_Equal.mono _ _ _)
      | (with_reducible exact attestorref07_Path.mono _ _ _ _ _ _)
      | (with_reducible exact attestorref07_Replace.mono _ _ _ _ _ _ _ _)
      | (with_reducible exact attestorref07_Same.mono _ _ _ _ _ _ _ _ _)
      | (with_reducible exact attestorref07_Valid.mono _ _ _ _ _)
      | (with_reducible exact tree_Cap.mono _ _ _ _ _)
      | (with_reducible exact tree_Path.mono _ _ _ _ _ _)
      | (with_reducible exact tree_Replace.mono _ _ _ _ _ _ _ _)
      | (with_reducible exact tree_Valid.mono _ _ _ _ _)
      | (with_reducible exact LeO.refl _)
      | (with_reducible exact LeO.none _)
      | (with_reducible refine LeO.ite ?_ ?_)
      | (with_reducible refine LeO.bind ?_ (fun _ => ?_))
      | exact ih0 _ _ _ _ _ _ _ _ _ _ _ _
      | exact attestorlaw07_lives.mono _
      | exact attestorlaw07_small.mono _ _ _ _ _
      | exact attestorref07_Cap.mono _ _ _ _ _
      | exact attestorref07_Equal.mono _ _ _
      | exact attestorref07_Path.mono _ _ _ _ _ _
      | exact attestorref07_Replace.mono _ _ _ _ _ _ _ _
      | exact attestorref07_Same.mono _ _ _ _ _ _ _ _ _
      | exact attestorref07_Valid.mono _ _ _ _ _
      | exact tree_Cap.mono _ _ _ _ _
      | exact tree_Path.mono _ _ _ _ _ _
      | exact tree_Replace.mono _ _ _ _ _ _ _ _
      | exact tree_Valid.mono _ _ _ _ _
      | exact LeO.none _
      | refine LeO.ite ?_ ?_
      | refine LeO.bind ?_ (fun _ => ?_)
theorem attestorlaw07_TreePaths.mono : ∀ a0 a1 a2 a3 a4 a5 a6 k, LeO (attestorlaw07_TreePaths.f k a0 a1 a2 a3 a4 a5 a6) (attestorlaw07_TreePaths.f (k + 1) a0 a1 a2 a3 a4 a5 a6) := by
  intro a0 a1 a2 a3 a4 a5 a6 k
  have ih0 := attestorlaw07_TreePaths.mono_l k
  unfold attestorlaw07_TreePaths.f
  repeat' first
      | (with_reducible exact ih0 _ _ _ _ _ _ _ _ _ _ _ _)
      | (with_reducible exact attestorlaw07_lives.mono _)
      | (with_reducible exact attestorlaw07_small.mono _ _ _ _ _)
      | (with_reducible exact attestorref07_Cap.mono _ _ _ _ _)
      | (with_reducible exact attestorref07_Equal.mono _ _ _)
      | (with_reducible exact attestorref07_Path.mono _ _ _ _ _ _)
      | (with_reducible exact attestorref07_Replace.mono _ _ _ _ _ _ _ _)
      | (with_reducible exact attestorref07_Same.mono _ _ _ _ _ _ _ _ _)
      | (with_reducible exact attestorref07_Valid.mono _ _ _ _ _)
      | (with_reducible exact tree_Cap.mono _ _ _ _ _)
      | (with_reducible exact tree_Path.mono _ _ _ _ _ _)
      | (with_reducible exact tree_Replace.mono _ _ _ _ _ _ _ _)
      | (with_reducible exact tree_Valid.mono _ _ _ _ _)
      | (with_reducible exact LeO.refl _)
      | (with_reducible exact LeO.none _)
      | (with_reducible refine LeO.ite ?_ ?_)
      | (with_reducible refine LeO.bind ?_ (fun _ => ?_))
      | exact ih0 _ _ _ _ _ _ _ _ _ _ _ _
      | exact attestorlaw07_lives.mono _
      | exact attestorlaw07_small.mono _ _ _ _ _
      | exact attestorref07_Cap.mono _ _ _ _ _
      | exact attestorref07_Equal.mono _ _ _
      | exact attestorref07_Path.mono _ _ _ _ _ _
      | exact attestorref07_Replace.mono _ _ _ _ _ _ _ _
      | exact attestorref07_Same.mono _ _ _ _ _ _ _ _ _
      | exact attestorref07_Valid.mono _ _ _ _ _
      | exact tree_Cap.mono _ _ _ _ _
      | exact tree_Path.mono _ _ _ _ _ _
      | exact tree_Replace.mono _ _ _ _ _ _ _ _
      | exact tree_Valid.mono _ _ _ _ _
      | exact LeO.none _
      | refine LeO.ite ?_ ?_
      | refine LeO.bind ?_ (fun _ => ?_)
def attestorlaw07_TreePaths.T3 : Bool × List (List Nat × List Nat) := (true, [([], []), ([0], [0]), ([], []), ([2, 1], [2]), ([1, 3], [1, 3]), ([4, 3], [4]), ([5], [5]), ([6, 5, 5], [5, 6]), ([5], [5]), ([8, 7, 5], [5, 8]), ([7, 9, 9, 5], [5, 7, 9]), ([10, 5], [5, 10]), ([5, 11], [5, 11])])
def attestorlaw07_TreePaths.B3 : List Nat := [0, 1, 0, 7, 15, 31, 63, 127, 63, 511, 1023, 2047, 4095]
theorem attestorlaw07_TreePaths.tab3 : rtab .any (opsOf Tryd.f8 3) = attestorlaw07_TreePaths.T3 := by kernel_rfl
theorem attestorlaw07_TreePaths.bits3 : waitsOk attestorlaw07_TreePaths.T3.2 attestorlaw07_TreePaths.B3 = true := by kernel_rfl
set_option maxHeartbeats 8000000 in
set_option maxRecDepth 100000 in
theorem attestorlaw07_TreePaths.calls (k : Nat) (bE : Int) (bC : Int) (bv : Int) (bM : Option Addr) (bN : Nat) (bi : List (List (S36))) (a1 : Int) (aw : Int) (ax : Int) (r : Bool) (w : World) (cA : Kd.C (Kd.slice 36 k36) w bM bi.length bi) (cB : bi.length ≤ bN) (hrG : GL w) (h : attestorlaw07_TreePaths.f k bE bC bv bi a1 aw ax = some r) :
  Calls Tryd.prog 8 #[.agg #[.int .i64 bE, .int .i64 bC, .int .i64 bv, .slice bM bi.length bN], .int .i64 a1, .agg #[.int .u64 aw, .int .u64 ax]] w fun e w' => e = .returned (.bool r) ∧ Below w.heap.size w w' := by
 have hu26 := Tryd.underlying26
 have hu36 := Tryd.underlying36
 have HRG := aj hrG
 clear hrG
 have dd := aj cA
 have de := aj cB
 clear cA cB
 have HB := aj (Below.refl w.heap.size w)
 have H : ((attestorlaw07_small.f k bE bC bv bi).bind fun aA => ((attestorlaw07_small.f k aA.1 aA.2.1 aA.2.2.1 aA.2.2.2).bind fun ay => ((tree_Valid.f k aA.1 aA.2.1 aA.2.2.1 aA.2.2.2).bind fun bw => ((attestorref07_Valid.f k ay.1 ay.2.1 ay.2.2.1 ay.2.2.2).bind fun bu => (if (bw != bu) = true then (none) else ((tree_Cap.f k aA.1 aA.2.1 aA.2.2.1 aA.2.2.2).bind fun bp => ((attestorref07_Cap.f k ay.1 ay.2.1 ay.2.2.1 ay.2.2.2).bind fun bo => ((attestorref07_Equal.f k bp bo).bind fun bj => (attestorlaw07_TreePaths.j0 k a1 (!bj) aA.1 aA.2.1 aA.2.2.1 aA.2.2.2 aw ax ay.1 ay.2.1 ay.2.2.1 ay.2.2.2))))))))) = some r := h
 clear h
 replace H := Option.bind_eq_some_iff.mp H
 obtain ⟨⟨ak, ao, aq, ah⟩, cC, H⟩ := H
 replace H : ((attestorlaw07_small.f k ak ao aq ah).bind fun ay => ((tree_Valid.f k ak ao aq ah).bind fun bw => ((attestorref07_Valid.f k ay.1 ay.2.1 ay.2.2.1 ay.2.2.2).bind fun bu => (if (bw != bu) = true then (none) else ((tree_Cap.f k ak ao aq ah).bind fun bp => ((attestorref07_Cap.f k ay.1 ay.2.1 ay.2.2.1 ay.2.2.2).bind fun bo => ((attestorref07_Equal.f k bp bo).bind fun bj => (attestorlaw07_TreePaths.j0 k a1 (!bj) ak ao aq ah aw ax ay.1 ay.2.1 ay.2.2.1 ay.2.2.2)))))))) = some r := H
 have A4 := aj cC
 clear cC
 replace H := Option.bind_eq_some_iff.mp H
 obtain ⟨⟨al, ap, ar, ai⟩, df, H⟩ := H
 replace H : ((tree_Valid.f k ak ao aq ah).bind fun bw => ((attestorref07_Valid.f k al ap ar ai).bind fun bu => (if (bw != bu) = true then (none) else ((tree_Cap.f k ak ao aq ah).bind fun bp => ((attestorref07_Cap.f k al ap ar ai).bind fun bo => ((attestorref07_Equal.f k bp bo).bind fun bj => (attestorlaw07_TreePaths.j0 k a1 (!bj) ak ao aq ah aw ax al ap ar ai))))))) = some r := H
 have A5 := aj df
 clear df
 have cJ := aj H
 clear H
 go_enter Tryd.func8, Tryd.ntmps8
 go_upto_region 3 with (first | ((with_reducible refine gate_dst (N := 3) rfl ?_); refine box_event ?hg (N := 3) ?hd (cs := #[.int .i64 bE, .int .i64 bC, .int .i64 bv, .slice bM bi.length bN]) (t := 26) ?hr ?_; (case hd => rfl); (case hg => rfl); (case hr => first | (go_simp; done) | (go_simp; rfl)); intro au hg w7 hbox hb; have aC := aj (below_step (by repeat (first | (with_reducible first | exact HB.out | apply below_alloc | apply pw_below_drewN | apply below_drew1) | exact HB.out)) hb); have aD := aj (hbox); have aE := aj ((by rw [hg]; exact (below_size (by repeat (first | (with_reducible first | exact HB.out | apply below_alloc | apply pw_below_drewN | apply below_drew1) | exact HB.out))) : w.heap.size ≤ au)); clear HB; have HB := aC; have aa := aD; have aQ := aE; clear aC aD aE; clear hb hbox hg) | ((with_reducible refine gate_dst (N := 5) rfl ?_); refine box_event ?hg (N := 5) ?hd (cs := #[.int .u64 aw, .int .u64 ax]) (t := 36) ?hr ?_; (case hd => rfl); (case hg => rfl); (case hr => first | (go_simp; done) | (go_simp; rfl)); intro av hg w8 hbox hb; have aC := aj (blk_below (g := au) (o := .cells #[.int .i64 bE, .int .i64 bC, .int .i64 bv, .slice bM bi.length bN] 26 (0, 0)) aa.out hb); have aD := aj (below_step (by repeat (first | (with_reducible first | exact HB.out | apply below_alloc | apply pw_below_drewN | apply below_drew1 | refine below_set ?_ aQ.out) | exact HB.out)) hb); have aF := aj (hbox); have aK := aj ((by rw [hg]; exact (below_size (by repeat (first | (with_reducible first | exact HB.out | apply below_alloc | apply pw_below_drewN | apply below_drew1 | refine below_set ?_ aQ.out) | exact HB.out))) : w.heap.size ≤ av)); have aO := aj ((by rw [hg]; exact Nat.ne_of_lt (blk_lt (g := au) (o := .cells #[.int .i64 bE, .int .i64 bC, .int .i64 bv, .slice bM bi.length bN] 26 (0, 0)) aa.out) : au ≠ av)); have a7 := aj ((by rw [hg]; exact Nat.ne_of_gt (blk_lt (g := au) (o := .cells #[.int .i64 bE, .int .i64 bC, .int .i64 bv, .slice bM bi.length bN] 26 (0, 0)) aa.out) : av ≠ au)); clear aa; clear HB; have aa := aC; have HB := aD; have ac := aF; have aS := aK; have cm := aO; have a9 := a7; clear aC aD aF aK aO a7; clear hb hbox hg; have fT := cm.out; have fU := a9.out; have du := bq_ aa 0; have dv := bq_ aa 1; have dw := bq_ aa 2; have dx := bq_ aa 3; have dy := blk_frozen aa.out 0; have dz := blk_frozen aa.out 1; have dA := blk_frozen aa.out 2; have dB := blk_frozen aa.out 3) | ((with_reducible refine gate_callee (f := 30) rfl ?_); refine goesL_ (some 17) rfl rfl Tryd.func30 (by kernel_rfl) rfl #[.agg #[.int .i64 bE, .int .i64 bC, .int .i64 bv, .slice bM bi.length bN]] rfl (by (try simp only [List.map_toArray, List.map_cons, List.map_nil]); first | done | rfl | (simp only [List.length_drop, List.length_take]; rfl) | (go_simp; done) | (go_simp; rw [Int.tmod_eq_emod_of_nonneg (by omega)]; omega)) ?_; (with_reducible refine (attestorlaw07_small.calls k bE bC bv _ _ bi ak ao aq ah _ ?side1 ?side2 A4.out).mono ?_); (case side1 => exact (Kd.C_below dd.out HB.out)); (case side2 => exact de.out); rintro e f1 ⟨fV, rfl, ho0, hb⟩; refine ⟨_, rfl, ?_⟩; have aC := aj (Kd.S_lower (Kd.S_newB ho0 (g := av) (o := .cells #[.int .u64 aw, .int .u64 ax] 36 (0, 0)) ac.out) (below_size (by repeat (first | (with_reducible first | exact HB.out | apply below_alloc | apply pw_below_drewN | apply below_drew1 | refine below_set ?_ aQ.out | refine below_set ?_ aS.out) | exact HB.out)))); have aD := aj (blk_below (g := au) (o := .cells #[.int .i64 bE, .int .i64 bC, .int .i64 bv, .slice bM bi.length bN] 26 (0, 0)) aa.out hb); have aF := aj (blk_below (g := av) (o := .cells #[.int .u64 aw, .int .u64 ax] 36 (0, 0)) ac.out hb); have aE := aj (below_step (by repeat (first | (with_reducible first | exact HB.out | apply below_alloc | apply pw_below_drewN | apply below_drew1 | refine below_set ?_ aQ.out | refine below_set ?_ aS.out) | exact HB.out)) hb); clear aa; clear ac; clear HB; have aB := aC; have aa := aD; have ac := aF; have HB := aE; clear aC aD aF aE; (try clear hb); (try clear hb2); (try clear hk); (try clear hi); (try clear ho0); obtain ⟨dC, dD, dE, dF, dG, dH, dI, dJ⟩ := bc4 aa; obtain ⟨aL, aI, dg⟩ := Kd.S_slice aB.out; subst dg) | ((with_reducible refine gate_callee (f := 30) rfl ?_); refine goesL_ (some 19) rfl rfl Tryd.func30 (by kernel_rfl) rfl #[.agg #[.int .i64 ak, .int .i64 ao, .int .i64 aq, .slice aL ah.length aI]] rfl (by (try simp only [List.map_toArray, List.map_cons, List.map_nil]); first | done | rfl | (simp only [List.length_drop, List.length_take]; rfl) | (go_simp; done) | (go_simp; rw [Int.tmod_eq_emod_of_nonneg (by omega)]; omega)) ?_; (with_reducible refine (attestorlaw07_small.calls k ak ao aq _ _ ah al ap ar ai _ ?side1 ?side2 A5.out).mono ?_); (case side1 => refine (Kd.S_reads' (e := 22) (base := w.heap.size) (ok := fun k_ => (True ∧ k_ ≠ av)) (n := ah.length) (c := aI) ?_).2.2; exact (by (with_reducible repeat (first | apply Kd.S_alloc | apply Kd.S_drewN | apply Kd.S_drew)); exact (Kd.S_mono (Kd.S_far (p := ⟨au, 3, none⟩) (Kd.S_far (p := ⟨au, 2, none⟩) (Kd.S_far (p := ⟨au, 1, none⟩) (Kd.S_far (p := ⟨au, 0, none⟩) (Kd.S_types aB.out aa.out (by decide)) (fun _ hk => hk.2) (.int .i64 ak)) (fun _ hk => hk.2) (.int .i64 ao)) (fun _ hk => hk.2) (.int .i64 aq)) (fun _ hk => hk.2) (.slice aL ah.length aI)) (fun _ h_ => h_.1)))); (case side2 => exact (Kd.S_reads' aB.out).2.1); rintro e f2 ⟨fW, rfl, ho0, hb⟩; refine ⟨_, rfl, ?_⟩; have aC := aj (Kd.S_elder' (by (with_reducible repeat (first | apply Kd.S_alloc | apply Kd.S_drewN | apply Kd.S_drew)); exact (Kd.S_mono (Kd.S_far (p := ⟨au, 3, none⟩) (Kd.S_far (p := ⟨au, 2, none⟩) (Kd.S_far (p := ⟨au, 1, none⟩) (Kd.S_far (p := ⟨au, 0, none⟩) (Kd.S_types aB.out aa.out (by decide)) (fun _ hk => hk.2) (.int .i64 ak)) (fun _ hk => hk.2) (.int .i64 ao)) (fun _ hk => hk.2) (.int .i64 aq)) (fun _ hk => hk.2) (.slice aL ah.length aI)) (fun _ h_ => h_.1))) (Kd.S_base ho0) hb); have aD := aj (Kd.S_lower (Kd.S_newB (Kd.S_new' ho0 (Kd.S_lt (by (with_reducible repeat (first | apply Kd.S_alloc | apply Kd.S_drewN | apply Kd.S_drew)); exact (Kd.S_mono (Kd.S_far (p := ⟨au, 3, none⟩) (Kd.S_far (p := ⟨au, 2, none⟩) (Kd.S_far (p := ⟨au, 1, none⟩) (Kd.S_far (p := ⟨au, 0, none⟩) (Kd.S_types aB.out aa.out (by decide)) (fun _ hk => hk.2) (.int .i64 ak)) (fun _ hk => hk.2) (.int .i64 ao)) (fun _ hk => hk.2) (.int .i64 aq)) (fun _ hk => hk.2) (.slice aL ah.length aI)) (fun _ h_ => h_.1))))) (g := av) (o := .cells #[.int .u64 aw, .int .u64 ax] 36 (0, 0)) (by (with_reducible repeat (first | refine blk_drewN ?_ _ | refine blk_drew ?_ | refine blk_alloc ?_ _)); refine blk_far ?_ a9.out _; (with_reducible repeat (first | refine blk_drewN ?_ _ | refine blk_drew ?_ | refine blk_alloc ?_ _)); refine blk_far ?_ a9.out _; (with_reducible repeat (first | refine blk_drewN ?_ _ | refine blk_drew ?_ | refine blk_alloc ?_ _)); refine blk_far ?_ a9.out _; (with_reducible repeat (first | refine blk_drewN ?_ _ | refine blk_drew ?_ | refine blk_alloc ?_ _)); refine blk_far ?_ a9.out _; (with_reducible repeat (first | refine blk_drewN ?_ _ | refine blk_drew ?_ | refine blk_alloc ?_ _)); exact ac.out)) (below_size (by repeat (first | (with_reducible first | exact HB.out | apply below_alloc | apply pw_below_drewN | apply below_drew1 | refine below_set ?_ aQ.out | refine below_set ?_ aS.out) | exact HB.out)))); have aF := aj (blk_below (g := au) (o := .cells #[.int .i64 ak, .int .i64 ao, .int .i64 aq, .slice aL ah.length aI] 26 (0, 0)) (by (with_reducible repeat (first | refine blk_drewN ?_ _ | refine blk_drew ?_ | refine blk_alloc ?_ _)); refine blk_put (cs := #[.int .i64 ak, .int .i64 ao, .int .i64 aq, .slice bM bi.length bN]) ?_ 3 _ rfl; (with_reducible repeat (first | refine blk_drewN ?_ _ | refine blk_drew ?_ | refine blk_alloc ?_ _)); refine blk_put (cs := #[.int .i64 ak, .int .i64 ao, .int .i64 bv, .slice bM bi.length bN]) ?_ 2 _ rfl; (with_reducible repeat (first | refine blk_drewN ?_ _ | refine blk_drew ?_ | refine blk_alloc ?_ _)); refine blk_put (cs := #[.int .i64 ak, .int .i64 bC, .int .i64 bv, .slice bM bi.length bN]) ?_ 1 _ rfl; (with_reducible repeat (first | refine blk_drewN ?_ _ | refine blk_drew ?_ | refine blk_alloc ?_ _)); refine blk_put (cs := #[.int .i64 bE, .int .i64 bC, .int .i64 bv, .slice bM bi.length bN]) ?_ 0 _ rfl; (with_reducible repeat (first | refine blk_drewN ?_ _ | refine blk_drew ?_ | refine blk_alloc ?_ _)); exact aa.out) hb); have aE := aj (blk_below (g := av) (o := .cells #[.int .u64 aw, .int .u64 ax] 36 (0, 0)) (by (with_reducible repeat (first | refine blk_drewN ?_ _ | refine blk_drew ?_ | refine blk_alloc ?_ _)); refine blk_far ?_ a9.out _; (with_reducible repeat (first | refine blk_drewN ?_ _ | refine blk_drew ?_ | refine blk_alloc ?_ _)); refine blk_far ?_ a9.out _; (with_reducible repeat (first | refine blk_drewN ?_ _ | refine blk_drew ?_ | refine blk_alloc ?_ _)); refine blk_far ?_ a9.out _; (with_reducible repeat (first | refine blk_drewN ?_ _ | refine blk_drew ?_ | refine blk_alloc ?_ _)); refine blk_far ?_ a9.out _; (with_reducible repeat (first | refine blk_drewN ?_ _ | refine blk_drew ?_ | refine blk_alloc ?_ _)); exact ac.out) hb); have aK := aj (below_step (by repeat (first | (with_reducible first | exact HB.out | apply below_alloc | apply pw_below_drewN | apply below_drew1 | refine below_set ?_ aQ.out | refine below_set ?_ aS.out) | exact HB.out)) hb); clear aB; clear aa; clear ac; clear HB; have aB := aC; have aN := aD; have aa := aF; have ac := aE; have HB := aK; clear aC aD aF aE aK; (try clear hb); (try clear hb2); (try clear hk); (try clear hi); (try clear ho0)) | ((with_reducible refine gate_dst (N := 7) rfl ?_); refine box_event ?hg (N := 7) ?hd (cs := #[.int .i64 0, .int .i64 0, .int .i64 0, .slice none 0 0]) (t := 26) ?hr ?_; (case hd => rfl); (case hg => rfl); (case hr => first | (go_simp; done) | (go_simp; rfl)); intro ad hg b8 hbox hb; have aC := aj (Kd.S_below (aB.out) hb); have aD := aj (Kd.S_below (aN.out) hb); have aF := aj (blk_below (g := au) (o := .cells #[.int .i64 ak, .int .i64 ao, .int .i64 aq, .slice aL ah.length aI] 26 (0, 0)) aa.out hb); have aE := aj (blk_below (g := av) (o := .cells #[.int .u64 aw, .int .u64 ax] 36 (0, 0)) ac.out hb); have aK := aj (below_step (by repeat (first | (with_reducible first | exact HB.out | apply below_alloc | apply pw_below_drewN | apply below_drew1 | refine below_set ?_ aQ.out | refine below_set ?_ aS.out) | exact HB.out)) hb); have aO := aj (hbox); have bd := aj ((by rw [hg]; exact (below_size (by repeat (first | (with_reducible first | exact HB.out | apply below_alloc | apply pw_below_drewN | apply below_drew1 | refine below_set ?_ aQ.out | refine below_set ?_ aS.out) | exact HB.out))) : w.heap.size ≤ ad)); have bq := aj ((by rw [hg]; exact Nat.ne_of_lt (blk_lt (g := au) (o := .cells #[.int .i64 ak, .int .i64 ao, .int .i64 aq, .slice aL ah.length aI] 26 (0, 0)) aa.out) : au ≠ ad)); have bz := aj ((by rw [hg]; exact Nat.ne_of_gt (blk_lt (g := au) (o := .cells #[.int .i64 ak, .int .i64 ao, .int .i64 aq, .slice aL ah.length aI] 26 (0, 0)) aa.out) : ad ≠ au)); have br := aj ((by rw [hg]; exact Nat.ne_of_lt (blk_lt (g := av) (o := .cells #[.int .u64 aw, .int .u64 ax] 36 (0, 0)) ac.out) : av ≠ ad)); have bs := aj ((by rw [hg]; exact Nat.ne_of_gt (blk_lt (g := av) (o := .cells #[.int .u64 aw, .int .u64 ax] 36 (0, 0)) ac.out) : ad ≠ av)); clear aB; clear aN; clear aa; clear ac; clear HB; have aB := aC; have aN := aD; have aa := aF; have ac := aE; have HB := aK; have ab := aO; have be := bd; have bF := bq; have cn := bz; have bA := br; have b6 := bs; clear aC aD aF aE aK aO bd bq bz br bs; clear hb hbox hg; have fz := cn.out; have fA := bF.out; have fB := b6.out; have fC := bA.out; obtain ⟨dK, dL, dM, dN, dO, dP, dQ, dR⟩ := bc4 ab; obtain ⟨aM, aJ, dh⟩ := Kd.S_slice aN.out; subst dh))
 (try simp only [Act.put, List.setIfInBounds_toArray, List.set_cons_zero, List.set_cons_succ])
 go_cut [32] (fun ff wc => ∃ (kq : Nat) (b7 : Bool), ff = .bool b7 ∧ Aside0 (attestorlaw07_TreePaths.j0 kq a1 b7 ak ao aq ah aw ax al ap ar ai = some r) ∧ Aside0 (kq ≤ k) ∧ Aside0 (Kd.S (Kd.slice 36 k36) 22 wc w.heap.size (fun k_ => some k_ ≠ ((.slice aM ai.length aJ) : Value).ownBlock ∧ k_ ≠ av) (.slice aL ah.length aI) ah) ∧ Aside0 (Kd.S (Kd.slice 36 k36) 22 wc w.heap.size (fun k_ => some k_ ≠ ((.slice aL ah.length aI) : Value).ownBlock ∧ k_ ≠ av) (.slice aM ai.length aJ) ai) ∧ Aside0 (wc.heap[au]? = some (.cells #[.int .i64 ak, .int .i64 ao, .int .i64 aq, (.slice aL ah.length aI)] 26 (0, 0))) ∧ Aside0 (wc.heap[av]? = some (.cells #[.int .u64 aw, .int .u64 ax] 36 (0, 0))) ∧ Aside0 (wc.heap[ad]? = some (.cells #[.int .i64 al, .int .i64 ap, .int .i64 ar, (.slice aM ai.length aJ)] 26 (0, 0))) ∧ Aside0 (Below w.heap.size w wc))
 case first =>
  have H := cJ.out
  clear cJ
  replace H := Option.bind_eq_some_iff.mp H
  obtain ⟨bw, cK, H⟩ := H
  replace H : ((attestorref07_Valid.f k al ap ar ai).bind fun bu => (if (bw != bu) = true then (none) else ((tree_Cap.f k ak ao aq ah).bind fun bp => ((attestorref07_Cap.f k al ap ar ai).bind fun bo => ((attestorref07_Equal.f k bp bo).bind fun bj => (attestorlaw07_TreePaths.j0 k a1 (!bj) ak ao aq ah aw ax al ap ar ai)))))) = some r := H
  have fh := aj cK
  clear cK
  replace H := Option.bind_eq_some_iff.mp H
  obtain ⟨bu, cL, H⟩ := H
  replace H : (if (bw != bu) = true then (none) else ((tree_Cap.f k ak ao aq ah).bind fun bp => ((attestorref07_Cap.f k al ap ar ai).bind fun bo => ((attestorref07_Equal.f k bp bo).bind fun bj => (attestorlaw07_TreePaths.j0 k a1 (!bj) ak ao aq ah aw ax al ap ar ai))))) = some r := H
  have fi := aj cL
  clear cL
  by_cases cg : (bw != bu) = true
  ·rw [if_pos cg] at H
   exact absurd H (by simp)
  ·rw [if_neg cg] at H
   have c22b0 : (bw != bu) = false := by simpa using cg
   (try (have c22b1 : decide (bw = bu) = true := by simpa using cg))
   (try (have c22b2 : (bw == bu) = true := by simpa using cg))
   clear cg
   (first | rw [c22b0] | (simp only [i64_w, i32_w]; rw [c22b0]) | skip)
   replace H := Option.bind_eq_some_iff.mp H
   obtain ⟨bp, cM, H⟩ := H
   replace H : ((attestorref07_Cap.f k al ap ar ai).bind fun bo => ((attestorref07_Equal.f k bp bo).bind fun bj => (attestorlaw07_TreePaths.j0 k a1 (!bj) ak ao aq ah aw ax al ap ar ai))) = some r := H
   have fj := aj cM
   clear cM
   replace H := Option.bind_eq_some_iff.mp H
   obtain ⟨bo, cN, H⟩ := H
   replace H : ((attestorref07_Equal.f k bp bo).bind fun bj => (attestorlaw07_TreePaths.j0 k a1 (!bj) ak ao aq ah aw ax al ap ar ai)) = some r := H
   have fk := aj cN
   clear cN
   replace H := Option.bind_eq_some_iff.mp H
   obtain ⟨bj, cO, H⟩ := H
   replace H : (attestorlaw07_TreePaths.j0 k a1 (!bj) ak ao aq ah aw ax al ap ar ai) = some r := H
   have fm := aj cO
   clear cO
   have H' := aj H
   clear H
   try go_wp2
   have aC : Aside0 (Kd.S (Kd.slice 36 k36) 22 ((((b8.setCell ⟨ad, 0, none⟩ (.int .i64 al)).setCell ⟨ad, 1, none⟩ (.int .i64 ap)).setCell ⟨ad, 2, none⟩ (.int .i64 ar)).setCell ⟨ad, 3, none⟩ (.slice aM ai.length aJ)) w.heap.size (fun k_ => some k_ ≠ (.slice aM ai.length aJ : Value).ownBlock ∧ k_ ≠ av) (.slice aL ah.length aI) ah) := ⟨by (with_reducible repeat (first | apply Kd.S_alloc | apply Kd.S_drewN | apply Kd.S_drew)); exact Kd.S_mono (Kd.S_far (p := ⟨ad, 3, none⟩) (Kd.S_far (p := ⟨ad, 2, none⟩) (Kd.S_far (p := ⟨ad, 1, none⟩) (Kd.S_far (p := ⟨ad, 0, none⟩) (Kd.S_types aB.out ab.out (by decide)) (fun _ hk => hk.2) (.int .i64 al)) (fun _ hk => hk.2) (.int .i64 ap)) (fun _ hk => hk.2) (.int .i64 ar)) (fun _ hk => hk.2) (.slice aM ai.length aJ)) (fun _ hk => ⟨hk.1.2, hk.1.1.2⟩)⟩
   have aD : Aside0 (Kd.S (Kd.slice 36 k36) 22 ((((b8.setCell ⟨ad, 0, none⟩ (.int .i64 al)).setCell ⟨ad, 1, none⟩ (.int .i64 ap)).setCell ⟨ad, 2, none⟩ (.int .i64 ar)).setCell ⟨ad, 3, none⟩ (.slice aM ai.length aJ)) w.heap.size (fun k_ => some k_ ≠ (.slice aL ah.length aI : Value).ownBlock ∧ k_ ≠ av) (.slice aM ai.length aJ) ai) := ⟨by (with_reducible repeat (first | apply Kd.S_alloc | apply Kd.S_drewN | apply Kd.S_drew)); exact Kd.S_mono (Kd.S_far (p := ⟨ad, 3, none⟩) (Kd.S_far (p := ⟨ad, 2, none⟩) (Kd.S_far (p := ⟨ad, 1, none⟩) (Kd.S_far (p := ⟨ad, 0, none⟩) (Kd.S_types aN.out ab.out (by decide)) (fun _ hk => hk.2) (.int .i64 al)) (fun _ hk => hk.2) (.int .i64 ap)) (fun _ hk => hk.2) (.int .i64 ar)) (fun _ hk => hk.2) (.slice aM ai.length aJ)) (fun _ hk => ⟨hk.1.1.2, hk.1.2⟩)⟩
   have aF : Aside0 (((((b8.setCell ⟨ad, 0, none⟩ (.int .i64 al)).setCell ⟨ad, 1, none⟩ (.int .i64 ap)).setCell ⟨ad, 2, none⟩ (.int .i64 ar)).setCell ⟨ad, 3, none⟩ (.slice aM ai.length aJ)).heap[au]? = some (.cells #[.int .i64 ak, .int .i64 ao, .int .i64 aq, .slice aL ah.length aI] 26 (0, 0))) := ⟨by (with_reducible repeat (first | refine blk_drewN ?_ _ | refine blk_drew ?_ | refine blk_alloc ?_ _)); refine blk_far ?_ bF.out _; (with_reducible repeat (first | refine blk_drewN ?_ _ | refine blk_drew ?_ | refine blk_alloc ?_ _)); refine blk_far ?_ bF.out _; (with_reducible repeat (first | refine blk_drewN ?_ _ | refine blk_drew ?_ | refine blk_alloc ?_ _)); refine blk_far ?_ bF.out _; (with_reducible repeat (first | refine blk_drewN ?_ _ | refine blk_drew ?_ | refine blk_alloc ?_ _)); refine blk_far ?_ bF.out _; (with_reducible repeat (first | refine blk_drewN ?_ _ | refine blk_drew ?_ | refine blk_alloc ?_ _)); exact aa.out⟩
   have aE : Aside0 (((((b8.setCell ⟨ad, 0, none⟩ (.int .i64 al)).setCell ⟨ad, 1, none⟩ (.int .i64 ap)).setCell ⟨ad, 2, none⟩ (.int .i64 ar)).setCell ⟨ad, 3, none⟩ (.slice aM ai.length aJ)).heap[av]? = some (.cells #[.int .u64 aw, .int .u64 ax] 36 (0, 0))) := ⟨by (with_reducible repeat (first | refine blk_drewN ?_ _ | refine blk_drew ?_ | refine blk_alloc ?_ _)); refine blk_far ?_ bA.out _; (with_reducible repeat (first | refine blk_drewN ?_ _ | refine blk_drew ?_ | refine blk_alloc ?_ _)); refine blk_far ?_ bA.out _; (with_reducible repeat (first | refine blk_drewN ?_ _ | refine blk_drew ?_ | refine blk_alloc ?_ _)); refine blk_far ?_ bA.out _; (with_reducible repeat (first | refine blk_drewN ?_ _ | refine blk_drew ?_ | refine blk_alloc ?_ _)); refine blk_far ?_ bA.out _; (with_reducible repeat (first | refine blk_drewN ?_ _ | refine blk_drew ?_ | refine blk_alloc ?_ _)); exact ac.out⟩
   have aK : Aside0 (((((b8.setCell ⟨ad, 0, none⟩ (.int .i64 al)).setCell ⟨ad, 1, none⟩ (.int .i64 ap)).setCell ⟨ad, 2, none⟩ (.int .i64 ar)).setCell ⟨ad, 3, none⟩ (.slice aM ai.length aJ)).heap[ad]? = some (.cells #[.int .i64 al, .int .i64 ap, .int .i64 ar, .slice aM ai.length aJ] 26 (0, 0))) := ⟨by (with_reducible repeat (first | refine blk_drewN ?_ _ | refine blk_drew ?_ | refine blk_alloc ?_ _)); refine blk_put (cs := #[.int .i64 al, .int .i64 ap, .int .i64 ar, .slice none 0 0]) ?_ 3 _ rfl; (with_reducible repeat (first | refine blk_drewN ?_ _ | refine blk_drew ?_ | refine blk_alloc ?_ _)); refine blk_put (cs := #[.int .i64 al, .int .i64 ap, .int .i64 0, .slice none 0 0]) ?_ 2 _ rfl; (with_reducible repeat (first | refine blk_drewN ?_ _ | refine blk_drew ?_ | refine blk_alloc ?_ _)); refine blk_put (cs := #[.int .i64 al, .int .i64 0, .int .i64 0, .slice none 0 0]) ?_ 1 _ rfl; (with_reducible repeat (first | refine blk_drewN ?_ _ | refine blk_drew ?_ | refine blk_alloc ?_ _)); refine blk_put (cs := #[.int .i64 0, .int .i64 0, .int .i64 0, .slice none 0 0]) ?_ 0 _ rfl; (with_reducible repeat (first | refine blk_drewN ?_ _ | refine blk_drew ?_ | refine blk_alloc ?_ _)); exact ab.out⟩
   have aO : Aside0 (Below w.heap.size w ((((b8.setCell ⟨ad, 0, none⟩ (.int .i64 al)).setCell ⟨ad, 1, none⟩ (.int .i64 ap)).setCell ⟨ad, 2, none⟩ (.int .i64 ar)).setCell ⟨ad, 3, none⟩ (.slice aM ai.length aJ))) := ⟨by repeat (first | (with_reducible first | exact HB.out | apply below_alloc | apply pw_below_drewN | apply below_drew1 | refine below_set ?_ aQ.out | refine below_set ?_ aS.out | refine below_set ?_ be.out) | exact HB.out)⟩
   generalize ((((b8.setCell ⟨ad, 0, none⟩ (.int .i64 al)).setCell ⟨ad, 1, none⟩ (.int .i64 ap)).setCell ⟨ad, 2, none⟩ (.int .i64 ar)).setCell ⟨ad, 3, none⟩ (.slice aM ai.length aJ)) = fo at aC aD aF aE aK aO ⊢
   have aB := aC
   have aN := aD
   have aa := aF
   have ac := aE
   have ab := aK
   have HB := aO
   have aC := aj (Kd.S_drew aB.out)
   have aD := aj (Kd.S_drew aN.out)
   have aF := aj (blk_drew aa.out)
   have aE := aj (blk_drew ac.out)
   have aK := aj (blk_drew ab.out)
   have aO := aj (below_drew1 HB.out)
   clear aB
   clear aN
   clear aa
   clear ac
   clear ab
   clear HB
   have aB := aC
   have aN := aD
   have aa := aF
   have ac := aE
   have ab := aK
   have HB := aO
   refine start_ (n := 13) (S := fun w' => w'.cell? ⟨au, 0, none⟩ = some (.int .i64 ak) ∧ w'.cell? ⟨au, 1, none⟩ = some (.int .i64 ao) ∧ w'.cell? ⟨au, 2, none⟩ = some (.int .i64 aq) ∧ w'.cell? ⟨au, 3, none⟩ = some (.slice aL ah.length aI) ∧ w'.cell? ⟨ad, 0, none⟩ = some (.int .i64 al) ∧ w'.cell? ⟨ad, 1, none⟩ = some (.int .i64 ap) ∧ w'.cell? ⟨ad, 2, none⟩ = some (.int .i64 ar) ∧ w'.cell? ⟨ad, 3, none⟩ = some (.slice aM ai.length aJ)) (ds := []) #[false, false, false, false, false, false, false, false, false, false, false, false, false] (by kernel_rfl) rfl rfl ⟨(blk_cell aa.out 0).trans rfl, (blk_cell aa.out 1).trans rfl, (blk_cell aa.out 2).trans rfl, (blk_cell aa.out 3).trans rfl, (blk_cell ab.out 0).trans rfl, (blk_cell ab.out 1).trans rfl, (blk_cell ab.out 2).trans rfl, (blk_cell ab.out 3).trans rfl⟩ (fun hHeld => ?_); refine with_tabW attestorlaw07_TreePaths.tab3 attestorlaw07_TreePaths.bits3 (fun HT_ HW_ => ?_)
   generalize fo.drew = f3 at aB aN aa ac ab HB hHeld ⊢
   refine tz_ 0 20 (zb 13 1) ?_
   refine tz_ 2 22 (zb 13 5) ?_
   refine one_ (i := 1) (N := some 21) #[true, true, true, false, false, false, false, false, false, false, false, false, false] rfl rfl (one_of HT_.out (by kernel_rfl)) (by decide) (fun K hK => ?_)
   refine goes_ Tryd.func16 (by kernel_rfl) rfl #[.agg #[.int .i64 ak, .int .i64 ao, .int .i64 aq, .slice aL ah.length aI]] (by rfl) rfl rfl (by (try simp only [List.map_toArray, List.map_cons, List.map_nil]); first | done | rfl | (simp only [List.length_drop, List.length_take]; rfl) | (go_simp; done) | (go_simp; rw [Int.tmod_eq_emod_of_nonneg (by omega)]; omega)) ?_
   with_reducible refine (tree_Valid.calls k ak ao aq _ _ ah bw _ ?side1 ?side2 ?side3 fh.out).mono ?_
   (case side1 => exact (Kd.S_reads' aB.out).2.2)
   (case side2 => exact (Kd.S_reads' aB.out).2.1)
   (case side3 => repeat (first | exact (GL.below HRG.out HB.out) | (with_reducible refine GL.alloc ?_ _) | (with_reducible refine GL.drewN ?_ _) | (with_reducible refine GL.drew ?_)))
   rintro e f4 ⟨rfl, hb⟩
   refine ⟨_, rfl, ?_⟩
   have aC := aj (Kd.S_below (aB.out) hb)
   have aD := aj (Kd.S_below (aN.out) hb)
   have aF := aj (blk_below aa.out hb)
   have aE := aj (blk_below ac.out hb)
   have aK := aj (blk_below ab.out hb)
   have aO := aj (below_step HB.out hb)
   clear aB
   clear aN
   clear aa
   clear ac
   clear ab
   clear HB
   have aB := aC
   have aN := aD
   have aa := aF
   have ac := aE
   have ab := aK
   have HB := aO
   refine hK.out _ _ ⟨(blk_cell aa.out 0).trans rfl, (blk_cell aa.out 1).trans rfl, (blk_cell aa.out 2).trans rfl, (blk_cell aa.out 3).trans rfl, (blk_cell ab.out 0).trans rfl, (blk_cell ab.out 1).trans rfl, (blk_cell ab.out 2).trans rfl, (blk_cell ab.out 3).trans rfl⟩ (fun hHeld => ?_)
   clear hK K
   refine norm_ (a' := ?_) ?_ ?_
   rotate_left
   ·show Act.put _ (some 21) _ = _
    simp only [Act.put, List.setIfInBounds_toArray, List.set_cons_zero, List.set_cons_succ, i64_w, i32_w]
    rfl
   refine one_ (i := 3) (N := some 23) #[true, true, true, true, false, false, false, false, false, false, false, false, false] rfl rfl (one_of HT_.out (by kernel_rfl)) (by decide) (fun K hK => ?_)
   refine goes_ Tryd.func17 (by kernel_rfl) rfl #[.agg #[.int .i64 al, .int .i64 ap, .int .i64 ar, .slice aM ai.length aJ]] (by rfl) rfl rfl (by (try simp only [List.map_toArray, List.map_cons, List.map_nil]); first | done | rfl | (simp only [List.length_drop, List.length_take]; rfl) | (go_simp; done) | (go_simp; rw [Int.tmod_eq_emod_of_nonneg (by omega)]; omega)) ?_
   with_reducible refine (attestorref07_Valid.calls k al ap ar _ _ ai bu _ ?side1 ?side2 fi.out).mono ?_
   (case side1 => exact (Kd.S_reads' aN.out).2.2)
   (case side2 => exact (Kd.S_reads' aN.out).2.1)
   rintro e f5 ⟨rfl, hb⟩
   refine ⟨_, rfl, ?_⟩
   have aC := aj (Kd.S_below (aB.out) hb)
   have aD := aj (Kd.S_below (aN.out) hb)
   have aF := aj (blk_below aa.out hb)
   have aE := aj (blk_below ac.out hb)
   have aK := aj (blk_below ab.out hb)
   have aO := aj (below_step HB.out hb)
   clear aB
   clear aN
   clear aa
   clear ac
   clear ab
   clear HB
   have aB := aC
   have aN := aD
   have aa := aF
   have ac := aE
   have ab := aK
   have HB := aO
   refine hK.out _ _ ⟨(blk_cell aa.out 0).trans rfl, (blk_cell aa.out 1).trans rfl, (blk_cell aa.out 2).trans rfl, (blk_cell aa.out 3).trans rfl, (blk_cell ab.out 0).trans rfl, (blk_cell ab.out 1).trans rfl, (blk_cell ab.out 2).trans rfl, (blk_cell ab.out 3).trans rfl⟩ (fun hHeld => ?_)
   clear hK K
   refine norm_ (a' := ?_) ?_ ?_
   rotate_left
   ·show Act.put _ (some 23) _ = _
    simp only [Act.put, List.setIfInBounds_toArray, List.set_cons_zero, List.set_cons_succ, i64_w, i32_w]
    rfl
   refine pz_ 4 24 (zb 13 31) ?_
   refine pz_ 5 25 (zb 13 63) ?_
   refine tz_ 6 26 (zb 13 127) ?_
   refine tz_ 8 28 (zb 13 383) ?_
   refine one_ (i := 7) (N := some 27) #[true, true, true, true, true, true, true, true, true, false, false, false, false] rfl rfl (one_of HT_.out (by kernel_rfl)) (by decide) (fun K hK => ?_)
   refine goes_ Tryd.func19 (by kernel_rfl) rfl #[.agg #[.int .i64 ak, .int .i64 ao, .int .i64 aq, .slice aL ah.length aI]] (by rfl) rfl rfl (by (try simp only [List.map_toArray, List.map_cons, List.map_nil]); first | done | rfl | (simp only [List.length_drop, List.length_take]; rfl) | (go_simp; done) | (go_simp; rw [Int.tmod_eq_emod_of_nonneg (by omega)]; omega)) ?_
   with_reducible refine (tree_Cap.calls k ak ao aq _ _ ah bp _ ?side1 ?side2 ?side3 fj.out).mono ?_
   (case side1 => exact (Kd.S_reads' aB.out).2.2)
   (case side2 => exact (Kd.S_reads' aB.out).2.1)
   (case side3 => repeat (first | exact (GL.below HRG.out HB.out) | (with_reducible refine GL.alloc ?_ _) | (with_reducible refine GL.drewN ?_ _) | (with_reducible refine GL.drew ?_)))
   rintro e f6 ⟨fX, rfl, ho0, hb⟩
   refine ⟨_, rfl, ?_⟩
   have aC := aj (Kd.S_elder' (aB.out) (Kd.R_base ho0) hb)
   have aD := aj (Kd.S_elder' (aN.out) (Kd.R_base ho0) hb)
   have aF := aj (Kd.R_lower (Kd.R_newB ho0 ac.out) (below_size HB.out))
   have aE := aj (blk_below aa.out hb)
   have aK := aj (blk_below ac.out hb)
   have aO := aj (blk_below ab.out hb)
   have a7 := aj (below_step HB.out hb)
   clear aB
   clear aN
   clear aa
   clear ac
   clear ab
   clear HB
   have aB := aC
   have aN := aD
   have bQ := aF
   have aa := aE
   have ac := aK
   have ab := aO
   have HB := a7
   refine hK.out _ _ ⟨(blk_cell aa.out 0).trans rfl, (blk_cell aa.out 1).trans rfl, (blk_cell aa.out 2).trans rfl, (blk_cell aa.out 3).trans rfl, (blk_cell ab.out 0).trans rfl, (blk_cell ab.out 1).trans rfl, (blk_cell ab.out 2).trans rfl, (blk_cell ab.out 3).trans rfl⟩ (fun hHeld => ?_)
   clear hK K
   refine norm_ (a' := ?_) ?_ ?_
   rotate_left
   ·show Act.put _ (some 27) _ = _
    simp only [Act.put, List.setIfInBounds_toArray, List.set_cons_zero, List.set_cons_succ, i64_w, i32_w]
    rfl
   refine one_ (i := 9) (N := some 29) #[true, true, true, true, true, true, true, true, true, true, false, false, false] rfl rfl (one_of HT_.out (by kernel_rfl)) (by decide) (fun K hK => ?_)
   refine goes_ Tryd.func20 (by kernel_rfl) rfl #[.agg #[.int .i64 al, .int .i64 ap, .int .i64 ar, .slice aM ai.length aJ]] (by rfl) rfl rfl (by (try simp only [List.map_toArray, List.map_cons, List.map_nil]); first | done | rfl | (simp only [List.length_drop, List.length_take]; rfl) | (go_simp; done) | (go_simp; rw [Int.tmod_eq_emod_of_nonneg (by omega)]; omega)) ?_
   with_reducible refine (attestorref07_Cap.calls k al ap ar _ _ ai bo _ ?side1 ?side2 fk.out).mono ?_
   (case side1 => exact (Kd.S_reads' aN.out).2.2)
   (case side2 => exact (Kd.S_reads' aN.out).2.1)
   rintro e f7 ⟨fY, rfl, ho0, hb⟩
   refine ⟨_, rfl, ?_⟩
   have aC := aj (Kd.S_elder' (aB.out) (Kd.R_base ho0) hb)
   have aD := aj (Kd.S_elder' (aN.out) (Kd.R_base ho0) hb)
   have aF := aj (Kd.R_elder' (bQ.out) (Kd.R_base ho0) hb)
   have aE := aj (Kd.R_lower (Kd.R_newB (Kd.R_new' ho0 (Kd.R_lt (bQ.out))) ac.out) (below_size HB.out))
   have aK := aj (blk_below aa.out hb)
   have aO := aj (blk_below ac.out hb)
   have a7 := aj (blk_below ab.out hb)
   have bd := aj (below_step HB.out hb)
   clear aB
   clear aN
   clear bQ
   clear aa
   clear ac
   clear ab
   clear HB
   have aB := aC
   have aN := aD
   have bQ := aF
   have ci := aE
   have aa := aK
   have ac := aO
   have ab := a7
   have HB := bd
   obtain ⟨di, dj, cP⟩ := Kd.R_slice bQ.out
   (first | subst cP | (injection cP with f1_ f2_ f3_; have f4_ := f1_.symm; have f5_ := f3_.symm; clear f1_ f2_ f3_; subst f4_; subst f5_))
   obtain ⟨dk, dl, cQ⟩ := Kd.R_slice ci.out
   (first | subst cQ | (injection cQ with f1_ f2_ f3_; have f4_ := f1_.symm; have f5_ := f3_.symm; clear f1_ f2_ f3_; subst f4_; subst f5_))
   refine hK.out _ _ ⟨(blk_cell aa.out 0).trans rfl, (blk_cell aa.out 1).trans rfl, (blk_cell aa.out 2).trans rfl, (blk_cell aa.out 3).trans rfl, (blk_cell ab.out 0).trans rfl, (blk_cell ab.out 1).trans rfl, (blk_cell ab.out 2).trans rfl, (blk_cell ab.out 3).trans rfl⟩ (fun hHeld => ?_)
   clear hK K
   refine norm_ (a' := ?_) ?_ ?_
   rotate_left
   ·show Act.put _ (some 29) _ = _
    simp only [Act.put, List.setIfInBounds_toArray, List.set_cons_zero, List.set_cons_succ, i64_w, i32_w]
    rfl
   refine one_ (i := 10) (N := some 30) #[true, true, true, true, true, true, true, true, true, true, true, false, false] rfl rfl (one_of HT_.out (by kernel_rfl)) (by decide) (fun K hK => ?_)
   refine goes_ Tryd.func18 (by kernel_rfl) rfl #[.slice di bp.length dj, .slice dk bo.length dl] (by rfl) rfl rfl (by (try simp only [List.map_toArray, List.map_cons, List.map_nil]); first | done | rfl | (simp only [List.length_drop, List.length_take]; rfl) | (go_simp; done) | (go_simp; rw [Int.tmod_eq_emod_of_nonneg (by omega)]; omega)) ?_
   with_reducible refine (attestorref07_Equal.calls k _ _ bp _ _ bo bj _ ?side1 ?side2 ?side3 ?side4 fm.out).mono ?_
   (case side1 => exact (Kd.R_reads' bQ.out).2.2)
   (case side2 => exact (Kd.R_reads' bQ.out).2.1)
   (case side3 => exact (Kd.R_reads' ci.out).2.2)
   (case side4 => exact (Kd.R_reads' ci.out).2.1)
   rintro e w' ⟨rfl, ⟨nd, rfl⟩⟩
   refine ⟨_, rfl, ?_⟩
   refine hK.out _ _ ⟨(blk_cell aa.out 0).trans rfl, (blk_cell aa.out 1).trans rfl, (blk_cell aa.out 2).trans rfl, (blk_cell aa.out 3).trans rfl, (blk_cell ab.out 0).trans rfl, (blk_cell ab.out 1).trans rfl, (blk_cell ab.out 2).trans rfl, (blk_cell ab.out 3).trans rfl⟩ (fun hHeld => ?_)
   clear hK K
   refine norm_ (a' := ?_) ?_ ?_
   rotate_left
   ·show Act.put _ (some 30) _ = _
    simp only [Act.put, List.setIfInBounds_toArray, List.set_cons_zero, List.set_cons_succ, i64_w, i32_w]
    rfl
   refine pz_ 11 31 (zb 13 4095) ?_
   refine pz_ 12 32 (zb 13 8191) ?_
   refine done_ (done_of HT_.out (by kernel_rfl)) ?_
   try go_wp2
   go_meet
   case rel => exact ⟨_, (!bj), (by first | rfl | simp), H', ⟨by first | omega | exact Nat.le_refl _⟩, ⟨by (with_reducible repeat (first | apply Kd.S_alloc | apply Kd.S_drewN | apply Kd.S_drew)); exact Kd.S_mono aB.out (fun _ hk => ⟨hk.1.1.1, hk.1.1.2⟩)⟩, ⟨by (with_reducible repeat (first | apply Kd.S_alloc | apply Kd.S_drewN | apply Kd.S_drew)); exact Kd.S_mono aN.out (fun _ hk => ⟨hk.1.1.1, hk.1.1.2⟩)⟩, ⟨aa.out⟩, ⟨ac.out⟩, ⟨ab.out⟩, ⟨(by first | exact HB.out | exact below_drew1 HB.out | exact pw_below_drewN HB.out _)⟩⟩
 case rest =>
  clear cJ
  obtain ⟨kq, b7, rfl, HA, f9, ae, af, aa, ac, ab, HB⟩ := hcut
  cases kq with
  | zero => exact absurd HA.out (by simp [attestorlaw07_TreePaths.j0])
  | succ kj5 =>
   have H := HA.out
   clear HA
   simp only [attestorlaw07_TreePaths.j0] at H
   by_cases cD : b7 = true
   ·subst cD
    have H1 : (none) = some r := by rw [if_pos rfl] at H; exact H
    clear H
    have H := H1
    clear H1
    exact absurd H (by simp)
   ·replace cD := Bool.eq_false_iff.mpr cD
    subst cD
    have H1 : ((tree_Path.f kj5 ak ao aq ah a1).bind fun bX => ((attestorref07_Path.f kj5 al ap ar ai a1).bind fun bO => ((tree_Replace.f kj5 ak ao aq ah a1 aw ax).bind fun aR => ((attestorref07_Replace.f kj5 al ap ar ai a1 aw ax).bind fun aH => (if bX.2 = bO.2 then ((attestorref07_Equal.f kj5 bX.1 bO.1).bind fun bB => (if bB = true then (if aR.2.2.2.2 = aH.2.2.2.2 then ((attestorref07_Same.f kj5 aR.1 aR.2.1 aR.2.2.1 aR.2.2.2.1 aH.1 aH.2.1 aH.2.2.1 aH.2.2.2.1).bind fun bn => (if bn = true then ((attestorref07_Same.f kj5 ak ao aq ah al ap ar ai).bind fun a8 => (if a8 = true then ((attestorlaw07_lives.f kj5).bind fun aW => (some aW)) else (none))) else (none))) else (none)) else (none))) else (none)))))) = some r := by rw [if_neg (show ¬ (false = true) by decide)] at H; exact H
    clear H
    have H := H1
    clear H1
    replace H := Option.bind_eq_some_iff.mp H
    obtain ⟨⟨bP, bT⟩, cR, H⟩ := H
    replace H : ((attestorref07_Path.f kj5 al ap ar ai a1).bind fun bO => ((tree_Replace.f kj5 ak ao aq ah a1 aw ax).bind fun aR => ((attestorref07_Replace.f kj5 al ap ar ai a1 aw ax).bind fun aH => (if bT = bO.2 then ((attestorref07_Equal.f kj5 bP bO.1).bind fun bB => (if bB = true then (if aR.2.2.2.2 = aH.2.2.2.2 then ((attestorref07_Same.f kj5 aR.1 aR.2.1 aR.2.2.1 aR.2.2.2.1 aH.1 aH.2.1 aH.2.2.1 aH.2.2.2.1).bind fun bn => (if bn = true then ((attestorref07_Same.f kj5 ak ao aq ah al ap ar ai).bind fun a8 => (if a8 = true then ((attestorlaw07_lives.f kj5).bind fun aW => (some aW)) else (none))) else (none))) else (none)) else (none))) else (none))))) = some r := H
    have fq := aj cR
    clear cR
    replace H := Option.bind_eq_some_iff.mp H
    obtain ⟨⟨bR, bV⟩, cS, H⟩ := H
    replace H : ((tree_Replace.f kj5 ak ao aq ah a1 aw ax).bind fun aR => ((attestorref07_Replace.f kj5 al ap ar ai a1 aw ax).bind fun aH => (if bT = bV then ((attestorref07_Equal.f kj5 bP bR).bind fun bB => (if bB = true then (if aR.2.2.2.2 = aH.2.2.2.2 then ((attestorref07_Same.f kj5 aR.1 aR.2.1 aR.2.2.1 aR.2.2.2.1 aH.1 aH.2.1 aH.2.2.1 aH.2.2.2.1).bind fun bn => (if bn = true then ((attestorref07_Same.f kj5 ak ao aq ah al ap ar ai).bind fun a8 => (if a8 = true then ((attestorlaw07_lives.f kj5).bind fun aW => (some aW)) else (none))) else (none))) else (none)) else (none))) else (none)))) = some r := H
    have fs := aj cS
    clear cS
    replace H := Option.bind_eq_some_iff.mp H
    obtain ⟨⟨aU, aX, aZ, aV, bU⟩, cT, H⟩ := H
    replace H : ((attestorref07_Replace.f kj5 al ap ar ai a1 aw ax).bind fun aH => (if bT = bV then ((attestorref07_Equal.f kj5 bP bR).bind fun bB => (if bB = true then (if bU = aH.2.2.2.2 then ((attestorref07_Same.f kj5 aU aX aZ aV aH.1 aH.2.1 aH.2.2.1 aH.2.2.2.1).bind fun bn => (if bn = true then ((attestorref07_Same.f kj5 ak ao aq ah al ap ar ai).bind fun a8 => (if a8 = true then ((attestorlaw07_lives.f kj5).bind fun aW => (some aW)) else (none))) else (none))) else (none)) else (none))) else (none))) = some r := H
    have fu := aj cT
    clear cT
    replace H := Option.bind_eq_some_iff.mp H
    obtain ⟨⟨bb, bf, bl, bg, bW⟩, cU, H⟩ := H
    replace H : (if bT = bV then ((attestorref07_Equal.f kj5 bP bR).bind fun bB => (if bB = true then (if bU = bW then ((attestorref07_Same.f kj5 aU aX aZ aV bb bf bl bg).bind fun bn => (if bn = true then ((attestorref07_Same.f kj5 ak ao aq ah al ap ar ai).bind fun a8 => (if a8 = true then ((attestorlaw07_lives.f kj5).bind fun aW => (some aW)) else (none))) else (none))) else (none)) else (none))) else (none)) = some r := H
    have fv := aj cU
    clear cU
    by_cases co : bT = bV
    ·rw [if_pos co] at H
     have c39b0 : (bT == bV) = true := beq_iff_eq.mpr co
     have c39b1 : (bT != bV) = false := bne_eq_false_iff_eq.mpr co
     clear co
     replace H := Option.bind_eq_some_iff.mp H
     obtain ⟨bB, cV, H⟩ := H
     replace H : (if bB = true then (if bU = bW then ((attestorref07_Same.f kj5 aU aX aZ aV bb bf bl bg).bind fun bn => (if bn = true then ((attestorref07_Same.f kj5 ak ao aq ah al ap ar ai).bind fun a8 => (if a8 = true then ((attestorlaw07_lives.f kj5).bind fun aW => (some aW)) else (none))) else (none))) else (none)) else (none)) = some r := H
     have cC := aj cV
     clear cV
     by_cases cE : bB = true
     ·subst cE
      have H1 : (if bU = bW then ((attestorref07_Same.f kj5 aU aX aZ aV bb bf bl bg).bind fun bn => (if bn = true then ((attestorref07_Same.f kj5 ak ao aq ah al ap ar ai).bind fun a8 => (if a8 = true then ((attestorlaw07_lives.f kj5).bind fun aW => (some aW)) else (none))) else (none))) else (none)) = some r := by rw [if_pos rfl] at H; exact H
      clear H
      have H := H1
      clear H1
      by_cases cp : bU = bW
      ·rw [if_pos cp] at H
       have c42b0 : (bU == bW) = true := beq_iff_eq.mpr cp
       have c42b1 : (bU != bW) = false := bne_eq_false_iff_eq.mpr cp
       clear cp
       replace H := Option.bind_eq_some_iff.mp H
       obtain ⟨bn, cW, H⟩ := H
       replace H : (if bn = true then ((attestorref07_Same.f kj5 ak ao aq ah al ap ar ai).bind fun a8 => (if a8 = true then ((attestorlaw07_lives.f kj5).bind fun aW => (some aW)) else (none))) else (none)) = some r := H
       have fw := aj cW
       clear cW
       by_cases cF : bn = true
       ·subst cF
        have H1 : ((attestorref07_Same.f kj5 ak ao aq ah al ap ar ai).bind fun a8 => (if a8 = true then ((attestorlaw07_lives.f kj5).bind fun aW => (some aW)) else (none))) = some r := by rw [if_pos rfl] at H; exact H
        clear H
        have H := H1
        clear H1
        replace H := Option.bind_eq_some_iff.mp H
        obtain ⟨a8, cX, H⟩ := H
        replace H : (if a8 = true then ((attestorlaw07_lives.f kj5).bind fun aW => (some aW)) else (none)) = some r := H
        have fx := aj cX
        clear cX
        by_cases cG : a8 = true
        ·subst cG
         have H1 : ((attestorlaw07_lives.f kj5).bind fun aW => (some aW)) = some r := by rw [if_pos rfl] at H; exact H
         clear H
         have H := H1
         clear H1
         replace H := Option.bind_eq_some_iff.mp H
         obtain ⟨aW, cY, H⟩ := H
         replace H : (some aW) = some r := H
         have fy := aj cY
         clear cY
         obtain rfl := Option.some.inj H
         obtain ⟨dS, dT, dU, dV, dW, dX, dY, dZ⟩ := bc4 aa
         go_wp2_with (first | ((with_reducible refine gate_callee (f := 23) rfl ?_); refine goesL_ (some 36) rfl rfl Tryd.func23 (by kernel_rfl) rfl #[.agg #[.int .i64 ak, .int .i64 ao, .int .i64 aq, .slice aL ah.length aI], .int .i64 a1] rfl (by (try simp only [List.map_toArray, List.map_cons, List.map_nil]); first | done | rfl | (simp only [List.length_drop, List.length_take]; rfl) | (go_simp; done) | (go_simp; rw [Int.tmod_eq_emod_of_nonneg (by omega)]; omega)) ?_; (with_reducible refine (tree_Path.calls kj5 ak ao aq _ _ ah a1 bP bT _ ?side1 ?side2 ?side3 fq.out).mono ?_); (case side1 => exact (Kd.S_reads' ae.out).2.2); (case side2 => exact (Kd.S_reads' ae.out).2.1); (case side3 => repeat (first | exact (GL.below HRG.out HB.out) | (with_reducible refine GL.alloc ?_ _) | (with_reducible refine GL.drewN ?_ _) | (with_reducible refine GL.drew ?_))); rintro e ga ⟨dm, rfl, ho0, hb⟩; refine ⟨_, rfl, ?_⟩; have aC := aj (Kd.S_elder' (ae.out) (Kd.R_base ho0) hb); have aD := aj (Kd.S_elder' (af.out) (Kd.R_base ho0) hb); have aF := aj (Kd.R_lower (Kd.R_newB ho0 (g := av) (o := .cells #[.int .u64 aw, .int .u64 ax] 36 (0, 0)) ac.out) (below_size (by repeat (first | (with_reducible first | exact HB.out | apply below_alloc | apply pw_below_drewN | apply below_drew1 | refine below_set ?_ aQ.out | refine below_set ?_ aS.out | refine below_set ?_ be.out) | exact HB.out)))); have aE := aj (blk_below (g := au) (o := .cells #[.int .i64 ak, .int .i64 ao, .int .i64 aq, .slice aL ah.length aI] 26 (0, 0)) aa.out hb); have aK := aj (blk_below (g := av) (o := .cells #[.int .u64 aw, .int .u64 ax] 36 (0, 0)) ac.out hb); have aO := aj (blk_below (g := ad) (o := .cells #[.int .i64 al, .int .i64 ap, .int .i64 ar, .slice aM ai.length aJ] 26 (0, 0)) ab.out hb); have a7 := aj (below_step (by repeat (first | (with_reducible first | exact HB.out | apply below_alloc | apply pw_below_drewN | apply below_drew1 | refine below_set ?_ aQ.out | refine below_set ?_ aS.out | refine below_set ?_ be.out) | exact HB.out)) hb); clear ae; clear af; clear aa; clear ac; clear ab; clear HB; have ae := aC; have af := aD; have aG := aF; have aa := aE; have ac := aK; have ab := aO; have HB := a7; clear aC aD aF aE aK aO a7; (try clear hb); (try clear hb2); (try clear hk); (try clear hi); (try clear ho0); have fD := b6.out; have fE := bA.out; have d0 := bq_ ab 0; have d1 := bq_ ab 1; have d2 := bq_ ab 2; have d3 := bq_ ab 3; have d4 := blk_frozen ab.out 0; have d5 := blk_frozen ab.out 1; have d6 := blk_frozen ab.out 2; have d7 := blk_frozen ab.out 3) | ((with_reducible refine gate_callee (f := 31) rfl ?_); refine goesL_ (some 42) rfl rfl Tryd.func31 (by kernel_rfl) rfl #[.agg #[.int .i64 al, .int .i64 ap, .int .i64 ar, .slice aM ai.length aJ], .int .i64 a1] rfl (by (try simp only [List.map_toArray, List.map_cons, List.map_nil]); first | done | rfl | (simp only [List.length_drop, List.length_take]; rfl) | (go_simp; done) | (go_simp; rw [Int.tmod_eq_emod_of_nonneg (by omega)]; omega)) ?_; (with_reducible refine (attestorref07_Path.calls kj5 al ap ar _ _ ai a1 bR bV _ ?side1 ?side2 fs.out).mono ?_); (case side1 => exact (Kd.S_reads' af.out).2.2); (case side2 => exact (Kd.S_reads' af.out).2.1); rintro e gb ⟨dn, rfl, ho0, hb⟩; refine ⟨_, rfl, ?_⟩; have aC := aj (Kd.S_elder' (ae.out) (Kd.R_base ho0) hb); have aD := aj (Kd.S_elder' (af.out) (Kd.R_base ho0) hb); have aF := aj (Kd.R_elder' (aG.out) (Kd.R_base ho0) hb); have aE := aj (Kd.R_lower (Kd.R_newB (Kd.R_new' ho0 (Kd.R_lt (aG.out))) (g := av) (o := .cells #[.int .u64 aw, .int .u64 ax] 36 (0, 0)) ac.out) (below_size (by repeat (first | (with_reducible first | exact HB.out | apply below_alloc | apply pw_below_drewN | apply below_drew1 | refine below_set ?_ aQ.out | refine below_set ?_ aS.out | refine below_set ?_ be.out) | exact HB.out)))); have aK := aj (blk_below (g := au) (o := .cells #[.int .i64 ak, .int .i64 ao, .int .i64 aq, .slice aL ah.length aI] 26 (0, 0)) aa.out hb); have aO := aj (blk_below (g := av) (o := .cells #[.int .u64 aw, .int .u64 ax] 36 (0, 0)) ac.out hb); have a7 := aj (blk_below (g := ad) (o := .cells #[.int .i64 al, .int .i64 ap, .int .i64 ar, .slice aM ai.length aJ] 26 (0, 0)) ab.out hb); have bd := aj (below_step (by repeat (first | (with_reducible first | exact HB.out | apply below_alloc | apply pw_below_drewN | apply below_drew1 | refine below_set ?_ aQ.out | refine below_set ?_ aS.out | refine below_set ?_ be.out) | exact HB.out)) hb); clear ae; clear af; clear aG; clear aa; clear ac; clear ab; clear HB; have ae := aC; have af := aD; have aG := aF; have aP := aE; have aa := aK; have ac := aO; have ab := a7; have HB := bd; clear aC aD aF aE aK aO a7 bd; (try clear hb); (try clear hb2); (try clear hk); (try clear hi); (try clear ho0); obtain ⟨d8, d9, ea, eb, ec, ed, ee, ef⟩ := bc4 aa; have eg := bq_ ac 0; have eh := bq_ ac 1; have ei := blk_frozen ac.out 0; have ej := blk_frozen ac.out 1) | ((with_reducible refine gate_callee (f := 32) rfl ?_); refine goesL_ (some 49) rfl rfl Tryd.func32 (by kernel_rfl) rfl #[.agg #[.int .i64 ak, .int .i64 ao, .int .i64 aq, .slice aL ah.length aI], .int .i64 a1, .agg #[.int .u64 aw, .int .u64 ax]] rfl (by (try simp only [List.map_toArray, List.map_cons, List.map_nil]); first | done | rfl | (simp only [List.length_drop, List.length_take]; rfl) | (go_simp; done) | (go_simp; rw [Int.tmod_eq_emod_of_nonneg (by omega)]; omega)) ?_; (with_reducible refine (tree_Replace.calls kj5 ak ao aq _ _ ah a1 aw ax aU aX aZ aV bU _ ?side1 ?side2 ?side3 fu.out).mono ?_); (case side1 => exact (Kd.S_reads' ae.out).2.2); (case side2 => exact (Kd.S_reads' ae.out).2.1); (case side3 => repeat (first | exact (GL.below HRG.out HB.out) | (with_reducible refine GL.alloc ?_ _) | (with_reducible refine GL.drewN ?_ _) | (with_reducible refine GL.drew ?_))); rintro e ge ⟨fZ, rfl, ho0, hb⟩; refine ⟨_, rfl, ?_⟩; have aC := aj (Kd.S_elder' (ae.out) (Kd.S_base ho0) hb); have aD := aj (Kd.S_elder' (af.out) (Kd.S_base ho0) hb); have aF := aj (Kd.R_below (aG.out) hb); have aE := aj (Kd.R_below (aP.out) hb); have aK := aj (Kd.S_lower (Kd.S_newB (Kd.S_new' (Kd.S_new' (Kd.S_new' (Kd.S_new' ho0 (Kd.S_lt (ae.out))) (Kd.S_lt (af.out))) (Kd.R_lt (aG.out))) (Kd.R_lt (aP.out))) (g := av) (o := .cells #[.int .u64 aw, .int .u64 ax] 36 (0, 0)) ac.out) (below_size (by repeat (first | (with_reducible first | exact HB.out | apply below_alloc | apply pw_below_drewN | apply below_drew1 | refine below_set ?_ aQ.out | refine below_set ?_ aS.out | refine below_set ?_ be.out) | exact HB.out)))); have aO := aj (blk_below (g := au) (o := .cells #[.int .i64 ak, .int .i64 ao, .int .i64 aq, .slice aL ah.length aI] 26 (0, 0)) aa.out hb); have a7 := aj (blk_below (g := av) (o := .cells #[.int .u64 aw, .int .u64 ax] 36 (0, 0)) ac.out hb); have bd := aj (blk_below (g := ad) (o := .cells #[.int .i64 al, .int .i64 ap, .int .i64 ar, .slice aM ai.length aJ] 26 (0, 0)) ab.out hb); have bq := aj (below_step (by repeat (first | (with_reducible first | exact HB.out | apply below_alloc | apply pw_below_drewN | apply below_drew1 | refine below_set ?_ aQ.out | refine below_set ?_ aS.out | refine below_set ?_ be.out) | exact HB.out)) hb); clear ae; clear af; clear aG; clear aP; clear aa; clear ac; clear ab; clear HB; have ae := aC; have af := aD; have aG := aF; have aP := aE; have aT := aK; have aa := aO; have ac := a7; have ab := bd; have HB := bq; clear aC aD aF aE aK aO a7 bd bq; (try clear hb); (try clear hb2); (try clear hk); (try clear hi); (try clear ho0)) | ((with_reducible refine gate_dst (N := 12) rfl ?_); refine box_event ?hg (N := 12) ?hd (cs := #[.int .i64 0, .int .i64 0, .int .i64 0, .slice none 0 0]) (t := 26) ?hr ?_; (case hd => rfl); (case hg => rfl); (case hr => first | (go_simp; done) | (go_simp; rfl)); intro ag hg gf hbox hb; have aC := aj (Kd.S_below (ae.out) hb); have aD := aj (Kd.S_below (af.out) hb); have aF := aj (Kd.R_below (aG.out) hb); have aE := aj (Kd.R_below (aP.out) hb); have aK := aj (Kd.S_below (aT.out) hb); have aO := aj (blk_below (g := au) (o := .cells #[.int .i64 ak, .int .i64 ao, .int .i64 aq, .slice aL ah.length aI] 26 (0, 0)) aa.out hb); have a7 := aj (blk_below (g := av) (o := .cells #[.int .u64 aw, .int .u64 ax] 36 (0, 0)) ac.out hb); have bd := aj (blk_below (g := ad) (o := .cells #[.int .i64 al, .int .i64 ap, .int .i64 ar, .slice aM ai.length aJ] 26 (0, 0)) ab.out hb); have bq := aj (below_step (by repeat (first | (with_reducible first | exact HB.out | apply below_alloc | apply pw_below_drewN | apply below_drew1 | refine below_set ?_ aQ.out | refine below_set ?_ aS.out | refine below_set ?_ be.out) | exact HB.out)) hb); have bz := aj (hbox); have bs := aj ((by rw [hg]; exact (below_size (by repeat (first | (with_reducible first | exact HB.out | apply below_alloc | apply pw_below_drewN | apply below_drew1 | refine below_set ?_ aQ.out | refine below_set ?_ aS.out | refine below_set ?_ be.out) | exact HB.out))) : w.heap.size ≤ ag)); have cZ := aj ((by rw [hg]; exact Nat.ne_of_lt (blk_lt (g := au) (o := .cells #[.int .i64 ak, .int .i64 ao, .int .i64 aq, .slice aL ah.length aI] 26 (0, 0)) aa.out) : au ≠ ag)); have b9 := aj ((by rw [hg]; exact Nat.ne_of_gt (blk_lt (g := au) (o := .cells #[.int .i64 ak, .int .i64 ao, .int .i64 aq, .slice aL ah.length aI] 26 (0, 0)) aa.out) : ag ≠ au)); have ca := aj ((by rw [hg]; exact Nat.ne_of_lt (blk_lt (g := av) (o := .cells #[.int .u64 aw, .int .u64 ax] 36 (0, 0)) ac.out) : av ≠ ag)); have cb := aj ((by rw [hg]; exact Nat.ne_of_gt (blk_lt (g := av) (o := .cells #[.int .u64 aw, .int .u64 ax] 36 (0, 0)) ac.out) : ag ≠ av)); have cc := aj ((by rw [hg]; exact Nat.ne_of_lt (blk_lt (g := ad) (o := .cells #[.int .i64 al, .int .i64 ap, .int .i64 ar, .slice aM ai.length aJ] 26 (0, 0)) ab.out) : ad ≠ ag)); have cd := aj ((by rw [hg]; exact Nat.ne_of_gt (blk_lt (g := ad) (o := .cells #[.int .i64 al, .int .i64 ap, .int .i64 ar, .slice aM ai.length aJ] 26 (0, 0)) ab.out) : ag ≠ ad)); clear ae; clear af; clear aG; clear aP; clear aT; clear aa; clear ac; clear ab; clear HB; have ae := aC; have af := aD; have aG := aF; have aP := aE; have aT := aK; have aa := aO; have ac := a7; have ab := bd; have HB := bq; have az := bz; have bS := bs; have bG := cZ; have cq := b9; have ba := ca; have cr := cb; have bH := cc; have ct := cd; clear aC aD aF aE aK aO a7 bd bq bz bs cZ b9 ca cb cc cd; clear hb hbox hg; have fF := cq.out; have fG := bG.out; have fH := cr.out; have fI := ba.out; have fJ := ct.out; have fK := bH.out; obtain ⟨ek, el, em, en, eo, ep, eq, er⟩ := bc4 az; obtain ⟨bh, bc, dp⟩ := Kd.S_slice aT.out; subst dp; obtain ⟨et, eu, ev, ew, ey, ez, eA, eB⟩ := bc4 ab; have eC := bq_ ac 0; have eD := bq_ ac 1; have eE := blk_frozen ac.out 0; have eF := blk_frozen ac.out 1) | ((with_reducible refine gate_callee (f := 33) rfl ?_); refine goesL_ (some 56) rfl rfl Tryd.func33 (by kernel_rfl) rfl #[.agg #[.int .i64 al, .int .i64 ap, .int .i64 ar, .slice aM ai.length aJ], .int .i64 a1, .agg #[.int .u64 aw, .int .u64 ax]] rfl (by (try simp only [List.map_toArray, List.map_cons, List.map_nil]); first | done | rfl | (simp only [List.length_drop, List.length_take]; rfl) | (go_simp; done) | (go_simp; rw [Int.tmod_eq_emod_of_nonneg (by omega)]; omega)) ?_; (with_reducible refine (attestorref07_Replace.calls kj5 al ap ar _ _ ai a1 aw ax bb bf bl bg bW _ ?side1 ?side2 fv.out).mono ?_); (case side1 => refine (Kd.S_reads' (e := 22) (base := w.heap.size) (ok := fun k_ => ((((some k_ ≠ (.slice aL ah.length aI : Value).ownBlock ∧ k_ ≠ av) ∧ some k_ ≠ (dm : Value).ownBlock) ∧ some k_ ≠ (dn : Value).ownBlock) ∧ some k_ ≠ (.slice bh aV.length bc : Value).ownBlock)) (n := ai.length) (c := aJ) ?_).2.2; exact (by (with_reducible repeat (first | apply Kd.S_alloc | apply Kd.S_drewN | apply Kd.S_drew)); exact (Kd.S_mono (Kd.S_far (p := ⟨ag, 3, none⟩) (Kd.S_far (p := ⟨ag, 2, none⟩) (Kd.S_far (p := ⟨ag, 1, none⟩) (Kd.S_far (p := ⟨ag, 0, none⟩) (Kd.S_types af.out az.out (by decide)) (fun _ hk => hk.2) (.int .i64 aU)) (fun _ hk => hk.2) (.int .i64 aX)) (fun _ hk => hk.2) (.int .i64 aZ)) (fun _ hk => hk.2) (.slice bh aV.length bc)) (fun _ h_ => h_.1)))); (case side2 => exact (Kd.S_reads' af.out).2.1); rintro e gg ⟨f0, rfl, ho0, hb⟩; refine ⟨_, rfl, ?_⟩; have aC := aj (Kd.S_elder' (by (with_reducible repeat (first | apply Kd.S_alloc | apply Kd.S_drewN | apply Kd.S_drew)); exact (Kd.S_mono (Kd.S_far (p := ⟨ag, 3, none⟩) (Kd.S_far (p := ⟨ag, 2, none⟩) (Kd.S_far (p := ⟨ag, 1, none⟩) (Kd.S_far (p := ⟨ag, 0, none⟩) (Kd.S_types ae.out az.out (by decide)) (fun _ hk => hk.2) (.int .i64 aU)) (fun _ hk => hk.2) (.int .i64 aX)) (fun _ hk => hk.2) (.int .i64 aZ)) (fun _ hk => hk.2) (.slice bh aV.length bc)) (fun _ h_ => h_.1))) (Kd.S_base ho0) hb); have aD := aj (Kd.S_elder' (by (with_reducible repeat (first | apply Kd.S_alloc | apply Kd.S_drewN | apply Kd.S_drew)); exact (Kd.S_mono (Kd.S_far (p := ⟨ag, 3, none⟩) (Kd.S_far (p := ⟨ag, 2, none⟩) (Kd.S_far (p := ⟨ag, 1, none⟩) (Kd.S_far (p := ⟨ag, 0, none⟩) (Kd.S_types af.out az.out (by decide)) (fun _ hk => hk.2) (.int .i64 aU)) (fun _ hk => hk.2) (.int .i64 aX)) (fun _ hk => hk.2) (.int .i64 aZ)) (fun _ hk => hk.2) (.slice bh aV.length bc)) (fun _ h_ => h_.1))) (Kd.S_base ho0) hb); have aF := aj (Kd.R_below (by (with_reducible repeat (first | apply Kd.R_alloc | apply Kd.R_drewN | apply Kd.R_drew)); exact (Kd.R_mono (Kd.R_far (p := ⟨ag, 3, none⟩) (Kd.R_far (p := ⟨ag, 2, none⟩) (Kd.R_far (p := ⟨ag, 1, none⟩) (Kd.R_far (p := ⟨ag, 0, none⟩) (Kd.R_types aG.out az.out (by decide)) (fun _ hk => hk.2) (.int .i64 aU)) (fun _ hk => hk.2) (.int .i64 aX)) (fun _ hk => hk.2) (.int .i64 aZ)) (fun _ hk => hk.2) (.slice bh aV.length bc)) (fun _ h_ => h_.1))) hb); have aE := aj (Kd.R_below (by (with_reducible repeat (first | apply Kd.R_alloc | apply Kd.R_drewN | apply Kd.R_drew)); exact (Kd.R_mono (Kd.R_far (p := ⟨ag, 3, none⟩) (Kd.R_far (p := ⟨ag, 2, none⟩) (Kd.R_far (p := ⟨ag, 1, none⟩) (Kd.R_far (p := ⟨ag, 0, none⟩) (Kd.R_types aP.out az.out (by decide)) (fun _ hk => hk.2) (.int .i64 aU)) (fun _ hk => hk.2) (.int .i64 aX)) (fun _ hk => hk.2) (.int .i64 aZ)) (fun _ hk => hk.2) (.slice bh aV.length bc)) (fun _ h_ => h_.1))) hb); have aK := aj (Kd.S_elder' (by (with_reducible repeat (first | apply Kd.S_alloc | apply Kd.S_drewN | apply Kd.S_drew)); exact (Kd.S_mono (Kd.S_far (p := ⟨ag, 3, none⟩) (Kd.S_far (p := ⟨ag, 2, none⟩) (Kd.S_far (p := ⟨ag, 1, none⟩) (Kd.S_far (p := ⟨ag, 0, none⟩) (Kd.S_types aT.out az.out (by decide)) (fun _ hk => hk.2) (.int .i64 aU)) (fun _ hk => hk.2) (.int .i64 aX)) (fun _ hk => hk.2) (.int .i64 aZ)) (fun _ hk => hk.2) (.slice bh aV.length bc)) (fun _ h_ => h_.1))) (Kd.S_base ho0) hb); have aO := aj (Kd.S_lower (Kd.S_newB (Kd.S_new' (Kd.S_new' (Kd.S_new' (Kd.S_new' (Kd.S_new' ho0 (Kd.S_lt (by (with_reducible repeat (first | apply Kd.S_alloc | apply Kd.S_drewN | apply Kd.S_drew)); exact (Kd.S_mono (Kd.S_far (p := ⟨ag, 3, none⟩) (Kd.S_far (p := ⟨ag, 2, none⟩) (Kd.S_far (p := ⟨ag, 1, none⟩) (Kd.S_far (p := ⟨ag, 0, none⟩) (Kd.S_types ae.out az.out (by decide)) (fun _ hk => hk.2) (.int .i64 aU)) (fun _ hk => hk.2) (.int .i64 aX)) (fun _ hk => hk.2) (.int .i64 aZ)) (fun _ hk => hk.2) (.slice bh aV.length bc)) (fun _ h_ => h_.1))))) (Kd.S_lt (by (with_reducible repeat (first | apply Kd.S_alloc | apply Kd.S_drewN | apply Kd.S_drew)); exact (Kd.S_mono (Kd.S_far (p := ⟨ag, 3, none⟩) (Kd.S_far (p := ⟨ag, 2, none⟩) (Kd.S_far (p := ⟨ag, 1, none⟩) (Kd.S_far (p := ⟨ag, 0, none⟩) (Kd.S_types af.out az.out (by decide)) (fun _ hk => hk.2) (.int .i64 aU)) (fun _ hk => hk.2) (.int .i64 aX)) (fun _ hk => hk.2) (.int .i64 aZ)) (fun _ hk => hk.2) (.slice bh aV.length bc)) (fun _ h_ => h_.1))))) (Kd.R_lt (by (with_reducible repeat (first | apply Kd.R_alloc | apply Kd.R_drewN | apply Kd.R_drew)); exact (Kd.R_mono (Kd.R_far (p := ⟨ag, 3, none⟩) (Kd.R_far (p := ⟨ag, 2, none⟩) (Kd.R_far (p := ⟨ag, 1, none⟩) (Kd.R_far (p := ⟨ag, 0, none⟩) (Kd.R_types aG.out az.out (by decide)) (fun _ hk => hk.2) (.int .i64 aU)) (fun _ hk => hk.2) (.int .i64 aX)) (fun _ hk => hk.2) (.int .i64 aZ)) (fun _ hk => hk.2) (.slice bh aV.length bc)) (fun _ h_ => h_.1))))) (Kd.R_lt (by (with_reducible repeat (first | apply Kd.R_alloc | apply Kd.R_drewN | apply Kd.R_drew)); exact (Kd.R_mono (Kd.R_far (p := ⟨ag, 3, none⟩) (Kd.R_far (p := ⟨ag, 2, none⟩) (Kd.R_far (p := ⟨ag, 1, none⟩) (Kd.R_far (p := ⟨ag, 0, none⟩) (Kd.R_types aP.out az.out (by decide)) (fun _ hk => hk.2) (.int .i64 aU)) (fun _ hk => hk.2) (.int .i64 aX)) (fun _ hk => hk.2) (.int .i64 aZ)) (fun _ hk => hk.2) (.slice bh aV.length bc)) (fun _ h_ => h_.1))))) (Kd.S_lt (by (with_reducible repeat (first | apply Kd.S_alloc | apply Kd.S_drewN | apply Kd.S_drew)); exact (Kd.S_mono (Kd.S_far (p := ⟨ag, 3, none⟩) (Kd.S_far (p := ⟨ag, 2, none⟩) (Kd.S_far (p := ⟨ag, 1, none⟩) (Kd.S_far (p := ⟨ag, 0, none⟩) (Kd.S_types aT.out az.out (by decide)) (fun _ hk => hk.2) (.int .i64 aU)) (fun _ hk => hk.2) (.int .i64 aX)) (fun _ hk => hk.2) (.int .i64 aZ)) (fun _ hk => hk.2) (.slice bh aV.length bc)) (fun _ h_ => h_.1))))) (g := av) (o := .cells #[.int .u64 aw, .int .u64 ax] 36 (0, 0)) (by (with_reducible repeat (first | refine blk_drewN ?_ _ | refine blk_drew ?_ | refine blk_alloc ?_ _)); refine blk_far ?_ ba.out _; (with_reducible repeat (first | refine blk_drewN ?_ _ | refine blk_drew ?_ | refine blk_alloc ?_ _)); refine blk_far ?_ ba.out _; (with_reducible repeat (first | refine blk_drewN ?_ _ | refine blk_drew ?_ | refine blk_alloc ?_ _)); refine blk_far ?_ ba.out _; (with_reducible repeat (first | refine blk_drewN ?_ _ | refine blk_drew ?_ | refine blk_alloc ?_ _)); refine blk_far ?_ ba.out _; (with_reducible repeat (first | refine blk_drewN ?_ _ | refine blk_drew ?_ | refine blk_alloc ?_ _)); exact ac.out)) (below_size (by repeat (first | (with_reducible first | exact HB.out | apply below_alloc | apply pw_below_drewN | apply below_drew1 | refine below_set ?_ aQ.out | refine below_set ?_ aS.out | refine below_set ?_ be.out | refine below_set ?_ bS.out) | exact HB.out)))); have a7 := aj (blk_below (g := au) (o := .cells #[.int .i64 ak, .int .i64 ao, .int .i64 aq, .slice aL ah.length aI] 26 (0, 0)) (by (with_reducible repeat (first | refine blk_drewN ?_ _ | refine blk_drew ?_ | refine blk_alloc ?_ _)); refine blk_far ?_ bG.out _; (with_reducible repeat (first | refine blk_drewN ?_ _ | refine blk_drew ?_ | refine blk_alloc ?_ _)); refine blk_far ?_ bG.out _; (with_reducible repeat (first | refine blk_drewN ?_ _ | refine blk_drew ?_ | refine blk_alloc ?_ _)); refine blk_far ?_ bG.out _; (with_reducible repeat (first | refine blk_drewN ?_ _ | refine blk_drew ?_ | refine blk_alloc ?_ _)); refine blk_far ?_ bG.out _; (with_reducible repeat (first | refine blk_drewN ?_ _ | refine blk_drew ?_ | refine blk_alloc ?_ _)); exact aa.out) hb); have bd := aj (blk_below (g := av) (o := .cells #[.int .u64 aw, .int .u64 ax] 36 (0, 0)) (by (with_reducible repeat (first | refine blk_drewN ?_ _ | refine blk_drew ?_ | refine blk_alloc ?_ _)); refine blk_far ?_ ba.out _; (with_reducible repeat (first | refine blk_drewN ?_ _ | refine blk_drew ?_ | refine blk_alloc ?_ _)); refine blk_far ?_ ba.out _; (with_reducible repeat (first | refine blk_drewN ?_ _ | refine blk_drew ?_ | refine blk_alloc ?_ _)); refine blk_far ?_ ba.out _; (with_reducible repeat (first | refine blk_drewN ?_ _ | refine blk_drew ?_ | refine blk_alloc ?_ _)); refine blk_far ?_ ba.out _; (with_reducible repeat (first | refine blk_drewN ?_ _ | refine blk_drew ?_ | refine blk_alloc ?_ _)); exact ac.out) hb); have bq := aj (blk_below (g := ad) (o := .cells #[.int .i64 al, .int .i64 ap, .int .i64 ar, .slice aM ai.length aJ] 26 (0, 0)) (by (with_reducible repeat (first | refine blk_drewN ?_ _ | refine blk_drew ?_ | refine blk_alloc ?_ _)); refine blk_far ?_ bH.out _; (with_reducible repeat (first | refine blk_drewN ?_ _ | refine blk_drew ?_ | refine blk_alloc ?_ _)); refine blk_far ?_ bH.out _; (with_reducible repeat (first | refine blk_drewN ?_ _ | refine blk_drew ?_ | refine blk_alloc ?_ _)); refine blk_far ?_ bH.out _; (with_reducible repeat (first | refine blk_drewN ?_ _ | refine blk_drew ?_ | refine blk_alloc ?_ _)); refine blk_far ?_ bH.out _; (with_reducible repeat (first | refine blk_drewN ?_ _ | refine blk_drew ?_ | refine blk_alloc ?_ _)); exact ab.out) hb); have bz := aj (blk_below (g := ag) (o := .cells #[.int .i64 aU, .int .i64 aX, .int .i64 aZ, .slice bh aV.length bc] 26 (0, 0)) (by (with_reducible repeat (first | refine blk_drewN ?_ _ | refine blk_drew ?_ | refine blk_alloc ?_ _)); refine blk_put (cs := #[.int .i64 aU, .int .i64 aX, .int .i64 aZ, .slice none 0 0]) ?_ 3 _ rfl; (with_reducible repeat (first | refine blk_drewN ?_ _ | refine blk_drew ?_ | refine blk_alloc ?_ _)); refine blk_put (cs := #[.int .i64 aU, .int .i64 aX, .int .i64 0, .slice none 0 0]) ?_ 2 _ rfl; (with_reducible repeat (first | refine blk_drewN ?_ _ | refine blk_drew ?_ | refine blk_alloc ?_ _)); refine blk_put (cs := #[.int .i64 aU, .int .i64 0, .int .i64 0, .slice none 0 0]) ?_ 1 _ rfl; (with_reducible repeat (first | refine blk_drewN ?_ _ | refine blk_drew ?_ | refine blk_alloc ?_ _)); refine blk_put (cs := #[.int .i64 0, .int .i64 0, .int .i64 0, .slice none 0 0]) ?_ 0 _ rfl; (with_reducible repeat (first | refine blk_drewN ?_ _ | refine blk_drew ?_ | refine blk_alloc ?_ _)); exact az.out) hb); have br := aj (below_step (by repeat (first | (with_reducible first | exact HB.out | apply below_alloc | apply pw_below_drewN | apply below_drew1 | refine below_set ?_ aQ.out | refine below_set ?_ aS.out | refine below_set ?_ be.out | refine below_set ?_ bS.out) | exact HB.out)) hb); clear ae; clear af; clear aG; clear aP; clear aT; clear aa; clear ac; clear ab; clear az; clear HB; have ae := aC; have af := aD; have aG := aF; have aP := aE; have aT := aK; have bm := aO; have aa := a7; have ac := bd; have ab := bq; have az := bz; have HB := br; clear aC aD aF aE aK aO a7 bd bq bz br; (try clear hb); (try clear hb2); (try clear hk); (try clear hi); (try clear ho0)) | ((with_reducible refine gate_dst (N := 14) rfl ?_); refine box_event ?hg (N := 14) ?hd (cs := #[.int .i64 0, .int .i64 0, .int .i64 0, .slice none 0 0]) (t := 26) ?hr ?_; (case hd => rfl); (case hg => rfl); (case hr => first | (go_simp; done) | (go_simp; rfl)); intro am hg gh hbox hb; have aC := aj (Kd.S_below (ae.out) hb); have aD := aj (Kd.S_below (af.out) hb); have aF := aj (Kd.R_below (aG.out) hb); have aE := aj (Kd.R_below (aP.out) hb); have aK := aj (Kd.S_below (aT.out) hb); have aO := aj (Kd.S_below (bm.out) hb); have a7 := aj (blk_below (g := au) (o := .cells #[.int .i64 ak, .int .i64 ao, .int .i64 aq, .slice aL ah.length aI] 26 (0, 0)) aa.out hb); have bd := aj (blk_below (g := av) (o := .cells #[.int .u64 aw, .int .u64 ax] 36 (0, 0)) ac.out hb); have bq := aj (blk_below (g := ad) (o := .cells #[.int .i64 al, .int .i64 ap, .int .i64 ar, .slice aM ai.length aJ] 26 (0, 0)) ab.out hb); have bz := aj (blk_below (g := ag) (o := .cells #[.int .i64 aU, .int .i64 aX, .int .i64 aZ, .slice bh aV.length bc] 26 (0, 0)) az.out hb); have br := aj (below_step (by repeat (first | (with_reducible first | exact HB.out | apply below_alloc | apply pw_below_drewN | apply below_drew1 | refine below_set ?_ aQ.out | refine below_set ?_ aS.out | refine below_set ?_ be.out | refine below_set ?_ bS.out) | exact HB.out)) hb); have bs := aj (hbox); have b9 := aj ((by rw [hg]; exact (below_size (by repeat (first | (with_reducible first | exact HB.out | apply below_alloc | apply pw_below_drewN | apply below_drew1 | refine below_set ?_ aQ.out | refine below_set ?_ aS.out | refine below_set ?_ be.out | refine below_set ?_ bS.out) | exact HB.out))) : w.heap.size ≤ am)); have ca := aj ((by rw [hg]; exact Nat.ne_of_lt (blk_lt (g := au) (o := .cells #[.int .i64 ak, .int .i64 ao, .int .i64 aq, .slice aL ah.length aI] 26 (0, 0)) aa.out) : au ≠ am)); have cb := aj ((by rw [hg]; exact Nat.ne_of_gt (blk_lt (g := au) (o := .cells #[.int .i64 ak, .int .i64 ao, .int .i64 aq, .slice aL ah.length aI] 26 (0, 0)) aa.out) : am ≠ au)); have cc := aj ((by rw [hg]; exact Nat.ne_of_lt (blk_lt (g := av) (o := .cells #[.int .u64 aw, .int .u64 ax] 36 (0, 0)) ac.out) : av ≠ am)); have cd := aj ((by rw [hg]; exact Nat.ne_of_gt (blk_lt (g := av) (o := .cells #[.int .u64 aw, .int .u64 ax] 36 (0, 0)) ac.out) : am ≠ av)); have c0 := aj ((by rw [hg]; exact Nat.ne_of_lt (blk_lt (g := ad) (o := .cells #[.int .i64 al, .int .i64 ap, .int .i64 ar, .slice aM ai.length aJ] 26 (0, 0)) ab.out) : ad ≠ am)); have da := aj ((by rw [hg]; exact Nat.ne_of_gt (blk_lt (g := ad) (o := .cells #[.int .i64 al, .int .i64 ap, .int .i64 ar, .slice aM ai.length aJ] 26 (0, 0)) ab.out) : am ≠ ad)); have db := aj ((by rw [hg]; exact Nat.ne_of_lt (blk_lt (g := ag) (o := .cells #[.int .i64 aU, .int .i64 aX, .int .i64 aZ, .slice bh aV.length bc] 26 (0, 0)) az.out) : ag ≠ am)); have dc := aj ((by rw [hg]; exact Nat.ne_of_gt (blk_lt (g := ag) (o := .cells #[.int .i64 aU, .int .i64 aX, .int .i64 aZ, .slice bh aV.length bc] 26 (0, 0)) az.out) : am ≠ ag)); clear ae; clear af; clear aG; clear aP; clear aT; clear bm; clear aa; clear ac; clear ab; clear az; clear HB; have ae := aC; have af := aD; have aG := aF; have aP := aE; have aT := aK; have bm := aO; have aa := a7; have ac := bd; have ab := bq; have az := bz; have HB := br; have aY := bs; have cj := b9; have bI := ca; have cu := cb; have bJ := cc; have cv := cd; have bK := c0; have cw := da; have bL := db; have cx := dc; clear aC aD aF aE aK aO a7 bd bq bz br bs b9 ca cb cc cd c0 da db dc; clear hb hbox hg; have fL := cu.out; have fM := bI.out; have fN := cv.out; have fO := bJ.out; have fP := cw.out; have fQ := bK.out; have fR := cx.out; have fS := bL.out; obtain ⟨eG, eH, eI, eJ, eK, eL, eM, eN⟩ := bc4 aY; obtain ⟨bD, bx, dq⟩ := Kd.S_slice bm.out; subst dq; obtain ⟨cy, ck, dr⟩ := Kd.R_slice aG.out; subst dr; obtain ⟨cz, cl, dt⟩ := Kd.R_slice aP.out; subst dt) | (go_at_call 18; (with_reducible refine (attestorref07_Equal.calls kj5 _ _ bP _ _ bR true _ ?side1 ?side2 ?side3 ?side4 cC.out).mono ?_); (case side1 => refine (Kd.R_reads' (e := 36) (base := w.heap.size) (ok := fun k_ => ((True ∧ k_ ≠ av) ∧ some k_ ≠ (.slice cz bR.length cl : Value).ownBlock)) (n := bP.length) (c := ck) ?_).2.2; exact (by (with_reducible repeat (first | apply Kd.R_alloc | apply Kd.R_drewN | apply Kd.R_drew)); exact (Kd.R_mono (Kd.R_far (p := ⟨am, 3, none⟩) (Kd.R_far (p := ⟨am, 2, none⟩) (Kd.R_far (p := ⟨am, 1, none⟩) (Kd.R_far (p := ⟨am, 0, none⟩) (Kd.R_types aG.out aY.out (by decide)) (fun _ hk => hk.2) (.int .i64 bb)) (fun _ hk => hk.2) (.int .i64 bf)) (fun _ hk => hk.2) (.int .i64 bl)) (fun _ hk => hk.2) (.slice bD bg.length bx)) (fun _ h_ => h_.1)))); (case side2 => exact (Kd.R_reads' aG.out).2.1); (case side3 => refine (Kd.R_reads' (e := 36) (base := w.heap.size) (ok := fun k_ => ((True ∧ some k_ ≠ (.slice cy bP.length ck : Value).ownBlock) ∧ k_ ≠ av)) (n := bR.length) (c := cl) ?_).2.2; exact (by (with_reducible repeat (first | apply Kd.R_alloc | apply Kd.R_drewN | apply Kd.R_drew)); exact (Kd.R_mono (Kd.R_far (p := ⟨am, 3, none⟩) (Kd.R_far (p := ⟨am, 2, none⟩) (Kd.R_far (p := ⟨am, 1, none⟩) (Kd.R_far (p := ⟨am, 0, none⟩) (Kd.R_types aP.out aY.out (by decide)) (fun _ hk => hk.2) (.int .i64 bb)) (fun _ hk => hk.2) (.int .i64 bf)) (fun _ hk => hk.2) (.int .i64 bl)) (fun _ hk => hk.2) (.slice bD bg.length bx)) (fun _ h_ => h_.1)))); (case side4 => exact (Kd.R_reads' aP.out).2.1); rintro e w' ⟨rfl, ⟨nd, rfl⟩⟩; have eO := bq_ az 0; have eP := bq_ az 1; have eQ := bq_ az 2; have eR := bq_ az 3; have eS := blk_frozen az.out 0; have eT := blk_frozen az.out 1; have eU := blk_frozen az.out 2; have eV := blk_frozen az.out 3) | (go_at_call 15; (with_reducible refine (attestorref07_Same.calls kj5 aU aX aZ _ _ aV bb bf bl _ _ bg true _ ?side1 ?side2 ?side3 ?side4 fw.out).mono ?_); (case side1 => refine (Kd.S_reads' (e := 22) (base := w.heap.size) (ok := fun k_ => ((((((True ∧ some k_ ≠ (.slice aL ah.length aI : Value).ownBlock) ∧ some k_ ≠ (.slice aM ai.length aJ : Value).ownBlock) ∧ some k_ ≠ (.slice cy bP.length ck : Value).ownBlock) ∧ some k_ ≠ (.slice cz bR.length cl : Value).ownBlock) ∧ k_ ≠ av) ∧ some k_ ≠ (.slice bD bg.length bx : Value).ownBlock)) (n := aV.length) (c := bc) ?_).2.2; exact (by (with_reducible repeat (first | apply Kd.S_alloc | apply Kd.S_drewN | apply Kd.S_drew)); exact (Kd.S_mono (Kd.S_far (p := ⟨am, 3, none⟩) (Kd.S_far (p := ⟨am, 2, none⟩) (Kd.S_far (p := ⟨am, 1, none⟩) (Kd.S_far (p := ⟨am, 0, none⟩) (Kd.S_types aT.out aY.out (by decide)) (fun _ hk => hk.2) (.int .i64 bb)) (fun _ hk => hk.2) (.int .i64 bf)) (fun _ hk => hk.2) (.int .i64 bl)) (fun _ hk => hk.2) (.slice bD bg.length bx)) (fun _ h_ => h_.1)))); (case side2 => exact (Kd.S_reads' aT.out).2.1); (case side3 => refine (Kd.S_reads' (e := 22) (base := w.heap.size) (ok := fun k_ => ((((((True ∧ some k_ ≠ (.slice aL ah.length aI : Value).ownBlock) ∧ some k_ ≠ (.slice aM ai.length aJ : Value).ownBlock) ∧ some k_ ≠ (.slice cy bP.length ck : Value).ownBlock) ∧ some k_ ≠ (.slice cz bR.length cl : Value).ownBlock) ∧ some k_ ≠ (.slice bh aV.length bc : Value).ownBlock) ∧ k_ ≠ av)) (n := bg.length) (c := bx) ?_).2.2; exact (by (with_reducible repeat (first | apply Kd.S_alloc | apply Kd.S_drewN | apply Kd.S_drew)); exact (Kd.S_mono (Kd.S_far (p := ⟨am, 3, none⟩) (Kd.S_far (p := ⟨am, 2, none⟩) (Kd.S_far (p := ⟨am, 1, none⟩) (Kd.S_far (p := ⟨am, 0, none⟩) (Kd.S_types bm.out aY.out (by decide)) (fun _ hk => hk.2) (.int .i64 bb)) (fun _ hk => hk.2) (.int .i64 bf)) (fun _ hk => hk.2) (.int .i64 bl)) (fun _ hk => hk.2) (.slice bD bg.length bx)) (fun _ h_ => h_.1)))); (case side4 => exact (Kd.S_reads' bm.out).2.1); rintro e gi ⟨rfl, hb⟩; have aC := aj (Kd.S_below (by (with_reducible repeat (first | apply Kd.S_alloc | apply Kd.S_drewN | apply Kd.S_drew)); exact (Kd.S_mono (Kd.S_far (p := ⟨am, 3, none⟩) (Kd.S_far (p := ⟨am, 2, none⟩) (Kd.S_far (p := ⟨am, 1, none⟩) (Kd.S_far (p := ⟨am, 0, none⟩) (Kd.S_types ae.out aY.out (by decide)) (fun _ hk => hk.2) (.int .i64 bb)) (fun _ hk => hk.2) (.int .i64 bf)) (fun _ hk => hk.2) (.int .i64 bl)) (fun _ hk => hk.2) (.slice bD bg.length bx)) (fun _ h_ => h_.1))) hb); have aD := aj (Kd.S_below (by (with_reducible repeat (first | apply Kd.S_alloc | apply Kd.S_drewN | apply Kd.S_drew)); exact (Kd.S_mono (Kd.S_far (p := ⟨am, 3, none⟩) (Kd.S_far (p := ⟨am, 2, none⟩) (Kd.S_far (p := ⟨am, 1, none⟩) (Kd.S_far (p := ⟨am, 0, none⟩) (Kd.S_types af.out aY.out (by decide)) (fun _ hk => hk.2) (.int .i64 bb)) (fun _ hk => hk.2) (.int .i64 bf)) (fun _ hk => hk.2) (.int .i64 bl)) (fun _ hk => hk.2) (.slice bD bg.length bx)) (fun _ h_ => h_.1))) hb); have aF := aj (Kd.R_below (by (with_reducible repeat (first | apply Kd.R_alloc | apply Kd.R_drewN | apply Kd.R_drew)); exact (Kd.R_mono (Kd.R_far (p := ⟨am, 3, none⟩) (Kd.R_far (p := ⟨am, 2, none⟩) (Kd.R_far (p := ⟨am, 1, none⟩) (Kd.R_far (p := ⟨am, 0, none⟩) (Kd.R_types aG.out aY.out (by decide)) (fun _ hk => hk.2) (.int .i64 bb)) (fun _ hk => hk.2) (.int .i64 bf)) (fun _ hk => hk.2) (.int .i64 bl)) (fun _ hk => hk.2) (.slice bD bg.length bx)) (fun _ h_ => h_.1))) hb); have aE := aj (Kd.R_below (by (with_reducible repeat (first | apply Kd.R_alloc | apply Kd.R_drewN | apply Kd.R_drew)); exact (Kd.R_mono (Kd.R_far (p := ⟨am, 3, none⟩) (Kd.R_far (p := ⟨am, 2, none⟩) (Kd.R_far (p := ⟨am, 1, none⟩) (Kd.R_far (p := ⟨am, 0, none⟩) (Kd.R_types aP.out aY.out (by decide)) (fun _ hk => hk.2) (.int .i64 bb)) (fun _ hk => hk.2) (.int .i64 bf)) (fun _ hk => hk.2) (.int .i64 bl)) (fun _ hk => hk.2) (.slice bD bg.length bx)) (fun _ h_ => h_.1))) hb); have aK := aj (Kd.S_below (by (with_reducible repeat (first | apply Kd.S_alloc | apply Kd.S_drewN | apply Kd.S_drew)); exact (Kd.S_mono (Kd.S_far (p := ⟨am, 3, none⟩) (Kd.S_far (p := ⟨am, 2, none⟩) (Kd.S_far (p := ⟨am, 1, none⟩) (Kd.S_far (p := ⟨am, 0, none⟩) (Kd.S_types aT.out aY.out (by decide)) (fun _ hk => hk.2) (.int .i64 bb)) (fun _ hk => hk.2) (.int .i64 bf)) (fun _ hk => hk.2) (.int .i64 bl)) (fun _ hk => hk.2) (.slice bD bg.length bx)) (fun _ h_ => h_.1))) hb); have aO := aj (Kd.S_below (by (with_reducible repeat (first | apply Kd.S_alloc | apply Kd.S_drewN | apply Kd.S_drew)); exact (Kd.S_mono (Kd.S_far (p := ⟨am, 3, none⟩) (Kd.S_far (p := ⟨am, 2, none⟩) (Kd.S_far (p := ⟨am, 1, none⟩) (Kd.S_far (p := ⟨am, 0, none⟩) (Kd.S_types bm.out aY.out (by decide)) (fun _ hk => hk.2) (.int .i64 bb)) (fun _ hk => hk.2) (.int .i64 bf)) (fun _ hk => hk.2) (.int .i64 bl)) (fun _ hk => hk.2) (.slice bD bg.length bx)) (fun _ h_ => h_.1))) hb); have a7 := aj (blk_below (g := au) (o := .cells #[.int .i64 ak, .int .i64 ao, .int .i64 aq, .slice aL ah.length aI] 26 (0, 0)) (by (with_reducible repeat (first | refine blk_drewN ?_ _ | refine blk_drew ?_ | refine blk_alloc ?_ _)); refine blk_far ?_ bI.out _; (with_reducible repeat (first | refine blk_drewN ?_ _ | refine blk_drew ?_ | refine blk_alloc ?_ _)); refine blk_far ?_ bI.out _; (with_reducible repeat (first | refine blk_drewN ?_ _ | refine blk_drew ?_ | refine blk_alloc ?_ _)); refine blk_far ?_ bI.out _; (with_reducible repeat (first | refine blk_drewN ?_ _ | refine blk_drew ?_ | refine blk_alloc ?_ _)); refine blk_far ?_ bI.out _; (with_reducible repeat (first | refine blk_drewN ?_ _ | refine blk_drew ?_ | refine blk_alloc ?_ _)); exact aa.out) hb); have bd := aj (blk_below (g := av) (o := .cells #[.int .u64 aw, .int .u64 ax] 36 (0, 0)) (by (with_reducible repeat (first | refine blk_drewN ?_ _ | refine blk_drew ?_ | refine blk_alloc ?_ _)); refine blk_far ?_ bJ.out _; (with_reducible repeat (first | refine blk_drewN ?_ _ | refine blk_drew ?_ | refine blk_alloc ?_ _)); refine blk_far ?_ bJ.out _; (with_reducible repeat (first | refine blk_drewN ?_ _ | refine blk_drew ?_ | refine blk_alloc ?_ _)); refine blk_far ?_ bJ.out _; (with_reducible repeat (first | refine blk_drewN ?_ _ | refine blk_drew ?_ | refine blk_alloc ?_ _)); refine blk_far ?_ bJ.out _; (with_reducible repeat (first | refine blk_drewN ?_ _ | refine blk_drew ?_ | refine blk_alloc ?_ _)); exact ac.out) hb); have bq := aj (blk_below (g := ad) (o := .cells #[.int .i64 al, .int .i64 ap, .int .i64 ar, .slice aM ai.length aJ] 26 (0, 0)) (by (with_reducible repeat (first | refine blk_drewN ?_ _ | refine blk_drew ?_ | refine blk_alloc ?_ _)); refine blk_far ?_ bK.out _; (with_reducible repeat (first | refine blk_drewN ?_ _ | refine blk_drew ?_ | refine blk_alloc ?_ _)); refine blk_far ?_ bK.out _; (with_reducible repeat (first | refine blk_drewN ?_ _ | refine blk_drew ?_ | refine blk_alloc ?_ _)); refine blk_far ?_ bK.out _; (with_reducible repeat (first | refine blk_drewN ?_ _ | refine blk_drew ?_ | refine blk_alloc ?_ _)); refine blk_far ?_ bK.out _; (with_reducible repeat (first | refine blk_drewN ?_ _ | refine blk_drew ?_ | refine blk_alloc ?_ _)); exact ab.out) hb); have bz := aj (blk_below (g := ag) (o := .cells #[.int .i64 aU, .int .i64 aX, .int .i64 aZ, .slice bh aV.length bc] 26 (0, 0)) (by (with_reducible repeat (first | refine blk_drewN ?_ _ | refine blk_drew ?_ | refine blk_alloc ?_ _)); refine blk_far ?_ bL.out _; (with_reducible repeat (first | refine blk_drewN ?_ _ | refine blk_drew ?_ | refine blk_alloc ?_ _)); refine blk_far ?_ bL.out _; (with_reducible repeat (first | refine blk_drewN ?_ _ | refine blk_drew ?_ | refine blk_alloc ?_ _)); refine blk_far ?_ bL.out _; (with_reducible repeat (first | refine blk_drewN ?_ _ | refine blk_drew ?_ | refine blk_alloc ?_ _)); refine blk_far ?_ bL.out _; (with_reducible repeat (first | refine blk_drewN ?_ _ | refine blk_drew ?_ | refine blk_alloc ?_ _)); exact az.out) hb); have br := aj (blk_below (g := am) (o := .cells #[.int .i64 bb, .int .i64 bf, .int .i64 bl, .slice bD bg.length bx] 26 (0, 0)) (by (with_reducible repeat (first | refine blk_drewN ?_ _ | refine blk_drew ?_ | refine blk_alloc ?_ _)); refine blk_put (cs := #[.int .i64 bb, .int .i64 bf, .int .i64 bl, .slice none 0 0]) ?_ 3 _ rfl; (with_reducible repeat (first | refine blk_drewN ?_ _ | refine blk_drew ?_ | refine blk_alloc ?_ _)); refine blk_put (cs := #[.int .i64 bb, .int .i64 bf, .int .i64 0, .slice none 0 0]) ?_ 2 _ rfl; (with_reducible repeat (first | refine blk_drewN ?_ _ | refine blk_drew ?_ | refine blk_alloc ?_ _)); refine blk_put (cs := #[.int .i64 bb, .int .i64 0, .int .i64 0, .slice none 0 0]) ?_ 1 _ rfl; (with_reducible repeat (first | refine blk_drewN ?_ _ | refine blk_drew ?_ | refine blk_alloc ?_ _)); refine blk_put (cs := #[.int .i64 0, .int .i64 0, .int .i64 0, .slice none 0 0]) ?_ 0 _ rfl; (with_reducible repeat (first | refine blk_drewN ?_ _ | refine blk_drew ?_ | refine blk_alloc ?_ _)); exact aY.out) hb); have bs := aj (below_step (by repeat (first | (with_reducible first | exact HB.out | apply below_alloc | apply pw_below_drewN | apply below_drew1 | refine below_set ?_ aQ.out | refine below_set ?_ aS.out | refine below_set ?_ be.out | refine below_set ?_ bS.out | refine below_set ?_ cj.out) | exact HB.out)) hb); clear ae; clear af; clear aG; clear aP; clear aT; clear bm; clear aa; clear ac; clear ab; clear az; clear aY; clear HB; have ae := aC; have af := aD; have aG := aF; have aP := aE; have aT := aK; have bm := aO; have aa := a7; have ac := bd; have ab := bq; have az := bz; have aY := br; have HB := bs; clear aC aD aF aE aK aO a7 bd bq bz br bs; (try clear hb); (try clear hb2); (try clear hk); (try clear hi); obtain ⟨eW, eX, eY, eZ, e0, e1, e2, e3⟩ := bc4 aa; have e4 := bq_ ab 0; have e5 := bq_ ab 1; have e6 := bq_ ab 2; have e7 := bq_ ab 3; have e8 := blk_frozen ab.out 0; have e9 := blk_frozen ab.out 1; have fa := blk_frozen ab.out 2; have fb := blk_frozen ab.out 3) | (go_at_call 15; (with_reducible refine (attestorref07_Same.calls kj5 ak ao aq _ _ ah al ap ar _ _ ai true _ ?side1 ?side2 ?side3 ?side4 fx.out).mono ?_); (case side1 => exact (Kd.S_reads' ae.out).2.2); (case side2 => exact (Kd.S_reads' ae.out).2.1); (case side3 => exact (Kd.S_reads' af.out).2.2); (case side4 => exact (Kd.S_reads' af.out).2.1); rintro e gj ⟨rfl, hb⟩; have aC := aj (Kd.S_below (ae.out) hb); have aD := aj (Kd.S_below (af.out) hb); have aF := aj (Kd.R_below (aG.out) hb); have aE := aj (Kd.R_below (aP.out) hb); have aK := aj (Kd.S_below (aT.out) hb); have aO := aj (Kd.S_below (bm.out) hb); have a7 := aj (blk_below (g := au) (o := .cells #[.int .i64 ak, .int .i64 ao, .int .i64 aq, .slice aL ah.length aI] 26 (0, 0)) aa.out hb); have bd := aj (blk_below (g := av) (o := .cells #[.int .u64 aw, .int .u64 ax] 36 (0, 0)) ac.out hb); have bq := aj (blk_below (g := ad) (o := .cells #[.int .i64 al, .int .i64 ap, .int .i64 ar, .slice aM ai.length aJ] 26 (0, 0)) ab.out hb); have bz := aj (blk_below (g := ag) (o := .cells #[.int .i64 aU, .int .i64 aX, .int .i64 aZ, .slice bh aV.length bc] 26 (0, 0)) az.out hb); have br := aj (blk_below (g := am) (o := .cells #[.int .i64 bb, .int .i64 bf, .int .i64 bl, .slice bD bg.length bx] 26 (0, 0)) aY.out hb); have bs := aj (below_step (by repeat (first | (with_reducible first | exact HB.out | apply below_alloc | apply pw_below_drewN | apply below_drew1 | refine below_set ?_ aQ.out | refine below_set ?_ aS.out | refine below_set ?_ be.out | refine below_set ?_ bS.out | refine below_set ?_ cj.out) | exact HB.out)) hb); clear ae; clear af; clear aG; clear aP; clear aT; clear bm; clear aa; clear ac; clear ab; clear az; clear aY; clear HB; have ae := aC; have af := aD; have aG := aF; have aP := aE; have aT := aK; have bm := aO; have aa := a7; have ac := bd; have ab := bq; have az := bz; have aY := br; have HB := bs; clear aC aD aF aE aK aO a7 bd bq bz br bs; (try clear hb); (try clear hb2); (try clear hk); (try clear hi)) | (go_at_call 21; (with_reducible refine (attestorlaw07_lives.calls kj5  aW _ ?side1 fy.out).mono ?_); (case side1 => repeat (first | exact (GL.below HRG.out HB.out) | (with_reducible refine GL.alloc ?_ _) | (with_reducible refine GL.drewN ?_ _) | (with_reducible refine GL.drew ?_))); rintro e gk ⟨rfl, hb⟩; have aC := aj (Kd.S_below (ae.out) hb); have aD := aj (Kd.S_below (af.out) hb); have aF := aj (Kd.R_below (aG.out) hb); have aE := aj (Kd.R_below (aP.out) hb); have aK := aj (Kd.S_below (aT.out) hb); have aO := aj (Kd.S_below (bm.out) hb); have a7 := aj (blk_below (g := au) (o := .cells #[.int .i64 ak, .int .i64 ao, .int .i64 aq, .slice aL ah.length aI] 26 (0, 0)) aa.out hb); have bd := aj (blk_below (g := av) (o := .cells #[.int .u64 aw, .int .u64 ax] 36 (0, 0)) ac.out hb); have bq := aj (blk_below (g := ad) (o := .cells #[.int .i64 al, .int .i64 ap, .int .i64 ar, .slice aM ai.length aJ] 26 (0, 0)) ab.out hb); have bz := aj (blk_below (g := ag) (o := .cells #[.int .i64 aU, .int .i64 aX, .int .i64 aZ, .slice bh aV.length bc] 26 (0, 0)) az.out hb); have br := aj (blk_below (g := am) (o := .cells #[.int .i64 bb, .int .i64 bf, .int .i64 bl, .slice bD bg.length bx] 26 (0, 0)) aY.out hb); have bs := aj (below_step (by repeat (first | (with_reducible first | exact HB.out | apply below_alloc | apply pw_below_drewN | apply below_drew1 | refine below_set ?_ aQ.out | refine below_set ?_ aS.out | refine below_set ?_ be.out | refine below_set ?_ bS.out | refine below_set ?_ cj.out) | exact HB.out)) hb); clear ae; clear af; clear aG; clear aP; clear aT; clear bm; clear aa; clear ac; clear ab; clear az; clear aY; clear HB; have ae := aC; have af := aD; have aG := aF; have aP := aE; have aT := aK; have bm := aO; have aa := a7; have ac := bd; have ab := bq; have az := bz; have aY := br; have HB := bs; clear aC aD aF aE aK aO a7 bd bq bz br bs; (try clear hb); (try clear hb2); (try clear hk); (try clear hi)))
         go_ret
         exact ⟨by first | rfl | (simp [errW_none, errW_some] <;> rfl) | (simp [*, errW_none, errW_some] <;> rfl), HB.out⟩
        ·replace cG := Bool.eq_false_iff.mpr cG
         subst cG
         have H1 : (none) = some r := by rw [if_neg (show ¬ (false = true) by decide)] at H; exact H
         clear H
         have H := H1
         clear H1
         exact absurd H (by simp)
       ·replace cF := Bool.eq_false_iff.mpr cF
        subst cF
        have H1 : (none) = some r := by rw [if_neg (show ¬ (false = true) by decide)] at H; exact H
        clear H
        have H := H1
        clear H1
        exact absurd H (by simp)
      ·rw [if_neg cp] at H
       exact absurd H (by simp)
     ·replace cE := Bool.eq_false_iff.mpr cE
      subst cE
      have H1 : (none) = some r := by rw [if_neg (show ¬ (false = true) by decide)] at H; exact H
      clear H
      have H := H1
      clear H1
      exact absurd H (by simp)
    ·rw [if_neg co] at H
     exact absurd H (by simp)

end Go.Proofs.YtpnpmeogffodgaaDoor.Q
end
section
namespace Go.Proofs.YtpnpmeogffodgaaDoor.Q
open Go.RowKit Go.Proofs.YtpnpmeogffodgaaDoorW.PrintWords Go.Proofs.YtpnpmeogffodgaaDoorW.PrintLast Go.Proofs.YtpnpmeogffodgaaDoorW.PrintMore
open Go.Proofs.YtpnpmeogffodgaaDoor.Num
set_option linter.unusedVariables false
set_option linter.unusedSimpArgs false
theorem small_l (f h c : Int) (ls : List (List S36)) : ∀ m j k (acc : List (List S36)), m + j = 8 → m < k → acc.length ≤ j → attestorlaw07_small.l0 k acc (j : Int) f h c ls = some (f, h, c, acc ++ ((ls.drop j).take m).map (List.take 70))
  | _, _, 0, _, _, hk, _ => by omega
  | 0, j, k + 1, acc, hj, _, _ => by
    rw [attestorlaw07_small.l0]
    by_cases h1 : (j : Int) < (ls.length : Int)
    · rw [if_pos h1, if_neg (by omega)]; simp
    · rw [if_neg h1]; simp
  | m + 1, j, k + 1, acc, hj, hk, ha => by
    rw [attestorlaw07_small.l0]
    by_cases h1 : (j : Int) < (ls.length : Int)
    · have hlt : j < ls.length := by omega
      have e : rd_L3 ls (j : Int) = ls[j] := by unfold rd_L3; rw [Int.toNat_natCast]; simp [List.getD, hlt]
      rw [if_pos h1, if_pos (by omega), if_pos (by omega), e]
      refine bnd (cut_f ls[j] 70 (by omega)) ?_
      rw [if_pos (by omega), show wrap64 ((j : Int) + 1) = ((j + 1 : Nat) : Int) by unfold wrap64; omega, small_l f h c ls m (j + 1) k _ (by omega) (by omega) (by rw [List.length_append, List.length_singleton]; omega), List.drop_eq_getElem_cons hlt, List.take_succ_cons, List.map_cons, List.append_assoc]
      rfl
    · rw [if_neg h1, List.drop_eq_nil_of_le (by omega)]; simp
theorem small_f (f h c : Int) (ls : List (List S36)) (k : Nat) (hk : 8 < k) : attestorlaw07_small.f k f h c ls = some (f, h, c, (ls.take 8).map (List.take 70)) := by
  have := small_l f h c ls 8 0 k [] (by omega) hk (by simp)
  rw [List.drop_zero, List.nil_append] at this
  exact this
theorem rd_at {ls : List (List S36)} {j : Nat} (h : j < ls.length) : rd_L3 ls (j : Int) = ls[j] := by unfold rd_L3; rw [Int.toNat_natCast]; simp [List.getD, h]
structure Vt (f h c : Int) (ls : List (List S36)) : Prop where
  fv : 0 ≤ f ∧ f < 4
  h0 : 0 ≤ c
  h1 : c ≤ h
  h2 : h ≤ 18
  len : (ls.length : Int) = h - c + 1
  row : ∀ j, j < ls.length → (rd_L3 ls (j : Int)).length = 2 ^ (h.toNat - j) ∧ (rd_L3 ls (j : Int)).all (okD (fp f)) = true
theorem valid_lb {f h c : Int} (hh0 : 0 ≤ c) (hh1 : c ≤ h) (hh2 : h ≤ 18) (ls : List (List S36)) (hl : (ls.length : Int) = h - c + 1) (hr : ∀ r ∈ ls, r.length ≤ 1000) : ∀ m j k, m + j = ls.length → m + 1001 < k → ∃ b, tree_Valid.l0 k ls (ls.length : Int) (j : Int) f h c ls = some b ∧ attestorref07_Valid.l0 k (j : Int) f h c ls = some b ∧ (b = true → ∀ j', j ≤ j' → j' < ls.length → (rd_L3 ls (j' : Int)).length = 2 ^ (h.toNat - j') ∧ (rd_L3 ls (j' : Int)).all (okD (fp f)) = true)
  | _, _, 0, _, hk => by omega
  | 0, j, k + 1, hj, _ => ⟨true, by rw [tree_Valid.l0, if_neg (by omega)], by rw [attestorref07_Valid.l0, if_neg (by omega)], fun _ j' h1 h2 => by omega⟩
  | m + 1, j, k + 1, hj, hk => by
    obtain ⟨b, ih1, ih2, ih3⟩ := valid_lb hh0 hh1 hh2 ls hl hr m (j + 1) k (by omega) (by omega)
    have w : wrap64 (h - (j : Int)) = ((h.toNat - j : Nat) : Int) := by unfold wrap64; omega
    have hjl : j < ls.length := by omega
    have hrow : (rd_L3 ls (j : Int)).length ≤ 1000 := by rw [rd_at hjl]; exact hr _ (List.getElem_mem hjl)
    have hs : wrap64 ((j : Int) + 1) = ((j + 1 : Nat) : Int) := by unfold wrap64; omega
    have e1 : tree_Valid.l0 (k + 1) ls (ls.length : Int) (j : Int) f h c ls = if ((rd_L3 ls (j : Int)).length : Int) = ((2 ^ (h.toNat - j) : Nat) : Int) then (if (rd_L3 ls (j : Int)).all (okD (fp f)) = true then tree_Valid.l0 k ls (ls.length : Int) ((j + 1 : Nat) : Int) f h c ls else some false) else some false := by
      rw [tree_Valid.l0, if_pos (by omega), if_pos (by omega), if_pos (by omega), w, if_pos (by omega), shl_of _ (by omega), proper_f, Option.bind_some, hs]
    have e2 : attestorref07_Valid.l0 (k + 1) (j : Int) f h c ls = if ((rd_L3 ls (j : Int)).length : Int) = ((2 ^ (h.toNat - j) : Nat) : Int) then (if (rd_L3 ls (j : Int)).all (okD (fp f)) = true then attestorref07_Valid.l0 k ((j + 1 : Nat) : Int) f h c ls else some false) else some false := by
      rw [attestorref07_Valid.l0, if_pos (by omega), if_pos (by omega), w, if_pos (by omega), shl_of _ (by omega), All_f f _ k (by omega) (by omega), Option.bind_some, hs]
    rw [e1, e2]
    by_cases hq : ((rd_L3 ls (j : Int)).length : Int) = ((2 ^ (h.toNat - j) : Nat) : Int)
    · rw [if_pos hq, if_pos hq]
      cases ha : (rd_L3 ls (j : Int)).all (okD (fp f)) with
      | true =>
        rw [if_pos rfl, if_pos rfl]
        refine ⟨b, ih1, ih2, fun hb j' h1 h2 => ?_⟩
        by_cases e : j' = j
        · subst e; exact ⟨by omega, ha⟩
        · exact ih3 hb j' (by omega) h2
      | false =>
        rw [if_neg (by decide), if_neg (by decide)]
        exact ⟨false, rfl, rfl, fun hb => by cases hb⟩
    · rw [if_neg hq, if_neg hq]
      exact ⟨false, rfl, rfl, fun hb => by cases hb⟩
theorem valid_b (f h c : Int) (ls : List (List S36)) (hn : ls.length ≤ 8) (hr : ∀ r ∈ ls, r.length ≤ 1000) (k : Nat) (hk : 1200 < k) : ∃ b, tree_Valid.f k f h c ls = some b ∧ attestorref07_Valid.f k f h c ls = some b ∧ (b = true → Vt f h c ls) := by
  obtain ⟨k, rfl⟩ : ∃ q, k = q + 1 := ⟨k - 1, by omega⟩
  have no : ∃ b, tree_Valid.j0 (k + 1) true f h c ls = some b ∧ attestorref07_Valid.j0 (k + 1) true f h c ls = some b ∧ (b = true → Vt f h c ls) := ⟨false, by rw [tree_Valid.j0, if_pos rfl], by rw [attestorref07_Valid.j0, if_pos rfl], fun e => by cases e⟩
  unfold tree_Valid.f attestorref07_Valid.f
  rw [valid_f, rvalid_f, Option.bind_some, Option.bind_some]
  by_cases hv : 0 ≤ f ∧ f < 4
  · rw [decide_eq_true hv, if_pos rfl, if_pos rfl]
    by_cases c1 : h < 0
    · rw [if_pos c1, if_pos c1]; exact no
    rw [if_neg c1, if_neg c1]
    by_cases c2 : h > 18
    · rw [if_pos c2, if_pos c2]; exact no
    rw [if_neg c2, if_neg c2]
    by_cases c3 : c < 0
    · rw [if_pos c3, if_pos c3]; exact no
    rw [if_neg c3, if_neg c3]
    by_cases c4 : c > h
    · rw [if_pos c4, if_pos c4]; exact no
    rw [if_neg c4, if_neg c4]
    have w : wrap64 (wrap64 (h - c) + 1) = h - c + 1 := by
      rw [show wrap64 (h - c) = h - c by unfold wrap64; omega]
      unfold wrap64; omega
    rw [w]
    by_cases c5 : (ls.length : Int) = h - c + 1
    · rw [show ((ls.length : Int) != h - c + 1) = false from bne_eq_false_iff_eq.mpr c5, tree_Valid.j0, attestorref07_Valid.j0, if_neg (by decide), if_neg (by decide)]
      obtain ⟨b, h1, h2, h3⟩ := valid_lb (f := f) (Int.not_lt.mp c3) (Int.not_lt.mp c4) (by omega) ls c5 hr ls.length 0 k (by omega) (by omega)
      exact ⟨b, h1, h2, fun hb => ⟨hv, by omega, by omega, by omega, c5, fun j hj => h3 hb j (Nat.zero_le _) hj⟩⟩
    · rw [show ((ls.length : Int) != h - c + 1) = true from bne_iff_ne.mpr c5]; exact no
  · rw [decide_eq_false hv, if_neg (by decide), if_neg (by decide)]; exact no
theorem cap_b (f h c : Int) (ls : List (List S36)) (hn : ls.length ≤ 8) (hr : ∀ r ∈ ls, r.length ≤ 1000) (k : Nat) (hk : 1200 < k) : ∃ l : List S36, l.length ≤ 1000 ∧ tree_Cap.f k f h c ls = some l ∧ attestorref07_Cap.f k f h c ls = some l := by
  obtain ⟨b, h1, h2, h3⟩ := valid_b f h c ls hn hr k hk
  unfold tree_Cap.f attestorref07_Cap.f
  rw [h1, h2, Option.bind_some, Option.bind_some]
  cases b with
  | false => rw [if_neg (by decide), if_neg (by decide)]; exact ⟨[], by simp, rfl, rfl⟩
  | true =>
    have V := h3 rfl
    have hpos : 0 < ls.length := by have := V.len; have := V.h1; omega
    have w : wrap64 ((ls.length : Int) - 1) = ((ls.length - 1 : Nat) : Int) := by unfold wrap64; omega
    have hrow : (rd_L3 ls ((ls.length - 1 : Nat) : Int)).length ≤ 1000 := by rw [rd_at (by omega)]; exact hr _ (List.getElem_mem _)
    rw [if_pos rfl, if_pos rfl, w, if_pos (by omega), if_pos (by omega), if_pos (by omega), if_pos (by omega), if_pos (by simp; omega)]
    exact ⟨_, hrow, bnd (clone_f _ (by omega)) rfl, by simp⟩
theorem other_f (i : Nat) (h : i < 4611686018427387904) : attestorref07_other.f (i : Int) = some ((xo i : Nat) : Int) := by
  unfold attestorref07_other.f xo
  have e : Int.tmod (i : Int) 2 = ((i % 2 : Nat) : Int) := by rw [Int.tmod_eq_emod_of_nonneg (by omega)]; omega
  rw [e]
  by_cases hi : i % 2 = 0
  · rw [if_pos (by omega), if_pos hi]; congr 1; unfold wrap64; omega
  · rw [if_neg (by omega), if_neg hi]; congr 1; unfold wrap64; omega
theorem w_succ (j : Nat) (h : j < 4611686018427387904) : wrap64 ((j : Int) + 1) = ((j + 1 : Nat) : Int) := by unfold wrap64; omega
theorem w_nat (j : Nat) (h : j < 4611686018427387904) : wrap64 (j : Int) = (j : Int) := by unfold wrap64; omega
theorem td2 (i : Nat) : Int.tdiv (i : Int) 2 = ((i / 2 : Nat) : Int) := by rw [Int.tdiv_eq_ediv_of_nonneg (by omega)]; omega
theorem rd_take {ls : List (List S36)} {j n : Nat} (h : j < n) : rd_L3 (ls.take n) (j : Int) = rd_L3 ls (j : Int) := by
  unfold rd_L3
  rw [Int.toNat_natCast]
  simp [List.getD, List.getElem?_take, h]
theorem pw_succ {h j : Nat} (hj : j < h) : 2 ^ (h - j) = 2 * 2 ^ (h - (j + 1)) := by rw [show h - j = (h - (j + 1)) + 1 by omega, Nat.pow_succ]; omega
theorem pw_le {h j : Nat} (hh : h ≤ 18) : 2 ^ (h - j) ≤ 262144 := (Nat.pow_le_pow_right (by omega) (by omega : h - j ≤ 18) : 2 ^ (h - j) ≤ 2 ^ 18)
theorem path_s (k i j n : Nat) (acc : List S36) (ls : List (List S36)) (row : List S36) (hj : j < n) (hn : n < ls.length) (hls : ls.length ≤ 100) (hrow : rd_L3 ls (j : Int) = row) (hx : xo i < row.length) (hi : i < 1000000) (ha : acc.length ≤ 1000) :
    tree_Path.l0 (k + 1) (i : Int) acc (ls.take n) (n : Int) (j : Int) = tree_Path.l0 k ((i / 2 : Nat) : Int) (acc ++ [(⟨(rd_T36 row ((xo i : Nat) : Int)).f0, (rd_T36 row ((xo i : Nat) : Int)).f1⟩ : S36)]) (ls.take n) (n : Int) ((j + 1 : Nat) : Int) := by
  have hlen : (ls.take n).length = n := by rw [List.length_take]; omega
  rw [tree_Path.l0, if_pos (by omega), if_pos (by omega), if_pos (by rw [hlen]; omega), bits_xor_one i (by omega), if_pos (by omega), rd_take hj, hrow, if_pos (by omega), if_pos (by omega), w_succ j (by omega), show ((i : Int) / 2) = ((i / 2 : Nat) : Int) by omega]
theorem rpath_s (k i j : Nat) (f h c : Int) (acc : List S36) (ls : List (List S36)) (row : List S36) (hj : j + 1 < ls.length) (hls : ls.length ≤ 100) (hrow : rd_L3 ls (j : Int) = row) (hx : xo i < row.length) (hi : i < 1000000) (ha : acc.length ≤ 1000) :
    attestorref07_Path.l0 (k + 1) (i : Int) acc (j : Int) f h c ls = attestorref07_Path.l0 k ((i / 2 : Nat) : Int) (acc ++ [(⟨(rd_T36 row ((xo i : Nat) : Int)).f0, (rd_T36 row ((xo i : Nat) : Int)).f1⟩ : S36)]) ((j + 1 : Nat) : Int) f h c ls := by
  rw [attestorref07_Path.l0, w_succ j (by omega), if_pos (by omega), if_pos (by omega), if_pos (by omega), other_f i (by omega), Option.bind_some, if_pos (by omega), hrow, if_pos (by omega), if_pos (by omega), td2, w_nat _ (by omega)]
theorem path_lb {f h c : Int} {ls : List (List S36)} (V : Vt f h c ls) (n : Nat) (hn : ls.length = n + 1) : ∀ (m j k i : Nat) (acc : List S36), m + j = n → m < k → acc.length = j → i < 2 ^ (h.toNat - j) → ∃ P : List S36, P.length ≤ n ∧ tree_Path.l0 k (i : Int) acc (ls.take n) (n : Int) (j : Int) = some (P, 0) ∧ attestorref07_Path.l0 k (i : Int) acc (j : Int) f h c ls = some (P, 0)
  | _, _, 0, _, _, _, hk, _, _ => by omega
  | 0, j, k + 1, i, acc, hj, _, ha, _ => by
    have b1 := V.h2
    have b2 := V.len
    have b3 := V.h0
    exact ⟨acc, by omega, by rw [tree_Path.l0, if_neg (by omega)], by rw [attestorref07_Path.l0, w_succ j (by omega), if_neg (by omega)]⟩
  | m + 1, j, k + 1, i, acc, hj, hk, ha, hi => by
    have b1 := V.h2
    have b2 := V.len
    have b3 := V.h0
    have b4 := V.h1
    have hjh : j < h.toNat := by omega
    have hh : h.toNat ≤ 18 := by omega
    have hjl : j < ls.length := by omega
    have hls : ls.length ≤ 100 := by omega
    clear b1 b2 b3 b4
    obtain ⟨ht, _⟩ := V.row j hjl
    have hp := pw_succ hjh
    have hb := pw_le (j := j) hh
    have hx : xo i < (rd_L3 ls (j : Int)).length := by rw [ht, hp]; rw [hp] at hi; exact xo_lt hi
    have hi2 : i / 2 < 2 ^ (h.toNat - (j + 1)) := by omega
    have hi6 : i < 1000000 := by omega
    clear hi hp hb ht
    obtain ⟨P, h0, h1, h2⟩ := path_lb V n hn m (j + 1) k (i / 2) (acc ++ [(⟨(rd_T36 (rd_L3 ls (j : Int)) ((xo i : Nat) : Int)).f0, (rd_T36 (rd_L3 ls (j : Int)) ((xo i : Nat) : Int)).f1⟩ : S36)]) (by omega) (by omega) (by rw [List.length_append, ha]; rfl) hi2
    exact ⟨P, h0, (path_s k i j n acc ls _ (by omega) (by omega) hls rfl hx hi6 (by omega)).trans h1, (rpath_s k i j f h c acc ls _ (by omega) hls rfl hx hi6 (by omega)).trans h2⟩
theorem place_b (f h c : Int) (ls : List (List S36)) (i : Int) (k : Nat) (b : Bool) (hv : tree_Valid.f k f h c ls = some b) (hp : b = true → 0 < ls.length) : tree_place.f k f h c ls i = some (if b = true then (if i < 0 then 2 else if i ≥ ((rd_L3 ls 0).length : Int) then 2 else 0) else 1) := by
  unfold tree_place.f
  rw [hv, Option.bind_some]
  cases b with
  | false => rfl
  | true =>
    rw [if_pos rfl, if_pos rfl]
    by_cases h1 : i < 0
    · rw [if_pos h1, if_pos h1]
    · rw [if_neg h1, if_neg h1, if_pos (by have := hp rfl; omega)]
      split <;> rfl
theorem path_b (f h c : Int) (ls : List (List S36)) (hn : ls.length ≤ 8) (hr : ∀ r ∈ ls, r.length ≤ 1000) (i : Int) (k : Nat) (hk : 1300 < k) : ∃ (P : List S36) (e : Int), P.length ≤ 1000 ∧ tree_Path.f k f h c ls i = some (P, e) ∧ attestorref07_Path.f k f h c ls i = some (P, e) := by
  obtain ⟨k, rfl⟩ : ∃ q, k = q + 1 := ⟨k - 1, by omega⟩
  obtain ⟨b, h1, h2, h3⟩ := valid_b f h c ls hn hr (k + 1) (by omega)
  have hpos : b = true → 0 < ls.length := fun hb => by have V := h3 hb; have := V.len; have := V.h1; omega
  have hpl := place_b f h c ls i (k + 1) b h1 hpos
  unfold tree_Path.f attestorref07_Path.f
  cases b with
  | false => exact ⟨[], 1, by simp, bnd hpl rfl, bnd h2 rfl⟩
  | true =>
    have V := h3 rfl
    rw [if_pos rfl] at hpl
    by_cases c1 : i < 0
    · rw [if_pos c1] at hpl
      exact ⟨[], 2, by simp, bnd hpl rfl, bnd h2 (by rw [if_pos rfl, if_pos c1, attestorref07_Path.j0, if_pos rfl])⟩
    have hp0 := hpos rfl
    rw [if_neg c1] at hpl
    by_cases c2 : i ≥ ((rd_L3 ls 0).length : Int)
    · rw [if_pos c2] at hpl
      exact ⟨[], 2, by simp, bnd hpl rfl, bnd h2 (by rw [if_pos rfl, if_neg c1, if_pos (by omega), decide_eq_true c2, attestorref07_Path.j0, if_pos rfl])⟩
    rw [if_neg c2] at hpl
    obtain ⟨n, hl⟩ : ∃ n, ls.length = n + 1 := ⟨ls.length - 1, by omega⟩
    have w : wrap64 ((ls.length : Int) - 1) = (n : Int) := by unfold wrap64; omega
    obtain ⟨ii, rfl⟩ := Int.eq_ofNat_of_zero_le (Int.not_lt.mp c1)
    have ht : (rd_L3 ls 0).length = 2 ^ (h.toNat - 0) := (V.row 0 hp0).1
    have hii : ii < 2 ^ (h.toNat - 0) := by omega
    obtain ⟨P, p0, p1, p2⟩ := path_lb V n hl n 0 (k + 1) ii [] (by omega) (by omega) rfl hii
    obtain ⟨P', q0, q1, q2⟩ := path_lb V n hl n 0 k ii [] (by omega) (by omega) rfl hii
    have e : P = P' := by
      have := at_rounds (g := fun k => tree_Path.l0 k (ii : Int) [] (ls.take n) (n : Int) ((0 : Nat) : Int)) (fun k => tree_Path.mono_l k _ _ _ _ _) (Nat.le_succ k) q1
      have e2 : some (P', (0 : Int)) = some (P, 0) := this.symm.trans p1
      exact (Prod.mk.inj (Option.some.inj e2)).1.symm
    subst e
    refine ⟨P, 0, by omega, bnd hpl ?_, bnd h2 ?_⟩
    · rw [if_pos rfl, w, if_pos (by omega), if_pos (by omega), Int.toNat_natCast]
      refine bnd rfl ?_
      rw [show (ls.take n).length = n by rw [List.length_take]; omega]
      exact p1
    · rw [if_pos rfl, if_neg c1, if_pos (by omega), decide_eq_false c2, attestorref07_Path.j0, if_neg (by decide)]
      exact q2
theorem set_nn {l : List S36} {i : Nat} {d : S36} (h : ∀ x ∈ l, nnD x) (hd : nnD d) : ∀ x ∈ l.set i d, nnD x := fun x hx => by
  rcases List.mem_or_eq_of_mem_set hx with hx | rfl
  · exact h x hx
  · exact hd
theorem getD_nn {l : List S36} (h : ∀ x ∈ l, nnD x) (i : Nat) (hi : i < l.length) : nnD (l.getD i z36) := h _ (getD_mem hi)
theorem rrepl_s (k i x1 j : Nat) (f h c e0 e1 y0 y1 : Int) (x8 : List (List S36)) (p row : List S36) (ls : List (List S36)) (hj1 : 1 ≤ j) (hj : j < ls.length) (hls : ls.length ≤ 100) (hrow : rd_L3 ls (j : Int) = row) (hrl : row.length ≤ 1000) (hp : rd_L3 x8 ((j - 1 : Nat) : Int) = p) (h8 : x8.length = j) (hx : x1 / 2 = i) (hxb : x1 < 1000000) (hpi : 2 * i + 1 < p.length) (hi : i < row.length)
    (hn : attestorref06_Node.f k f (p.getD (2 * i) z36).f0 (p.getD (2 * i) z36).f1 (p.getD (2 * i + 1) z36).f0 (p.getD (2 * i + 1) z36).f1 = some (y0, y1)) :
    attestorref07_Replace.l0 (k + 1) (x1 : Int) x8 (j : Int) f h c ls e0 e1 = attestorref07_Replace.l0 k (i : Int) (x8 ++ [row.set i ⟨y0, y1⟩]) ((j + 1 : Nat) : Int) f h c ls e0 e1 := by
  have e2 : wrap64 (Int.tdiv (x1 : Int) 2) = (i : Int) := by rw [td2, w_nat _ (by omega), hx]
  have e3 : wrap64 (2 * (i : Int)) = ((2 * i : Nat) : Int) := by unfold wrap64; omega
  have e5 : wrap64 ((j : Int) - 1) = ((j - 1 : Nat) : Int) := by unfold wrap64; omega
  have e7 : ∀ t : Nat, rd_T36 p (t : Int) = p.getD t z36 := fun t => by unfold rd_T36; rw [Int.toNat_natCast]
  rw [attestorref07_Replace.l0, e2, e3, e5, w_succ (2 * i) (by omega), w_succ j (by omega), hrow, hp, e7, e7]
  clear e2 e3 e5 e7 hp hrow
  rw [if_pos (by omega), if_pos (by omega), if_pos (by simp; omega)]
  refine bnd rfl ?_
  rw [List.nil_append, if_neg (by omega), if_pos (by omega), if_pos (by omega), if_pos (by omega), if_pos (by omega), if_pos (by omega), if_pos (by omega)]
  refine bnd hn ?_
  rw [if_pos (by omega), if_pos (by omega), if_pos (by omega), Int.toNat_natCast]
theorem repl_lb {f h c : Int} {ls : List (List S36)} (V : Vt f h c ls) (hn : ls.length ≤ 8) (hr : ∀ r ∈ ls, r.length ≤ 1000) (hnn : ∀ r ∈ ls, ∀ d ∈ r, nnD d) (e0 e1 : Int) : ∀ (m j k i x1 : Nat) (pre : List (List S36)) (p : List S36) (d : S36), m + j = ls.length → m + 200 < k → (pre ++ [p]).length = j → (j ≤ h.toNat → p.length = 2 ^ (h.toNat - j + 1)) → (∀ d ∈ p, nnD d) → j ≤ h.toNat + 1 → (j < ls.length → i < 2 ^ (h.toNat - j)) → x1 / 2 = i → x1 < 1000000 →
    ∃ r : List (List S36), replL f (some p) (ls.drop j) i d = some r ∧ attestorref07_Replace.l0 k (x1 : Int) (pre ++ [p]) (j : Int) f h c ls e0 e1 = some (f, h, c, (pre ++ [p]) ++ r, 0) ∧ (∀ q ∈ r, q.length ≤ 1000) ∧ r.length = m
  | _, _, 0, _, _, _, _, _, _, hk, _, _, _, _, _, _, _ => by omega
  | 0, j, k + 1, i, x1, pre, p, d, hj, _, _, _, _, _, _, _, _ => ⟨[], by rw [List.drop_eq_nil_of_le (by omega), replL], by rw [attestorref07_Replace.l0, if_neg (by omega), List.append_nil], fun q hq => (by cases hq), rfl⟩
  | m + 1, j, k + 1, i, x1, pre, p, d, hj, hk, hpl, hp, hpn, hjh, hi, hx, hxb => by
    have b1 := V.h2
    have b2 := V.len
    have b3 := V.h0
    have b4 := V.h1
    have hjl : j < ls.length := by omega
    have hjh2 : j ≤ h.toNat := by omega
    have hh : h.toNat ≤ 18 := by omega
    have hjn : j + 1 < ls.length → j < h.toNat := fun q => by omega
    clear b1 b2 b3 b4 hjh
    have hj1 : 1 ≤ j := by rw [List.length_append, List.length_singleton] at hpl; omega
    have hpj : pre.length = j - 1 := by rw [List.length_append, List.length_singleton] at hpl; omega
    have hrow := rd_at hjl
    have ht : ls[j].length = 2 ^ (h.toNat - j) := by rw [← hrow]; exact (V.row j hjl).1
    have hp2 : p.length = 2 * ls[j].length := by rw [hp hjh2, Nat.pow_succ, ht, Nat.mul_comm]
    have hil : i < ls[j].length := by rw [ht]; exact hi hjl
    have hmem : ls[j] ∈ ls := List.getElem_mem hjl
    have hrl := hr _ hmem
    have e6 : rd_L3 (pre ++ [p]) ((j - 1 : Nat) : Int) = p := by
      rw [rd_at (by omega)]
      simp [hpj]
    have n0 := getD_nn hpn (2 * i) (by omega)
    have n1 := getD_nn hpn (2 * i + 1) (by omega)
    have hnode : ∃ y0 y1 : Nat, sponge_Node.f 200 f (p.getD (2 * i) z36).f0 (p.getD (2 * i) z36).f1 (p.getD (2 * i + 1) z36).f0 (p.getD (2 * i + 1) z36).f1 = some ((y0 : Int), (y1 : Int)) ∧ attestorref06_Node.f k f (p.getD (2 * i) z36).f0 (p.getD (2 * i) z36).f1 (p.getD (2 * i + 1) z36).f0 (p.getD (2 * i + 1) z36).f1 = some ((y0 : Int), (y1 : Int)) := by
      obtain ⟨a0, h0⟩ := Int.eq_ofNat_of_zero_le n0.1
      obtain ⟨a1, h1⟩ := Int.eq_ofNat_of_zero_le n0.2
      obtain ⟨a2, h2⟩ := Int.eq_ofNat_of_zero_le n1.1
      obtain ⟨a3, h3⟩ := Int.eq_ofNat_of_zero_le n1.2
      rw [h0, h1, h2, h3]
      exact node_nat V.fv a0 a1 a2 a3 k (by omega)
    obtain ⟨y0, y1, hy1, hy2⟩ := hnode
    have hl8 : ls.length ≤ 100 := by omega
    have hset : (ls[j].set i (⟨(y0 : Int), (y1 : Int)⟩ : S36)).length = 2 ^ (h.toNat - j) := by rw [List.length_set, ht]
    have hnx : j + 1 < ls.length → i / 2 < 2 ^ (h.toNat - (j + 1)) := fun q => by
      have u := pw_succ (hjn q)
      have v := hi hjl
      omega
    obtain ⟨r, hr1, hr2, hr3, hr4⟩ := repl_lb V hn hr hnn e0 e1 m (j + 1) k (i / 2) i (pre ++ [p]) (ls[j].set i ⟨(y0 : Int), (y1 : Int)⟩) ⟨(y0 : Int), (y1 : Int)⟩ (by omega) (by omega) (by rw [List.length_append, hpl]; rfl) (fun hlast => by rw [hset, show h.toNat - (j + 1) + 1 = h.toNat - j by omega]) (set_nn (hnn _ hmem) ⟨Int.natCast_nonneg _, Int.natCast_nonneg _⟩) (by omega) hnx rfl (by omega)
    refine ⟨ls[j].set i ⟨(y0 : Int), (y1 : Int)⟩ :: r, ?_, ?_, ?_, by rw [List.length_cons, hr4]⟩
    · rw [List.drop_eq_getElem_cons hjl, replL]
      refine bnd (v := (⟨(y0 : Int), (y1 : Int)⟩ : S36)) ?_ ?_
      · simp only [leafL]
        rw [if_pos (by omega)]
        exact bnd hy1 rfl
      · rw [if_pos ⟨hil, by omega⟩]
        exact bnd hr1 rfl
    · refine (rrepl_s k i x1 j f h c e0 e1 _ _ (pre ++ [p]) p _ ls hj1 hjl hl8 hrow hrl e6 hpl hx hxb (by omega) hil hy2).trans ?_
      rw [hr2]
      simp
    · intro q hq
      rcases List.mem_cons.mp hq with rfl | hq
      · rw [List.length_set]; exact hrl
      · exact hr3 q hq
theorem repl_b (f h c : Int) (ls : List (List S36)) (hn : ls.length ≤ 8) (hr : ∀ r ∈ ls, r.length ≤ 1000) (hnn : ∀ r ∈ ls, ∀ d ∈ r, nnD d) (i d0 d1 : Int) (hd : 0 ≤ d0 ∧ 0 ≤ d1) (k : Nat) (hk : 1400 < k) : ∃ (u0 u1 u2 : Int) (us : List (List S36)) (e : Int), us.length ≤ 100 ∧ (∀ r ∈ us, r.length ≤ 1000) ∧ tree_Replace.f k f h c ls i d0 d1 = some (u0, u1, u2, us, e) ∧ attestorref07_Replace.f k f h c ls i d0 d1 = some (u0, u1, u2, us, e) := by
  obtain ⟨k, rfl⟩ : ∃ q, k = q + 2 := ⟨k - 2, by omega⟩
  obtain ⟨b, h1, h2, h3⟩ := valid_b f h c ls hn hr (k + 2) (by omega)
  have hpos : b = true → 0 < ls.length := fun hb => by have V := h3 hb; have := V.len; have := V.h1; omega
  have no : ∀ r ∈ ([] : List (List S36)), r.length ≤ 1000 := fun r hr => by cases hr
  have hpl := place_b f h c ls i (k + 2) b h1 hpos
  have hj : attestorref07_Replace.j0 (k + 2) i true f h c ls d0 d1 = some (0, 0, 0, [], 2) := by rw [attestorref07_Replace.j0, if_pos rfl]
  unfold tree_Replace.f attestorref07_Replace.f
  cases b with
  | false => exact ⟨0, 0, 0, [], 1, by simp, no, bnd hpl rfl, bnd h2 rfl⟩
  | true =>
    have V := h3 rfl
    rw [if_pos rfl] at hpl
    by_cases c1 : i < 0
    · rw [if_pos c1] at hpl
      exact ⟨0, 0, 0, [], 2, by simp, no, bnd hpl rfl, bnd h2 (by rw [if_pos rfl, if_pos c1, hj])⟩
    have hp := hpos rfl
    rw [if_neg c1] at hpl
    by_cases c2 : i ≥ ((rd_L3 ls 0).length : Int)
    · rw [if_pos c2] at hpl
      exact ⟨0, 0, 0, [], 2, by simp, no, bnd hpl rfl, bnd h2 (by rw [if_pos rfl, if_neg c1, if_pos (by omega), if_pos c2, hj])⟩
    rw [if_neg c2] at hpl
    cases hok : okD (fp f) ⟨d0, d1⟩ with
    | false =>
      refine ⟨0, 0, 0, [], 2, by simp, no, bnd hpl ?_, bnd h2 ?_⟩
      · rw [if_pos rfl]
        refine bnd (proper_f f _) ?_
        rw [List.all_cons, hok, Bool.false_and, if_neg (by decide)]
      · rw [if_pos rfl, if_neg c1, if_pos (by omega), if_neg c2]
        refine bnd (Proper_f f d0 d1) ?_
        rw [hok, Bool.not_false, hj]
    | true =>
      obtain ⟨ii, rfl⟩ := Int.eq_ofNat_of_zero_le (Int.not_lt.mp c1)
      have hrow : rd_L3 ls 0 = ls[0] := rd_at hp
      have hmem : ls[0] ∈ ls := List.getElem_mem hp
      have hr0 := hr _ hmem
      have hl0 : ls[0].length = 2 ^ h.toNat := by rw [← hrow]; exact (V.row 0 hp).1
      have b1 := V.h2
      have b2 := V.len
      have b3 := V.h0
      have b4 := V.h1
      have hii : ii < ls[0].length := by rw [← hrow]; omega
      have hh1 : 1 < ls.length → 0 < h.toNat := fun q => by omega
      clear b1 b2 b3 b4
      have hset : (ls[0].set ii (⟨d0, d1⟩ : S36)).length = 2 ^ h.toNat := by rw [List.length_set]; exact hl0
      obtain ⟨r, r1, r2, r3, r4⟩ := repl_lb V hn hr hnn d0 d1 (ls.length - 1) 1 k (ii / 2) ii [] (ls[0].set ii ⟨d0, d1⟩) ⟨d0, d1⟩ (by omega) (by omega) rfl (fun hz => by rw [hset, show h.toNat - 1 + 1 = h.toNat by omega]) (set_nn (hnn _ hmem) hd) (by omega) (fun h' => by
        have u := pw_succ (hh1 h')
        rw [Nat.sub_zero, Nat.zero_add] at u
        omega) rfl (by omega)
      have hdr : ls = ls[0] :: ls.drop 1 := by
        have := List.drop_eq_getElem_cons hp
        rwa [List.drop_zero] at this
      have hrep : replL f none ls ii ⟨d0, d1⟩ = some (ls[0].set ii ⟨d0, d1⟩ :: r) := by
        have q : replL f none (ls[0] :: ls.drop 1) ii ⟨d0, d1⟩ = some (ls[0].set ii ⟨d0, d1⟩ :: r) := by
          rw [replL]
          refine bnd (v := (⟨d0, d1⟩ : S36)) rfl ?_
          rw [if_pos ⟨hii, by omega⟩]
          exact bnd r1 rfl
        rw [← hdr] at q
        exact q
      have hno : ls.length ≤ 1000 := by omega
      refine ⟨f, h, c, ls[0].set ii ⟨d0, d1⟩ :: r, 0, by rw [List.length_cons]; omega, ?_, bnd hpl ?_, bnd h2 ?_⟩
      · intro q hq
        rcases List.mem_cons.mp hq with rfl | hq
        · rw [List.length_set]; exact hr0
        · exact r3 q hq
      · rw [if_pos rfl]
        refine bnd (proper_f f _) ?_
        rw [List.all_cons, hok, Bool.true_and, List.all_nil, if_pos rfl, if_pos ⟨by omega, hp, hno⟩, Int.toNat_natCast]
        exact bnd hrep rfl
      · rw [if_pos rfl, if_neg c1, if_pos (by omega), if_neg c2]
        refine bnd (Proper_f f d0 d1) ?_
        rw [hok, Bool.not_true, attestorref07_Replace.j0, if_neg (by decide), attestorref07_Replace.l0, if_pos (by omega), if_pos (by omega), hrow, if_pos (by simp; omega)]
        refine bnd rfl ?_
        rw [List.nil_append, if_pos rfl, if_pos (by omega), if_pos (by omega), if_pos (by simp), Int.toNat_natCast, show wrap64 ((0 : Int) + 1) = ((1 : Nat) : Int) by decide +kernel]
        exact r2
theorem take_take (ls : List (List S36)) : ((((ls.take 8).map (List.take 70)).take 8).map (List.take 70)) = (ls.take 8).map (List.take 70) := by
  rw [List.take_of_length_le (by simp; omega), List.map_map]
  congr 1
  funext l
  show List.take 70 (List.take 70 l) = List.take 70 l
  rw [List.take_take, Nat.min_self]
theorem paths_true (f h c : Int) (ls : List (List S36)) (i d0 d1 : Int) (hnn : ∀ r ∈ ls, ∀ d ∈ r, nnD d) (hd : 0 ≤ d0 ∧ 0 ≤ d1) : attestorlaw07_TreePaths.f 2000 f h c ls i d0 d1 = some true := by
  unfold attestorlaw07_TreePaths.f
  refine bnd (small_f f h c ls 2000 (by omega)) ?_
  have hnn' : ∀ r ∈ (ls.take 8).map (List.take 70), ∀ d ∈ r, nnD d := fun r hr d hdm => by
    obtain ⟨q, hq, rfl⟩ := List.mem_map.mp hr
    exact hnn q (List.mem_of_mem_take hq) d (List.mem_of_mem_take hdm)
  have hrr : ∀ r ∈ (ls.take 8).map (List.take 70), r.length ≤ 1000 := fun r hr => by
    obtain ⟨q, hq, rfl⟩ := List.mem_map.mp hr
    rw [List.length_take]; omega
  have hn : ((ls.take 8).map (List.take 70)).length ≤ 8 := by rw [List.length_map, List.length_take]; omega
  have hsm := small_f f h c ((ls.take 8).map (List.take 70)) 2000 (by omega)
  rw [take_take] at hsm
  refine bnd hsm ?_
  generalize (ls.take 8).map (List.take 70) = t at hnn' hrr hn ⊢
  obtain ⟨b, v1, v2, _⟩ := valid_b f h c t hn hrr 2000 (by omega)
  obtain ⟨cp, c0, c1, c2⟩ := cap_b f h c t hn hrr 2000 (by omega)
  obtain ⟨P, e, p0, p1, p2⟩ := path_b f h c t hn hrr i 1999 (by omega)
  obtain ⟨u0, u1, u2, us, e', q0, q1, q2, q3⟩ := repl_b f h c t hn hrr hnn' i d0 d1 hd 1999 (by omega)
  refine bnd v1 (bnd v2 ?_)
  rw [bne_self_eq_false, if_neg (by decide)]
  refine bnd c1 (bnd c2 (bnd (equal_self cp c0 2000 (by omega)) ?_))
  show attestorlaw07_TreePaths.j0 (1999 + 1) i (!true) f h c t d0 d1 f h c t = some true
  rw [attestorlaw07_TreePaths.j0, if_neg (by decide)]
  refine bnd p1 (bnd p2 (bnd q2 (bnd q3 ?_)))
  rw [if_pos rfl]
  refine bnd (equal_self P p0 1999 (by omega)) ?_
  rw [if_pos rfl, if_pos rfl]
  refine bnd (same_self u0 u1 u2 us q0 q1 1999 (by omega)) ?_
  rw [if_pos rfl]
  refine bnd (same_self f h c t (by omega) hrr 1999 (by omega)) ?_
  rw [if_pos rfl]
  exact bnd (lives_true 1999 (by omega)) rfl
end Go.Proofs.YtpnpmeogffodgaaDoor.Q
end
section
namespace Go.Proofs.YtpnpmeogffodgaaDoor.Q
open Go.ChangeShapes Go.WideShapes Go.ChangeAt Go.WideMaps Go.WideElems Go.RowKit
open Go.Proofs.YtpnpmeogffodgaaDoorW.PrintWords Go.Proofs.YtpnpmeogffodgaaDoorW.PrintLast Go.Proofs.YtpnpmeogffodgaaDoorW.PrintMore
open Go.Proofs.YtpnpmeogffodgaaDoor.Opn
set_option linter.unusedVariables false

theorem okWide_array_ {P : Program} {w : World} {r : Reach} {base : Nat} {t : TypeId} {v : Value} {n : Nat} {e : TypeId} (ht : P.underlying t = some (.array n e)) (h : Value.okWide P w r base t v) : ∃ cs, v = .agg cs ∧ cs.size = P.cellsOf t := by
  simp only [Value.okWide, ht] at h
  obtain ⟨cs, h1, h2, _⟩ := h
  exact ⟨cs, h1, h2⟩
set_option maxRecDepth 100000 in
theorem treePaths_lifted (os : Os) (started : os.Started) (H : Type) (enc : TypeId × Value → H) :
    ReturnsInHanded {} Tryd.checked os 8 .any (fun w args => (Rows.treePathsSpec.pre enc Tryd.prog Tryd.f8 [] false w args ∧ laidMetH Tryd.prog laid1 w) ∧ sizedMet enc Tryd.prog Tryd.f8 (OpenSpec.ofChange Rows.treePathsSpec) false w args)
      (Rows.treePathsSpec.post enc Tryd.prog Tryd.f8 false true false false) := by
  refine returnsInHanded_of_change_and (C := Tryd.checked) (X := (fun w _ => laidMetH Tryd.prog laid1 w)) (fun _ _ _ hh h => h.of_heap hh) own started (by kernel_rfl) Tryd.func8
    (ChangeSpec.witness_shaped (enc := enc) (C := Tryd.checked) (os := os) (X := (fun w _ => laidMetH Tryd.prog laid1 w)) false (World.doorLaid Tryd.prog 400 os) #[.agg #[.int .i64 0, .int .i64 0, .int .i64 0, .slice none 0 0], .int .i64 0, .agg #[.int .u64 0, .int .u64 0]] 8 rfl (World.shaped_of_RefB (by kernel_rfl) (by kernel_rfl)) (by kernel_rfl) (by kernel_rfl) (by kernel_rfl) (door_met os _)) ?_
  intro W base args ds gs before hval0 hW _ _ hL _
  have hval : ∀ (j : Nat) t v, Tryd.f8.params[j]? = some t → args[j]? = some v → Value.okWide Tryd.prog W .any base t v := hval0
  have hW' := hW
  obtain ⟨p, q, hA0, hV, rfl, hfz, hnd⟩ := hW
  have hA : DataW.TrodAll enc Tryd.prog W 0 (fun _ => true) true Tryd.f8.params.toList args.toList ds p := hA0
  rw [Tryd.params8] at hA hval
  obtain ⟨v0, vs0, d0, ds0, p0, q0, hargs, rfl, rfl, h0, r0⟩ := trodAll_cons hA
  obtain ⟨v1, vs1, d1, ds1, p1, q1, rfl, rfl, rfl, h1, r1⟩ := trodAll_cons r0
  obtain ⟨v2, vs2, d2, ds2, p2, q2, rfl, rfl, rfl, h2, r2⟩ := trodAll_cons r1
  obtain ⟨rfl, rfl, rfl⟩ := trodAll_nil r2
  obtain rfl : args = #[v0, v1, v2] := by cases args; simp_all
  obtain ⟨rfl, rfl⟩ := trodVars_none hV
  have k0 := h0
  have lt0 : ∀ x ∈ p0, x.block < W.heap.size := by obtain ⟨m, hm⟩ := k0; exact DataW.trod_lt m _ _ _ hm
  obtain ⟨cs0, rfl, _⟩ := okWide_struct Tryd.underlying26 (hval 0 26 v0 rfl rfl)
  obtain ⟨m0, hm0⟩ := h0
  obtain ⟨a0_0, a0_1, a0_2, A0_3, c0_3, l0_3, hcs0, w0_0, w0_1, w0_2, hle0_3, hC0_3, w0_3⟩ := flat26 m0 _ _ hm0
  obtain rfl : cs0 = #[.int .i64 a0_0, .int .i64 a0_1, .int .i64 a0_2, .slice A0_3 l0_3.length c0_3] := by cases cs0; simp only [Value.cells] at hcs0; subst hcs0; rfl
  obtain ⟨a1, rfl, rfl, rfl, w1⟩ := open_int Tryd.underlying3 (hval 1 3 v1 rfl rfl) h1
  have k2 := h2
  have lt2 : ∀ x ∈ p2, x.block < W.heap.size := by obtain ⟨m, hm⟩ := k2; exact DataW.trod_lt m _ _ _ hm
  obtain ⟨cs2, rfl, _⟩ := okWide_array_ Tryd.underlying36 (hval 2 36 v2 rfl rfl)
  obtain ⟨m2, hm2⟩ := h2
  obtain ⟨a2_0, a2_1, hcs2, w2_0, w2_1⟩ := flat36 m2 _ _ hm2
  obtain rfl : cs2 = #[.int .u64 a2_0, .int .u64 a2_1] := by cases cs2; simp only [Value.cells] at hcs2; subst hcs2; rfl
  clear hA0 hval0
  refine (attestorlaw07_TreePaths.calls 2000 a0_0 a0_1 a0_2 A0_3 c0_3 l0_3 a1 a2_0 a2_1 true W hC0_3 hle0_3 (gl_of_laid hL) (paths_true a0_0 a0_1 a0_2 l0_3 a1 a2_0 a2_1 (fun r hr => nn_of (w0_3 r hr)) ⟨(wf_u64 w2_0).1, (wf_u64 w2_1).1⟩)).mono fun e W' ⟨he, bel⟩ => ?_
  subst he
  exact ⟨_, rfl, _, _, _, [], _, [], hW', trodAll_mk1 (shut_bool Tryd.underlying4 _), (trodAll_cons_mk (Below.trod laidOut (by kernel_rfl) (of_decide_eq_true (by kernel_rfl)) k0 bel lt0) (trodAll_cons_mk (shut_int Tryd.underlying3 w1) (trodAll_cons_mk (Below.trod laidOut (by kernel_rfl) (of_decide_eq_true (by kernel_rfl)) k2 bel lt2) trodAll_mk0))), rfl, bel.frame _, fun h => by cases h⟩
theorem treePaths_row : Rows.TreePathsSaid :=
  OpenClaim.holds_of_wide 8 Tryd.f8 rfl rfl rfl rfl rfl rfl rfl ⟨rfl, rfl, rfl, rfl, rfl⟩ rfl rfl rfl rfl rfl (by kernel_rfl) Tryd.func8 (by kernel_rfl)
    (of_decide_eq_true (by kernel_rfl)) (by unfold Func.isWrapper; first | (rw [if_pos (by decide +kernel)]; kernel_rfl) | (rw [if_neg (by decide +kernel)]; exact ⟨rfl, rfl⟩))
    (fun os started H enc _ => treePaths_lifted os started H enc)
theorem treePaths_card : Rows.TreePathsCardSaid :=
  Claim7.holds_tied_plain_at .later [] [.widerDeep, .data, .data] true Rows.treePathsCard.stood.harness false
    treePaths_row (fun _ h => by cases h) (by kernel_rfl) (fun _ h => by cases h) treePaths_row_tie rfl ⟨rfl, rfl⟩ (by kernel_rfl) rfl
    (fun f fn hf hfn => by
      obtain rfl : f = 8 := Option.some.inj ((show Tryd.prog.funcNamed "attestor/attestorlaw07.TreePaths" = some 8 by kernel_rfl).symm.trans hf) |>.symm
      obtain rfl : fn = Tryd.f8 := (Option.some.inj (Tryd.func8.symm.trans hfn)).symm
      exact ⟨by kernel_rfl, fun j t ht => by
        rw [Tryd.params8] at ht
        have hm : t ∈ [26, 3, 36] := by simpa using Array.mem_of_getElem? ht
        have hall : ([26, 3, 36].all fun u => !Tryd.prog.wantsStandIn u) = true := by kernel_rfl
        exact (show Tryd.prog.wantsStandIn t = false by simpa using List.all_eq_true.1 hall t hm)⟩)
    (by kernel_rfl)
end Go.Proofs.YtpnpmeogffodgaaDoor.Q
namespace Go.Proofs.YtpnpmeogffodgaaDoor
/-- Under a short name, for the claim. -/
theorem treePaths_holds : Rows.TreePathsCardSaid := Q.treePaths_card
end Go.Proofs.YtpnpmeogffodgaaDoor
#print axioms Go.Proofs.YtpnpmeogffodgaaDoor.treePaths_holds
end
