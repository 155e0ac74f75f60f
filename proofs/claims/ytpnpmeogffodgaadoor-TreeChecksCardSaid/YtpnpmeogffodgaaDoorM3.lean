/- Several texts in one, in build order. What they prove, each by its own first remark:
tree.climb by hand (tree.climber hands back a closure that keeps its place and its digest): what it computes, and its contract.
Written by our own copy of a printing program (a twelfth state) out of the translation. Not trusted: Lean checks it.
Of PFa what this claim needs.
Of PSa what this claim needs.
Of PSl what this claim needs.
Of PNode what this claim needs. -/
import Derived.Test.YtpnpmeogffodgaaDoorM2
import Derived.Laws.BitsLemmas
section
namespace Go.Proofs.YtpnpmeogffodgaaDoor.Q
open Go.RowKit Go.Proofs.YtpnpmeogffodgaaDoorW.PrintWords Go.Proofs.YtpnpmeogffodgaaDoorW.PrintLast Go.Proofs.YtpnpmeogffodgaaDoorW.PrintMore
set_option linter.unusedVariables false
set_option linter.unusedSimpArgs false
/-- A walk's state: the memory that lay when the caller began lies as it lay; of what lay when the call began all but the blocks of S lies as it lay. -/
def Stp (w0 w : World) (S : Nat → Prop) (W : World) : Prop := Below w0.heap.size w0 W ∧ Kept w W S
theorem stp_b {w0 w W : World} {S : Nat → Prop} (h : Stp w0 w S W) : Below w0.heap.size w0 W := h.1
theorem stp_k {w0 w W : World} {S : Nat → Prop} (h : Stp w0 w S W) : Kept w W S := h.2
theorem stp_below {w0 w W W1 : World} {S : Nat → Prop} (h : Stp w0 w S W) (hb : Below W.heap.size W W1) : Stp w0 w S W1 := ⟨below_step h.1 hb, h.2.below hb⟩
theorem new_ne {W : World} {h g : Nat} {o : Obj} (hb : W.heap[h]? = some o) (hg : g = W.heap.size) : h ≠ g := by
  have := blk_lt hb
  omega
theorem below_ne {W : World} {h g : Nat} {o : Obj} (hb : W.heap[h]? = some o) (hg : W.heap.size ≤ g) : h ≠ g := by
  have := blk_lt hb
  omega
theorem stp_new {w0 w W : World} {S : Nat → Prop} {g : Nat} (h : Stp w0 w S W) (hg : g = W.heap.size) : w0.heap.size ≤ g ∧ (S g ∨ w.heap.size ≤ g) := by
  subst hg
  exact ⟨h.1.size, .inr h.2.1⟩
theorem stp_set {w0 w W : World} {S : Nat → Prop} {g : Nat} (h : Stp w0 w S W) (hg : w0.heap.size ≤ g ∧ (S g ∨ w.heap.size ≤ g)) (j : Nat) (u : Value) : Stp w0 w S (W.setCell ⟨g, j, none⟩ u) := ⟨below_set h.1 hg.1, h.2.setCell (p := ⟨g, j, none⟩) hg.2 u⟩
theorem stp_drewN {w0 w W : World} {S : Nat → Prop} (h : Stp w0 w S W) (n : Nat) : Stp w0 w S (W.drewN n) := ⟨pw_below_drewN h.1 n, h.2⟩
theorem stp_drew {w0 w W : World} {S : Nat → Prop} (h : Stp w0 w S W) : Stp w0 w S W.drew := ⟨h.1.drew, h.2⟩
theorem stp_trans {w0 w W W1 : World} {S S2 : Nat → Prop} (h : Stp w0 w S W) (k : Stp w0 W S2 W1) (hs : ∀ g, S2 g → S g ∨ w.heap.size ≤ g) : Stp w0 w S W1 := ⟨k.1, h.2.then_ k.2 hs⟩
set_option maxHeartbeats 2000000 in
set_option maxRecDepth 100000 in
/-- The closure, at an even place. -/
theorem climber1_even (f i x0 x1 p0 p1 n0 n1 : Int) (gf gi gx : Nat) (w0 w : World) (hG : GL w0) (hS : Below w0.heap.size w0 w) (bf : w.heap[gf]? = some (.cells #[.int .i64 f] 3 (0, 0))) (bi : w.heap[gi]? = some (.cells #[.int .i64 i] 3 (0, 0))) (bx : w.heap[gx]? = some (.cells #[.int .u64 x0, .int .u64 x1] 36 (0, 0)))
    (nfi : gf ≠ gi) (hgf : w0.heap.size ≤ gf) (hgi : w0.heap.size ≤ gi) (hgx : w0.heap.size ≤ gx) (ho : (Go.bits .and .i64 i 1 == 1) = false) (h : sponge_Node.f 200 f x0 x1 p0 p1 = some (n0, n1)) :
    Calls Tryd.prog 64 #[.agg #[.int .u64 p0, .int .u64 p1], .pointer (some ⟨gx, 0, none⟩), .pointer (some ⟨gi, 0, none⟩), .pointer (some ⟨gf, 0, none⟩)] w fun e w' => e = .returned (.tuple #[.agg #[.int .u64 x0, .int .u64 x1, .int .u64 p0, .int .u64 p1], .agg #[.int .u64 n0, .int .u64 n1]]) ∧ Stp w0 w (fun k => k = gi ∨ k = gx) w'
      ∧ w'.heap[gf]? = some (.cells #[.int .i64 f] 3 (0, 0)) ∧ w'.heap[gi]? = some (.cells #[.int .i64 (i / 2)] 3 (0, 0)) ∧ w'.heap[gx]? = some (.cells #[.int .u64 n0, .int .u64 n1] 36 (0, 0)) := by
  have hu36 := Tryd.underlying36
  have hu48 := Tryd.underlying48
  have HRG := Aside0.mk hG
  have A := Aside0.mk h
  have B_gf := Aside0.mk bf
  have B_gi := Aside0.mk bi
  have B_gx := Aside0.mk bx
  have nfx : gf ≠ gx := blk_ne bf bx (by decide)
  have nix : gi ≠ gx := blk_ne bi bx (by decide)
  have N_gf_gi := Aside0.mk nfi
  have N_gi_gf := Aside0.mk nfi.symm
  have N_gf_gx := Aside0.mk nfx
  have N_gx_gf := Aside0.mk nfx.symm
  have N_gi_gx := Aside0.mk nix
  have N_gx_gi := Aside0.mk nix.symm
  generalize hSS : (fun k : Nat => k = gi ∨ k = gx) = S
  have G_gi : Aside0 (w0.heap.size ≤ gi ∧ (S gi ∨ w.heap.size ≤ gi)) := ⟨hgi, .inl (hSS ▸ .inl rfl)⟩
  have G_gx : Aside0 (w0.heap.size ≤ gx ∧ (S gx ∨ w.heap.size ≤ gx)) := ⟨hgx, .inl (hSS ▸ .inr rfl)⟩
  have HS : Aside0 (Stp w0 w S w) := ⟨hS, Kept.refl _ _⟩
  clear h hG hS bf bi bx nfi nfx nix hgf hgi hgx hSS
  have c_gf_0 : w.cell? ⟨gf, 0, none⟩ = some (.int .i64 f) := (blk_cell B_gf.out 0).trans rfl
  have f_gf_0 := blk_frozen B_gf.out 0
  have c_gi_0 : w.cell? ⟨gi, 0, none⟩ = some (.int .i64 i) := (blk_cell B_gi.out 0).trans rfl
  have f_gi_0 := blk_frozen B_gi.out 0
  have c_gx_0 : w.cell? ⟨gx, 0, none⟩ = some (.int .u64 x0) := (blk_cell B_gx.out 0).trans rfl
  have f_gx_0 := blk_frozen B_gx.out 0
  have c_gx_1 : w.cell? ⟨gx, 1, none⟩ = some (.int .u64 x1) := (blk_cell B_gx.out 1).trans rfl
  have f_gx_1 := blk_frozen B_gx.out 1
  have n_gf_gi := N_gf_gi.out
  have n_gf_gx := N_gf_gx.out
  have n_gi_gf := N_gi_gf.out
  have n_gi_gx := N_gi_gx.out
  have n_gx_gf := N_gx_gf.out
  have n_gx_gi := N_gx_gi.out
  go_enter Tryd.func64, Tryd.ntmps64
  go_wp2_with (first
    | ((with_reducible refine gate_dst (N := 4) rfl ?_); refine box_event ?hg (N := 4) ?hd (cs := #[.int .u64 p0, .int .u64 p1]) (t := 36) ?hr ?_; (case hd => rfl); (case hg => rfl); (case hr => first | (go_simp; done) | (go_simp; rfl)); intro gp xg w1 y_ hb; clear c_gf_0 f_gf_0 c_gi_0 f_gi_0 c_gx_0 f_gx_0 c_gx_1 f_gx_1; have N_gf_gp := Aside0.mk (new_ne B_gf.out xg); have N_gp_gf := Aside0.mk N_gf_gp.out.symm; have N_gi_gp := Aside0.mk (new_ne B_gi.out xg); have N_gp_gi := Aside0.mk N_gi_gp.out.symm; have N_gx_gp := Aside0.mk (new_ne B_gx.out xg); have N_gp_gx := Aside0.mk N_gx_gp.out.symm; have G_gp := Aside0.mk (stp_new HS.out xg); replace B_gf := Aside0.mk (show w1.heap[gf]? = some (.cells #[.int .i64 f] 3 (0, 0)) from blk_below B_gf.out hb); replace B_gi := Aside0.mk (show w1.heap[gi]? = some (.cells #[.int .i64 i] 3 (0, 0)) from blk_below B_gi.out hb); replace B_gx := Aside0.mk (show w1.heap[gx]? = some (.cells #[.int .u64 x0, .int .u64 x1] 36 (0, 0)) from blk_below B_gx.out hb); replace HS := Aside0.mk (show Stp w0 w S w1 from stp_below HS.out hb); have B_gp := Aside0.mk y_; clear xg y_ hb; skip)
    | ((with_reducible refine gate_dst (N := 5) rfl ?_); refine box_event ?hg (N := 5) ?hd (cs := #[.int .u64 0, .int .u64 0, .int .u64 0, .int .u64 0]) (t := 48) ?hr ?_; (case hd => rfl); (case hg => rfl); (case hr => first | (go_simp; done) | (go_simp; rfl)); intro g5 xg w2 y_ hb; skip; have N_gf_g5 := Aside0.mk (new_ne B_gf.out xg); have N_g5_gf := Aside0.mk N_gf_g5.out.symm; have N_gi_g5 := Aside0.mk (new_ne B_gi.out xg); have N_g5_gi := Aside0.mk N_gi_g5.out.symm; have N_gx_g5 := Aside0.mk (new_ne B_gx.out xg); have N_g5_gx := Aside0.mk N_gx_g5.out.symm; have N_gp_g5 := Aside0.mk (new_ne B_gp.out xg); have N_g5_gp := Aside0.mk N_gp_g5.out.symm; have G_g5 := Aside0.mk (stp_new HS.out xg); replace B_gf := Aside0.mk (show w2.heap[gf]? = some (.cells #[.int .i64 f] 3 (0, 0)) from blk_below B_gf.out hb); replace B_gi := Aside0.mk (show w2.heap[gi]? = some (.cells #[.int .i64 i] 3 (0, 0)) from blk_below B_gi.out hb); replace B_gx := Aside0.mk (show w2.heap[gx]? = some (.cells #[.int .u64 x0, .int .u64 x1] 36 (0, 0)) from blk_below B_gx.out hb); replace B_gp := Aside0.mk (show w2.heap[gp]? = some (.cells #[.int .u64 p0, .int .u64 p1] 36 (0, 0)) from blk_below B_gp.out hb); replace HS := Aside0.mk (show Stp w0 w S w2 from stp_below HS.out hb); have B_g5 := Aside0.mk y_; clear xg y_ hb; skip)
    | ((with_reducible refine gate_dst (N := 6) rfl ?_); refine box_event ?hg (N := 6) ?hd (cs := #[.int .u64 0, .int .u64 0]) (t := 36) ?hr ?_; (case hd => rfl); (case hg => rfl); (case hr => first | (go_simp; done) | (go_simp; rfl)); intro g6 xg w3 y_ hb; skip; have N_gf_g6 := Aside0.mk (new_ne B_gf.out xg); have N_g6_gf := Aside0.mk N_gf_g6.out.symm; have N_gi_g6 := Aside0.mk (new_ne B_gi.out xg); have N_g6_gi := Aside0.mk N_gi_g6.out.symm; have N_gx_g6 := Aside0.mk (new_ne B_gx.out xg); have N_g6_gx := Aside0.mk N_gx_g6.out.symm; have N_gp_g6 := Aside0.mk (new_ne B_gp.out xg); have N_g6_gp := Aside0.mk N_gp_g6.out.symm; have N_g5_g6 := Aside0.mk (new_ne B_g5.out xg); have N_g6_g5 := Aside0.mk N_g5_g6.out.symm; have G_g6 := Aside0.mk (stp_new HS.out xg); replace B_gf := Aside0.mk (show w3.heap[gf]? = some (.cells #[.int .i64 f] 3 (0, 0)) from blk_below B_gf.out hb); replace B_gi := Aside0.mk (show w3.heap[gi]? = some (.cells #[.int .i64 i] 3 (0, 0)) from blk_below B_gi.out hb); replace B_gx := Aside0.mk (show w3.heap[gx]? = some (.cells #[.int .u64 x0, .int .u64 x1] 36 (0, 0)) from blk_below B_gx.out hb); replace B_gp := Aside0.mk (show w3.heap[gp]? = some (.cells #[.int .u64 p0, .int .u64 p1] 36 (0, 0)) from blk_below B_gp.out hb); replace B_g5 := Aside0.mk (show w3.heap[g5]? = some (.cells #[.int .u64 0, .int .u64 0, .int .u64 0, .int .u64 0] 48 (0, 0)) from blk_below B_g5.out hb); replace HS := Aside0.mk (show Stp w0 w S w3 from stp_below HS.out hb); have B_g6 := Aside0.mk y_; clear xg y_ hb; have c_gx_0 : w3.cell? ⟨gx, 0, none⟩ = some (.int .u64 x0) := (blk_cell B_gx.out 0).trans rfl; have f_gx_0 := blk_frozen B_gx.out 0; have c_gx_1 : w3.cell? ⟨gx, 1, none⟩ = some (.int .u64 x1) := (blk_cell B_gx.out 1).trans rfl; have f_gx_1 := blk_frozen B_gx.out 1; have c_gp_0 : w3.cell? ⟨gp, 0, none⟩ = some (.int .u64 p0) := (blk_cell B_gp.out 0).trans rfl; have f_gp_0 := blk_frozen B_gp.out 0; have c_gp_1 : w3.cell? ⟨gp, 1, none⟩ = some (.int .u64 p1) := (blk_cell B_gp.out 1).trans rfl; have f_gp_1 := blk_frozen B_gp.out 1)
    | ((with_reducible refine gate_dst (N := 7) rfl ?_); refine box_event ?hg (N := 7) ?hd (cs := #[.int .u64 0, .int .u64 0, .int .u64 0, .int .u64 0]) (t := 48) ?hr ?_; (case hd => rfl); (case hg => rfl); (case hr => first | (go_simp; done) | (go_simp; rfl)); intro g7 xg w4 y_ hb; clear c_gx_0 f_gx_0 c_gx_1 f_gx_1 c_gp_0 f_gp_0 c_gp_1 f_gp_1; have N_gf_g7 := Aside0.mk (new_ne B_gf.out xg); have N_g7_gf := Aside0.mk N_gf_g7.out.symm; have N_gi_g7 := Aside0.mk (new_ne B_gi.out xg); have N_g7_gi := Aside0.mk N_gi_g7.out.symm; have N_gx_g7 := Aside0.mk (new_ne B_gx.out xg); have N_g7_gx := Aside0.mk N_gx_g7.out.symm; have N_gp_g7 := Aside0.mk (new_ne B_gp.out xg); have N_g7_gp := Aside0.mk N_gp_g7.out.symm; have N_g5_g7 := Aside0.mk (new_ne B_g5.out xg); have N_g7_g5 := Aside0.mk N_g5_g7.out.symm; have N_g6_g7 := Aside0.mk (new_ne B_g6.out xg); have N_g7_g6 := Aside0.mk N_g6_g7.out.symm; have G_g7 := Aside0.mk (stp_new HS.out xg); replace B_gf := Aside0.mk (show w4.heap[gf]? = some (.cells #[.int .i64 f] 3 (0, 0)) from blk_below B_gf.out hb); replace B_gi := Aside0.mk (show w4.heap[gi]? = some (.cells #[.int .i64 i] 3 (0, 0)) from blk_below B_gi.out hb); replace B_gx := Aside0.mk (show w4.heap[gx]? = some (.cells #[.int .u64 x0, .int .u64 x1] 36 (0, 0)) from blk_below B_gx.out hb); replace B_gp := Aside0.mk (show w4.heap[gp]? = some (.cells #[.int .u64 p0, .int .u64 p1] 36 (0, 0)) from blk_below B_gp.out hb); replace B_g5 := Aside0.mk (show w4.heap[g5]? = some (.cells #[.int .u64 0, .int .u64 0, .int .u64 0, .int .u64 0] 48 (0, 0)) from blk_below B_g5.out hb); replace B_g6 := Aside0.mk (show w4.heap[g6]? = some (.cells #[.int .u64 0, .int .u64 0] 36 (0, 0)) from blk_below B_g6.out hb); replace HS := Aside0.mk (show Stp w0 w S w4 from stp_below HS.out hb); have B_g7 := Aside0.mk y_; clear xg y_ hb; have c_g7_0 : w4.cell? ⟨g7, 0, none⟩ = some (.int .u64 0) := (blk_cell B_g7.out 0).trans rfl; have f_g7_0 := blk_frozen B_g7.out 0; have c_g7_1 : w4.cell? ⟨g7, 1, none⟩ = some (.int .u64 0) := (blk_cell B_g7.out 1).trans rfl; have f_g7_1 := blk_frozen B_g7.out 1; have c_g7_2 : w4.cell? ⟨g7, 2, none⟩ = some (.int .u64 0) := (blk_cell B_g7.out 2).trans rfl; have f_g7_2 := blk_frozen B_g7.out 2; have c_g7_3 : w4.cell? ⟨g7, 3, none⟩ = some (.int .u64 0) := (blk_cell B_g7.out 3).trans rfl; have f_g7_3 := blk_frozen B_g7.out 3)
    | ((with_reducible refine gate_store (t := 48) (p := 7) rfl ?_); refine store_event (t := 48) (p := 7) (v := .tmp 10) (w1 := ((((w4.setCell ⟨g7, 0, none⟩ (.int .u64 x0)).setCell ⟨g7, 1, none⟩ (.int .u64 x1)).setCell ⟨g7, 2, none⟩ (.int .u64 p0)).setCell ⟨g7, 3, none⟩ (.int .u64 p1))) ?hg ?ho ?hn ?hr ?_; (case ho => rfl); (case hg => rfl); (case hn => rfl); (case hr => first | (go_simp; done) | (go_simp; rfl)); intro w5 hw; clear c_g7_0 f_g7_0 c_g7_1 f_g7_1 c_g7_2 f_g7_2 c_g7_3 f_g7_3; replace B_gf := Aside0.mk (show w5.heap[gf]? = some (.cells #[.int .i64 f] 3 (0, 0)) from (by rw [hw]; (repeat (refine blk_far ?_ N_gf_g7.out _)); exact B_gf.out)); replace B_gi := Aside0.mk (show w5.heap[gi]? = some (.cells #[.int .i64 i] 3 (0, 0)) from (by rw [hw]; (repeat (refine blk_far ?_ N_gi_g7.out _)); exact B_gi.out)); replace B_gx := Aside0.mk (show w5.heap[gx]? = some (.cells #[.int .u64 x0, .int .u64 x1] 36 (0, 0)) from (by rw [hw]; (repeat (refine blk_far ?_ N_gx_g7.out _)); exact B_gx.out)); replace B_gp := Aside0.mk (show w5.heap[gp]? = some (.cells #[.int .u64 p0, .int .u64 p1] 36 (0, 0)) from (by rw [hw]; (repeat (refine blk_far ?_ N_gp_g7.out _)); exact B_gp.out)); replace B_g5 := Aside0.mk (show w5.heap[g5]? = some (.cells #[.int .u64 0, .int .u64 0, .int .u64 0, .int .u64 0] 48 (0, 0)) from (by rw [hw]; (repeat (refine blk_far ?_ N_g5_g7.out _)); exact B_g5.out)); replace B_g6 := Aside0.mk (show w5.heap[g6]? = some (.cells #[.int .u64 0, .int .u64 0] 36 (0, 0)) from (by rw [hw]; (repeat (refine blk_far ?_ N_g6_g7.out _)); exact B_g6.out)); replace B_g7 := Aside0.mk (show w5.heap[g7]? = some (.cells #[.int .u64 x0, .int .u64 x1, .int .u64 p0, .int .u64 p1] 48 (0, 0)) from (by rw [hw]; exact (blk_put (cs := #[.int .u64 x0, .int .u64 x1, .int .u64 p0, .int .u64 0]) (blk_put (cs := #[.int .u64 x0, .int .u64 x1, .int .u64 0, .int .u64 0]) (blk_put (cs := #[.int .u64 x0, .int .u64 0, .int .u64 0, .int .u64 0]) (blk_put (cs := #[.int .u64 0, .int .u64 0, .int .u64 0, .int .u64 0]) B_g7.out 0 (.int .u64 x0) rfl) 1 (.int .u64 x1) rfl) 2 (.int .u64 p0) rfl) 3 (.int .u64 p1) rfl))); replace HS := Aside0.mk (show Stp w0 w S w5 from (by rw [hw]; exact (stp_set (stp_set (stp_set (stp_set HS.out G_g7.out 0 (.int .u64 x0)) G_g7.out 1 (.int .u64 x1)) G_g7.out 2 (.int .u64 p0)) G_g7.out 3 (.int .u64 p1)))); clear hw; have c_gi_0 : w5.cell? ⟨gi, 0, none⟩ = some (.int .i64 i) := (blk_cell B_gi.out 0).trans rfl; have f_gi_0 := blk_frozen B_gi.out 0)
    | ((with_reducible refine gate_store (t := 3) (p := 2) rfl ?_); refine store_event (t := 3) (p := 2) (v := .tmp 18) (w1 := (w5.setCell ⟨gi, 0, none⟩ (.int .i64 (i / 2)))) ?hg ?ho ?hn ?hr ?_; (case ho => rfl); (case hg => rfl); (case hn => rfl); (case hr => first | (go_simp; done) | (go_simp; rfl)); intro w7 hw; clear c_gi_0 f_gi_0; replace B_gf := Aside0.mk (show w7.heap[gf]? = some (.cells #[.int .i64 f] 3 (0, 0)) from (by rw [hw]; (repeat (refine blk_far ?_ N_gf_gi.out _)); exact B_gf.out)); replace B_gi := Aside0.mk (show w7.heap[gi]? = some (.cells #[.int .i64 (i / 2)] 3 (0, 0)) from (by rw [hw]; exact (blk_put (cs := #[.int .i64 i]) B_gi.out 0 (.int .i64 (i / 2)) rfl))); replace B_gx := Aside0.mk (show w7.heap[gx]? = some (.cells #[.int .u64 x0, .int .u64 x1] 36 (0, 0)) from (by rw [hw]; (repeat (refine blk_far ?_ N_gx_gi.out _)); exact B_gx.out)); replace B_gp := Aside0.mk (show w7.heap[gp]? = some (.cells #[.int .u64 p0, .int .u64 p1] 36 (0, 0)) from (by rw [hw]; (repeat (refine blk_far ?_ N_gp_gi.out _)); exact B_gp.out)); replace B_g5 := Aside0.mk (show w7.heap[g5]? = some (.cells #[.int .u64 0, .int .u64 0, .int .u64 0, .int .u64 0] 48 (0, 0)) from (by rw [hw]; (repeat (refine blk_far ?_ N_g5_gi.out _)); exact B_g5.out)); replace B_g6 := Aside0.mk (show w7.heap[g6]? = some (.cells #[.int .u64 0, .int .u64 0] 36 (0, 0)) from (by rw [hw]; (repeat (refine blk_far ?_ N_g6_gi.out _)); exact B_g6.out)); replace B_g7 := Aside0.mk (show w7.heap[g7]? = some (.cells #[.int .u64 x0, .int .u64 x1, .int .u64 p0, .int .u64 p1] 48 (0, 0)) from (by rw [hw]; (repeat (refine blk_far ?_ N_g7_gi.out _)); exact B_g7.out)); replace HS := Aside0.mk (show Stp w0 w S w7 from (by rw [hw]; exact (stp_set HS.out G_gi.out 0 (.int .i64 (i / 2))))); clear hw; have c_gf_0 : w7.cell? ⟨gf, 0, none⟩ = some (.int .i64 f) := (blk_cell B_gf.out 0).trans rfl; have f_gf_0 := blk_frozen B_gf.out 0; have c_g7_0 : w7.cell? ⟨g7, 0, none⟩ = some (.int .u64 x0) := (blk_cell B_g7.out 0).trans rfl; have f_g7_0 := blk_frozen B_g7.out 0; have c_g7_1 : w7.cell? ⟨g7, 1, none⟩ = some (.int .u64 x1) := (blk_cell B_g7.out 1).trans rfl; have f_g7_1 := blk_frozen B_g7.out 1; have c_g7_2 : w7.cell? ⟨g7, 2, none⟩ = some (.int .u64 p0) := (blk_cell B_g7.out 2).trans rfl; have f_g7_2 := blk_frozen B_g7.out 2; have c_g7_3 : w7.cell? ⟨g7, 3, none⟩ = some (.int .u64 p1) := (blk_cell B_g7.out 3).trans rfl; have f_g7_3 := blk_frozen B_g7.out 3)
    | (go_at_call 36; (with_reducible refine (sponge_Node.calls 200 f x0 x1 p0 p1 n0 n1 _ (GL.below HRG.out (stp_b HS.out)) A.out).mono ?_); rintro e w8 ⟨rfl, hb⟩; clear c_gf_0 f_gf_0 c_g7_0 f_g7_0 c_g7_1 f_g7_1 c_g7_2 f_g7_2 c_g7_3 f_g7_3; replace B_gf := Aside0.mk (show w8.heap[gf]? = some (.cells #[.int .i64 f] 3 (0, 0)) from blk_below B_gf.out hb); replace B_gi := Aside0.mk (show w8.heap[gi]? = some (.cells #[.int .i64 (i / 2)] 3 (0, 0)) from blk_below B_gi.out hb); replace B_gx := Aside0.mk (show w8.heap[gx]? = some (.cells #[.int .u64 x0, .int .u64 x1] 36 (0, 0)) from blk_below B_gx.out hb); replace B_gp := Aside0.mk (show w8.heap[gp]? = some (.cells #[.int .u64 p0, .int .u64 p1] 36 (0, 0)) from blk_below B_gp.out hb); replace B_g5 := Aside0.mk (show w8.heap[g5]? = some (.cells #[.int .u64 0, .int .u64 0, .int .u64 0, .int .u64 0] 48 (0, 0)) from blk_below B_g5.out hb); replace B_g6 := Aside0.mk (show w8.heap[g6]? = some (.cells #[.int .u64 0, .int .u64 0] 36 (0, 0)) from blk_below B_g6.out hb); replace B_g7 := Aside0.mk (show w8.heap[g7]? = some (.cells #[.int .u64 x0, .int .u64 x1, .int .u64 p0, .int .u64 p1] 48 (0, 0)) from blk_below B_g7.out hb); replace HS := Aside0.mk (show Stp w0 w S w8 from stp_below HS.out hb); clear hb; have c_gx_0 : w8.cell? ⟨gx, 0, none⟩ = some (.int .u64 x0) := (blk_cell B_gx.out 0).trans rfl; have f_gx_0 := blk_frozen B_gx.out 0; have c_gx_1 : w8.cell? ⟨gx, 1, none⟩ = some (.int .u64 x1) := (blk_cell B_gx.out 1).trans rfl; have f_gx_1 := blk_frozen B_gx.out 1)
    | ((with_reducible refine gate_store (t := 36) (p := 1) rfl ?_); refine store_event (t := 36) (p := 1) (v := .tmp 24) (w1 := ((w8.setCell ⟨gx, 0, none⟩ (.int .u64 n0)).setCell ⟨gx, 1, none⟩ (.int .u64 n1))) ?hg ?ho ?hn ?hr ?_; (case ho => rfl); (case hg => rfl); (case hn => rfl); (case hr => first | (go_simp; done) | (go_simp; rfl)); intro w9 hw; clear c_gx_0 f_gx_0 c_gx_1 f_gx_1; replace B_gf := Aside0.mk (show w9.heap[gf]? = some (.cells #[.int .i64 f] 3 (0, 0)) from (by rw [hw]; (repeat (refine blk_far ?_ N_gf_gx.out _)); exact B_gf.out)); replace B_gi := Aside0.mk (show w9.heap[gi]? = some (.cells #[.int .i64 (i / 2)] 3 (0, 0)) from (by rw [hw]; (repeat (refine blk_far ?_ N_gi_gx.out _)); exact B_gi.out)); replace B_gx := Aside0.mk (show w9.heap[gx]? = some (.cells #[.int .u64 n0, .int .u64 n1] 36 (0, 0)) from (by rw [hw]; exact (blk_put (cs := #[.int .u64 n0, .int .u64 x1]) (blk_put (cs := #[.int .u64 x0, .int .u64 x1]) B_gx.out 0 (.int .u64 n0) rfl) 1 (.int .u64 n1) rfl))); replace B_gp := Aside0.mk (show w9.heap[gp]? = some (.cells #[.int .u64 p0, .int .u64 p1] 36 (0, 0)) from (by rw [hw]; (repeat (refine blk_far ?_ N_gp_gx.out _)); exact B_gp.out)); replace B_g5 := Aside0.mk (show w9.heap[g5]? = some (.cells #[.int .u64 0, .int .u64 0, .int .u64 0, .int .u64 0] 48 (0, 0)) from (by rw [hw]; (repeat (refine blk_far ?_ N_g5_gx.out _)); exact B_g5.out)); replace B_g6 := Aside0.mk (show w9.heap[g6]? = some (.cells #[.int .u64 0, .int .u64 0] 36 (0, 0)) from (by rw [hw]; (repeat (refine blk_far ?_ N_g6_gx.out _)); exact B_g6.out)); replace B_g7 := Aside0.mk (show w9.heap[g7]? = some (.cells #[.int .u64 x0, .int .u64 x1, .int .u64 p0, .int .u64 p1] 48 (0, 0)) from (by rw [hw]; (repeat (refine blk_far ?_ N_g7_gx.out _)); exact B_g7.out)); replace HS := Aside0.mk (show Stp w0 w S w9 from (by rw [hw]; exact (stp_set (stp_set HS.out G_gx.out 0 (.int .u64 n0)) G_gx.out 1 (.int .u64 n1)))); clear hw; skip))
  skip
  replace B_gf : Aside0 (w9.drew.heap[gf]? = some (.cells #[.int .i64 f] 3 (0, 0))) := ⟨B_gf.out⟩
  replace B_gi : Aside0 (w9.drew.heap[gi]? = some (.cells #[.int .i64 (i / 2)] 3 (0, 0))) := ⟨B_gi.out⟩
  replace B_gx : Aside0 (w9.drew.heap[gx]? = some (.cells #[.int .u64 n0, .int .u64 n1] 36 (0, 0))) := ⟨B_gx.out⟩
  replace B_gp : Aside0 (w9.drew.heap[gp]? = some (.cells #[.int .u64 p0, .int .u64 p1] 36 (0, 0))) := ⟨B_gp.out⟩
  replace B_g5 : Aside0 (w9.drew.heap[g5]? = some (.cells #[.int .u64 0, .int .u64 0, .int .u64 0, .int .u64 0] 48 (0, 0))) := ⟨B_g5.out⟩
  replace B_g6 : Aside0 (w9.drew.heap[g6]? = some (.cells #[.int .u64 0, .int .u64 0] 36 (0, 0))) := ⟨B_g6.out⟩
  replace B_g7 : Aside0 (w9.drew.heap[g7]? = some (.cells #[.int .u64 x0, .int .u64 x1, .int .u64 p0, .int .u64 p1] 48 (0, 0))) := ⟨B_g7.out⟩
  replace HS : Aside0 (Stp w0 w S w9.drew) := ⟨stp_drew HS.out⟩
  refine start_ (n := 4) (S := fun w' => w'.cell? ⟨g7, 0, none⟩ = some (.int .u64 x0) ∧ w'.cell? ⟨g7, 1, none⟩ = some (.int .u64 x1) ∧ w'.cell? ⟨g7, 2, none⟩ = some (.int .u64 p0) ∧ w'.cell? ⟨g7, 3, none⟩ = some (.int .u64 p1) ∧ w'.cell? ⟨gx, 0, none⟩ = some (.int .u64 n0) ∧ w'.cell? ⟨gx, 1, none⟩ = some (.int .u64 n1)) (ds := []) #[false, false, false, false] (by kernel_rfl) rfl rfl ⟨(blk_cell B_g7.out 0).trans rfl, (blk_cell B_g7.out 1).trans rfl, (blk_cell B_g7.out 2).trans rfl, (blk_cell B_g7.out 3).trans rfl, (blk_cell B_gx.out 0).trans rfl, (blk_cell B_gx.out 1).trans rfl⟩ (fun hHeld => ?_)
  generalize w9.drew = w10 at B_gf B_gi B_gx B_gp B_g5 B_g6 B_g7 HS hHeld ⊢
  refine take_ (i := 0) (N := some 25) (v := ?_) (a' := ?_) #[true, false, false, false] rfl rfl (by kernel_rfl) (fun _ _ _ h => h) (Or.inl ⟨by rfl, ?_⟩) hHeld ?_ ?_
  rotate_left
  · rintro w' ⟨s0, s1, s2, s3, s4, s5⟩
    go_simp
    with_reducible rfl
  rotate_left
  · simp only [Act.put, List.setIfInBounds_toArray, List.set_cons_zero, List.set_cons_succ, i64_w, i32_w]
    rfl
  refine take_ (i := 1) (N := some 26) (v := ?_) (a' := ?_) #[true, true, false, false] rfl rfl (by kernel_rfl) (fun _ _ _ h => h) (Or.inl ⟨by rfl, ?_⟩) hHeld ?_ ?_
  rotate_left
  · rintro w' ⟨s0, s1, s2, s3, s4, s5⟩
    go_simp
    with_reducible rfl
  rotate_left
  · simp only [Act.put, List.setIfInBounds_toArray, List.set_cons_zero, List.set_cons_succ, i64_w, i32_w]
    rfl
  have n_gf_gi := N_gf_gi.out
  have n_gf_gx := N_gf_gx.out
  have n_gf_gp := N_gf_gp.out
  have n_gf_g5 := N_gf_g5.out
  have n_gf_g6 := N_gf_g6.out
  have n_gf_g7 := N_gf_g7.out
  have n_gi_gf := N_gi_gf.out
  have n_gi_gx := N_gi_gx.out
  have n_gi_gp := N_gi_gp.out
  have n_gi_g5 := N_gi_g5.out
  have n_gi_g6 := N_gi_g6.out
  have n_gi_g7 := N_gi_g7.out
  have n_gx_gf := N_gx_gf.out
  have n_gx_gi := N_gx_gi.out
  have n_gx_gp := N_gx_gp.out
  have n_gx_g5 := N_gx_g5.out
  have n_gx_g6 := N_gx_g6.out
  have n_gx_g7 := N_gx_g7.out
  have n_gp_gf := N_gp_gf.out
  have n_gp_gi := N_gp_gi.out
  have n_gp_gx := N_gp_gx.out
  have n_gp_g5 := N_gp_g5.out
  have n_gp_g6 := N_gp_g6.out
  have n_gp_g7 := N_gp_g7.out
  have n_g5_gf := N_g5_gf.out
  have n_g5_gi := N_g5_gi.out
  have n_g5_gx := N_g5_gx.out
  have n_g5_gp := N_g5_gp.out
  have n_g5_g6 := N_g5_g6.out
  have n_g5_g7 := N_g5_g7.out
  have n_g6_gf := N_g6_gf.out
  have n_g6_gi := N_g6_gi.out
  have n_g6_gx := N_g6_gx.out
  have n_g6_gp := N_g6_gp.out
  have n_g6_g5 := N_g6_g5.out
  have n_g6_g7 := N_g6_g7.out
  have n_g7_gf := N_g7_gf.out
  have n_g7_gi := N_g7_gi.out
  have n_g7_gx := N_g7_gx.out
  have n_g7_gp := N_g7_gp.out
  have n_g7_g5 := N_g7_g5.out
  have n_g7_g6 := N_g7_g6.out
  refine one_ (i := 2) (N := none) #[true, true, true, false] rfl rfl (by kernel_rfl) (by decide) (fun K hK => ?_)
  have c_g5_0 : w10.cell? ⟨g5, 0, none⟩ = some (.int .u64 0) := (blk_cell B_g5.out 0).trans rfl
  have f_g5_0 := blk_frozen B_g5.out 0
  have c_g5_1 : w10.cell? ⟨g5, 1, none⟩ = some (.int .u64 0) := (blk_cell B_g5.out 1).trans rfl
  have f_g5_1 := blk_frozen B_g5.out 1
  have c_g5_2 : w10.cell? ⟨g5, 2, none⟩ = some (.int .u64 0) := (blk_cell B_g5.out 2).trans rfl
  have f_g5_2 := blk_frozen B_g5.out 2
  have c_g5_3 : w10.cell? ⟨g5, 3, none⟩ = some (.int .u64 0) := (blk_cell B_g5.out 3).trans rfl
  have f_g5_3 := blk_frozen B_g5.out 3
  refine skip_ (w1 := ?_) (by rfl) rfl ?_ ?_
  rotate_left
  · go_simp
    rfl
  refine hK.out _ _ ⟨(cell_far (p := ⟨g5, _, none⟩) N_g7_g5.out _).trans ((cell_far (p := ⟨g5, _, none⟩) N_g7_g5.out _).trans ((cell_far (p := ⟨g5, _, none⟩) N_g7_g5.out _).trans ((cell_far (p := ⟨g5, _, none⟩) N_g7_g5.out _).trans (hHeld.1)))), (cell_far (p := ⟨g5, _, none⟩) N_g7_g5.out _).trans ((cell_far (p := ⟨g5, _, none⟩) N_g7_g5.out _).trans ((cell_far (p := ⟨g5, _, none⟩) N_g7_g5.out _).trans ((cell_far (p := ⟨g5, _, none⟩) N_g7_g5.out _).trans (hHeld.2.1)))), (cell_far (p := ⟨g5, _, none⟩) N_g7_g5.out _).trans ((cell_far (p := ⟨g5, _, none⟩) N_g7_g5.out _).trans ((cell_far (p := ⟨g5, _, none⟩) N_g7_g5.out _).trans ((cell_far (p := ⟨g5, _, none⟩) N_g7_g5.out _).trans (hHeld.2.2.1)))), (cell_far (p := ⟨g5, _, none⟩) N_g7_g5.out _).trans ((cell_far (p := ⟨g5, _, none⟩) N_g7_g5.out _).trans ((cell_far (p := ⟨g5, _, none⟩) N_g7_g5.out _).trans ((cell_far (p := ⟨g5, _, none⟩) N_g7_g5.out _).trans (hHeld.2.2.2.1)))), (cell_far (p := ⟨g5, _, none⟩) N_gx_g5.out _).trans ((cell_far (p := ⟨g5, _, none⟩) N_gx_g5.out _).trans ((cell_far (p := ⟨g5, _, none⟩) N_gx_g5.out _).trans ((cell_far (p := ⟨g5, _, none⟩) N_gx_g5.out _).trans (hHeld.2.2.2.2.1)))), (cell_far (p := ⟨g5, _, none⟩) N_gx_g5.out _).trans ((cell_far (p := ⟨g5, _, none⟩) N_gx_g5.out _).trans ((cell_far (p := ⟨g5, _, none⟩) N_gx_g5.out _).trans ((cell_far (p := ⟨g5, _, none⟩) N_gx_g5.out _).trans (hHeld.2.2.2.2.2))))⟩ (fun hHeld => ?_)
  refine one_ (i := 3) (N := none) #[true, true, true, true] rfl rfl (by kernel_rfl) (by decide) (fun K hK => ?_)
  have c_g6_0 : w10.cell? ⟨g6, 0, none⟩ = some (.int .u64 0) := (blk_cell B_g6.out 0).trans rfl
  have f_g6_0 := blk_frozen B_g6.out 0
  have c_g6_1 : w10.cell? ⟨g6, 1, none⟩ = some (.int .u64 0) := (blk_cell B_g6.out 1).trans rfl
  have f_g6_1 := blk_frozen B_g6.out 1
  refine skip_ (w1 := ?_) (by rfl) rfl ?_ ?_
  rotate_left
  · go_simp
    rfl
  refine hK.out _ _ ⟨(cell_far (p := ⟨g6, _, none⟩) N_g7_g6.out _).trans ((cell_far (p := ⟨g6, _, none⟩) N_g7_g6.out _).trans (hHeld.1)), (cell_far (p := ⟨g6, _, none⟩) N_g7_g6.out _).trans ((cell_far (p := ⟨g6, _, none⟩) N_g7_g6.out _).trans (hHeld.2.1)), (cell_far (p := ⟨g6, _, none⟩) N_g7_g6.out _).trans ((cell_far (p := ⟨g6, _, none⟩) N_g7_g6.out _).trans (hHeld.2.2.1)), (cell_far (p := ⟨g6, _, none⟩) N_g7_g6.out _).trans ((cell_far (p := ⟨g6, _, none⟩) N_g7_g6.out _).trans (hHeld.2.2.2.1)), (cell_far (p := ⟨g6, _, none⟩) N_gx_g6.out _).trans ((cell_far (p := ⟨g6, _, none⟩) N_gx_g6.out _).trans (hHeld.2.2.2.2.1)), (cell_far (p := ⟨g6, _, none⟩) N_gx_g6.out _).trans ((cell_far (p := ⟨g6, _, none⟩) N_gx_g6.out _).trans (hHeld.2.2.2.2.2))⟩ (fun hHeld => ?_)
  refine done_ (by kernel_rfl) ?_
  try go_wp2
  refine bodyPost_ret (results_list (rs := [.cell 5 48, .cell 6 36]) rfl (by simp) (.cell g5 48 #[.int .u64 x0, .int .u64 x1, .int .u64 p0, .int .u64 p1] (0, 0) _ rfl (blk_far (blk_far (blk_put (cs := #[.int .u64 x0, .int .u64 x1, .int .u64 p0, .int .u64 0]) (blk_put (cs := #[.int .u64 x0, .int .u64 x1, .int .u64 0, .int .u64 0]) (blk_put (cs := #[.int .u64 x0, .int .u64 0, .int .u64 0, .int .u64 0]) (blk_put (cs := #[.int .u64 0, .int .u64 0, .int .u64 0, .int .u64 0]) B_g5.out 0 (.int .u64 x0) rfl) 1 (.int .u64 x1) rfl) 2 (.int .u64 p0) rfl) 3 (.int .u64 p1) rfl) N_g5_g6.out _) N_g5_g6.out _) Tryd.underlying48 rfl (by kernel_rfl) (.cell g6 36 #[.int .u64 n0, .int .u64 n1] (0, 0) _ rfl (blk_put (cs := #[.int .u64 n0, .int .u64 0]) (blk_put (cs := #[.int .u64 0, .int .u64 0]) (blk_far (blk_far (blk_far (blk_far B_g6.out N_g6_g5.out _) N_g6_g5.out _) N_g6_g5.out _) N_g6_g5.out _) 0 (.int .u64 n0) rfl) 1 (.int .u64 n1) rfl) Tryd.underlying36 rfl (by kernel_rfl) .nil))) rfl ?_
  exact ⟨rfl, (stp_set (stp_set (stp_set (stp_set (stp_set (stp_set HS.out G_g5.out 0 (.int .u64 x0)) G_g5.out 1 (.int .u64 x1)) G_g5.out 2 (.int .u64 p0)) G_g5.out 3 (.int .u64 p1)) G_g6.out 0 (.int .u64 n0)) G_g6.out 1 (.int .u64 n1)), (blk_far (blk_far (blk_far (blk_far (blk_far (blk_far B_gf.out N_gf_g5.out _) N_gf_g5.out _) N_gf_g5.out _) N_gf_g5.out _) N_gf_g6.out _) N_gf_g6.out _), (blk_far (blk_far (blk_far (blk_far (blk_far (blk_far B_gi.out N_gi_g5.out _) N_gi_g5.out _) N_gi_g5.out _) N_gi_g5.out _) N_gi_g6.out _) N_gi_g6.out _), (blk_far (blk_far (blk_far (blk_far (blk_far (blk_far B_gx.out N_gx_g5.out _) N_gx_g5.out _) N_gx_g5.out _) N_gx_g5.out _) N_gx_g6.out _) N_gx_g6.out _)⟩
set_option maxHeartbeats 2000000 in
set_option maxRecDepth 100000 in
/-- The closure, at an odd place. -/
theorem climber1_odd (f i x0 x1 p0 p1 n0 n1 : Int) (gf gi gx : Nat) (w0 w : World) (hG : GL w0) (hS : Below w0.heap.size w0 w) (bf : w.heap[gf]? = some (.cells #[.int .i64 f] 3 (0, 0))) (bi : w.heap[gi]? = some (.cells #[.int .i64 i] 3 (0, 0))) (bx : w.heap[gx]? = some (.cells #[.int .u64 x0, .int .u64 x1] 36 (0, 0)))
    (nfi : gf ≠ gi) (hgf : w0.heap.size ≤ gf) (hgi : w0.heap.size ≤ gi) (hgx : w0.heap.size ≤ gx) (ho : (Go.bits .and .i64 i 1 == 1) = true) (h : sponge_Node.f 200 f p0 p1 x0 x1 = some (n0, n1)) :
    Calls Tryd.prog 64 #[.agg #[.int .u64 p0, .int .u64 p1], .pointer (some ⟨gx, 0, none⟩), .pointer (some ⟨gi, 0, none⟩), .pointer (some ⟨gf, 0, none⟩)] w fun e w' => e = .returned (.tuple #[.agg #[.int .u64 p0, .int .u64 p1, .int .u64 x0, .int .u64 x1], .agg #[.int .u64 n0, .int .u64 n1]]) ∧ Stp w0 w (fun k => k = gi ∨ k = gx) w'
      ∧ w'.heap[gf]? = some (.cells #[.int .i64 f] 3 (0, 0)) ∧ w'.heap[gi]? = some (.cells #[.int .i64 (i / 2)] 3 (0, 0)) ∧ w'.heap[gx]? = some (.cells #[.int .u64 n0, .int .u64 n1] 36 (0, 0)) := by
  have hu36 := Tryd.underlying36
  have hu48 := Tryd.underlying48
  have HRG := Aside0.mk hG
  have A := Aside0.mk h
  have B_gf := Aside0.mk bf
  have B_gi := Aside0.mk bi
  have B_gx := Aside0.mk bx
  have nfx : gf ≠ gx := blk_ne bf bx (by decide)
  have nix : gi ≠ gx := blk_ne bi bx (by decide)
  have N_gf_gi := Aside0.mk nfi
  have N_gi_gf := Aside0.mk nfi.symm
  have N_gf_gx := Aside0.mk nfx
  have N_gx_gf := Aside0.mk nfx.symm
  have N_gi_gx := Aside0.mk nix
  have N_gx_gi := Aside0.mk nix.symm
  generalize hSS : (fun k : Nat => k = gi ∨ k = gx) = S
  have G_gi : Aside0 (w0.heap.size ≤ gi ∧ (S gi ∨ w.heap.size ≤ gi)) := ⟨hgi, .inl (hSS ▸ .inl rfl)⟩
  have G_gx : Aside0 (w0.heap.size ≤ gx ∧ (S gx ∨ w.heap.size ≤ gx)) := ⟨hgx, .inl (hSS ▸ .inr rfl)⟩
  have HS : Aside0 (Stp w0 w S w) := ⟨hS, Kept.refl _ _⟩
  clear h hG hS bf bi bx nfi nfx nix hgf hgi hgx hSS
  have c_gf_0 : w.cell? ⟨gf, 0, none⟩ = some (.int .i64 f) := (blk_cell B_gf.out 0).trans rfl
  have f_gf_0 := blk_frozen B_gf.out 0
  have c_gi_0 : w.cell? ⟨gi, 0, none⟩ = some (.int .i64 i) := (blk_cell B_gi.out 0).trans rfl
  have f_gi_0 := blk_frozen B_gi.out 0
  have c_gx_0 : w.cell? ⟨gx, 0, none⟩ = some (.int .u64 x0) := (blk_cell B_gx.out 0).trans rfl
  have f_gx_0 := blk_frozen B_gx.out 0
  have c_gx_1 : w.cell? ⟨gx, 1, none⟩ = some (.int .u64 x1) := (blk_cell B_gx.out 1).trans rfl
  have f_gx_1 := blk_frozen B_gx.out 1
  have n_gf_gi := N_gf_gi.out
  have n_gf_gx := N_gf_gx.out
  have n_gi_gf := N_gi_gf.out
  have n_gi_gx := N_gi_gx.out
  have n_gx_gf := N_gx_gf.out
  have n_gx_gi := N_gx_gi.out
  go_enter Tryd.func64, Tryd.ntmps64
  go_wp2_with (first
    | ((with_reducible refine gate_dst (N := 4) rfl ?_); refine box_event ?hg (N := 4) ?hd (cs := #[.int .u64 p0, .int .u64 p1]) (t := 36) ?hr ?_; (case hd => rfl); (case hg => rfl); (case hr => first | (go_simp; done) | (go_simp; rfl)); intro gp xg w1 y_ hb; clear c_gf_0 f_gf_0 c_gi_0 f_gi_0 c_gx_0 f_gx_0 c_gx_1 f_gx_1; have N_gf_gp := Aside0.mk (new_ne B_gf.out xg); have N_gp_gf := Aside0.mk N_gf_gp.out.symm; have N_gi_gp := Aside0.mk (new_ne B_gi.out xg); have N_gp_gi := Aside0.mk N_gi_gp.out.symm; have N_gx_gp := Aside0.mk (new_ne B_gx.out xg); have N_gp_gx := Aside0.mk N_gx_gp.out.symm; have G_gp := Aside0.mk (stp_new HS.out xg); replace B_gf := Aside0.mk (show w1.heap[gf]? = some (.cells #[.int .i64 f] 3 (0, 0)) from blk_below B_gf.out hb); replace B_gi := Aside0.mk (show w1.heap[gi]? = some (.cells #[.int .i64 i] 3 (0, 0)) from blk_below B_gi.out hb); replace B_gx := Aside0.mk (show w1.heap[gx]? = some (.cells #[.int .u64 x0, .int .u64 x1] 36 (0, 0)) from blk_below B_gx.out hb); replace HS := Aside0.mk (show Stp w0 w S w1 from stp_below HS.out hb); have B_gp := Aside0.mk y_; clear xg y_ hb; skip)
    | ((with_reducible refine gate_dst (N := 5) rfl ?_); refine box_event ?hg (N := 5) ?hd (cs := #[.int .u64 0, .int .u64 0, .int .u64 0, .int .u64 0]) (t := 48) ?hr ?_; (case hd => rfl); (case hg => rfl); (case hr => first | (go_simp; done) | (go_simp; rfl)); intro g5 xg w2 y_ hb; skip; have N_gf_g5 := Aside0.mk (new_ne B_gf.out xg); have N_g5_gf := Aside0.mk N_gf_g5.out.symm; have N_gi_g5 := Aside0.mk (new_ne B_gi.out xg); have N_g5_gi := Aside0.mk N_gi_g5.out.symm; have N_gx_g5 := Aside0.mk (new_ne B_gx.out xg); have N_g5_gx := Aside0.mk N_gx_g5.out.symm; have N_gp_g5 := Aside0.mk (new_ne B_gp.out xg); have N_g5_gp := Aside0.mk N_gp_g5.out.symm; have G_g5 := Aside0.mk (stp_new HS.out xg); replace B_gf := Aside0.mk (show w2.heap[gf]? = some (.cells #[.int .i64 f] 3 (0, 0)) from blk_below B_gf.out hb); replace B_gi := Aside0.mk (show w2.heap[gi]? = some (.cells #[.int .i64 i] 3 (0, 0)) from blk_below B_gi.out hb); replace B_gx := Aside0.mk (show w2.heap[gx]? = some (.cells #[.int .u64 x0, .int .u64 x1] 36 (0, 0)) from blk_below B_gx.out hb); replace B_gp := Aside0.mk (show w2.heap[gp]? = some (.cells #[.int .u64 p0, .int .u64 p1] 36 (0, 0)) from blk_below B_gp.out hb); replace HS := Aside0.mk (show Stp w0 w S w2 from stp_below HS.out hb); have B_g5 := Aside0.mk y_; clear xg y_ hb; skip)
    | ((with_reducible refine gate_dst (N := 6) rfl ?_); refine box_event ?hg (N := 6) ?hd (cs := #[.int .u64 0, .int .u64 0]) (t := 36) ?hr ?_; (case hd => rfl); (case hg => rfl); (case hr => first | (go_simp; done) | (go_simp; rfl)); intro g6 xg w3 y_ hb; skip; have N_gf_g6 := Aside0.mk (new_ne B_gf.out xg); have N_g6_gf := Aside0.mk N_gf_g6.out.symm; have N_gi_g6 := Aside0.mk (new_ne B_gi.out xg); have N_g6_gi := Aside0.mk N_gi_g6.out.symm; have N_gx_g6 := Aside0.mk (new_ne B_gx.out xg); have N_g6_gx := Aside0.mk N_gx_g6.out.symm; have N_gp_g6 := Aside0.mk (new_ne B_gp.out xg); have N_g6_gp := Aside0.mk N_gp_g6.out.symm; have N_g5_g6 := Aside0.mk (new_ne B_g5.out xg); have N_g6_g5 := Aside0.mk N_g5_g6.out.symm; have G_g6 := Aside0.mk (stp_new HS.out xg); replace B_gf := Aside0.mk (show w3.heap[gf]? = some (.cells #[.int .i64 f] 3 (0, 0)) from blk_below B_gf.out hb); replace B_gi := Aside0.mk (show w3.heap[gi]? = some (.cells #[.int .i64 i] 3 (0, 0)) from blk_below B_gi.out hb); replace B_gx := Aside0.mk (show w3.heap[gx]? = some (.cells #[.int .u64 x0, .int .u64 x1] 36 (0, 0)) from blk_below B_gx.out hb); replace B_gp := Aside0.mk (show w3.heap[gp]? = some (.cells #[.int .u64 p0, .int .u64 p1] 36 (0, 0)) from blk_below B_gp.out hb); replace B_g5 := Aside0.mk (show w3.heap[g5]? = some (.cells #[.int .u64 0, .int .u64 0, .int .u64 0, .int .u64 0] 48 (0, 0)) from blk_below B_g5.out hb); replace HS := Aside0.mk (show Stp w0 w S w3 from stp_below HS.out hb); have B_g6 := Aside0.mk y_; clear xg y_ hb; have c_gx_0 : w3.cell? ⟨gx, 0, none⟩ = some (.int .u64 x0) := (blk_cell B_gx.out 0).trans rfl; have f_gx_0 := blk_frozen B_gx.out 0; have c_gx_1 : w3.cell? ⟨gx, 1, none⟩ = some (.int .u64 x1) := (blk_cell B_gx.out 1).trans rfl; have f_gx_1 := blk_frozen B_gx.out 1; have c_gp_0 : w3.cell? ⟨gp, 0, none⟩ = some (.int .u64 p0) := (blk_cell B_gp.out 0).trans rfl; have f_gp_0 := blk_frozen B_gp.out 0; have c_gp_1 : w3.cell? ⟨gp, 1, none⟩ = some (.int .u64 p1) := (blk_cell B_gp.out 1).trans rfl; have f_gp_1 := blk_frozen B_gp.out 1)
    | ((with_reducible refine gate_dst (N := 7) rfl ?_); refine box_event ?hg (N := 7) ?hd (cs := #[.int .u64 0, .int .u64 0, .int .u64 0, .int .u64 0]) (t := 48) ?hr ?_; (case hd => rfl); (case hg => rfl); (case hr => first | (go_simp; done) | (go_simp; rfl)); intro g7 xg w4 y_ hb; clear c_gx_0 f_gx_0 c_gx_1 f_gx_1 c_gp_0 f_gp_0 c_gp_1 f_gp_1; have N_gf_g7 := Aside0.mk (new_ne B_gf.out xg); have N_g7_gf := Aside0.mk N_gf_g7.out.symm; have N_gi_g7 := Aside0.mk (new_ne B_gi.out xg); have N_g7_gi := Aside0.mk N_gi_g7.out.symm; have N_gx_g7 := Aside0.mk (new_ne B_gx.out xg); have N_g7_gx := Aside0.mk N_gx_g7.out.symm; have N_gp_g7 := Aside0.mk (new_ne B_gp.out xg); have N_g7_gp := Aside0.mk N_gp_g7.out.symm; have N_g5_g7 := Aside0.mk (new_ne B_g5.out xg); have N_g7_g5 := Aside0.mk N_g5_g7.out.symm; have N_g6_g7 := Aside0.mk (new_ne B_g6.out xg); have N_g7_g6 := Aside0.mk N_g6_g7.out.symm; have G_g7 := Aside0.mk (stp_new HS.out xg); replace B_gf := Aside0.mk (show w4.heap[gf]? = some (.cells #[.int .i64 f] 3 (0, 0)) from blk_below B_gf.out hb); replace B_gi := Aside0.mk (show w4.heap[gi]? = some (.cells #[.int .i64 i] 3 (0, 0)) from blk_below B_gi.out hb); replace B_gx := Aside0.mk (show w4.heap[gx]? = some (.cells #[.int .u64 x0, .int .u64 x1] 36 (0, 0)) from blk_below B_gx.out hb); replace B_gp := Aside0.mk (show w4.heap[gp]? = some (.cells #[.int .u64 p0, .int .u64 p1] 36 (0, 0)) from blk_below B_gp.out hb); replace B_g5 := Aside0.mk (show w4.heap[g5]? = some (.cells #[.int .u64 0, .int .u64 0, .int .u64 0, .int .u64 0] 48 (0, 0)) from blk_below B_g5.out hb); replace B_g6 := Aside0.mk (show w4.heap[g6]? = some (.cells #[.int .u64 0, .int .u64 0] 36 (0, 0)) from blk_below B_g6.out hb); replace HS := Aside0.mk (show Stp w0 w S w4 from stp_below HS.out hb); have B_g7 := Aside0.mk y_; clear xg y_ hb; have c_g7_0 : w4.cell? ⟨g7, 0, none⟩ = some (.int .u64 0) := (blk_cell B_g7.out 0).trans rfl; have f_g7_0 := blk_frozen B_g7.out 0; have c_g7_1 : w4.cell? ⟨g7, 1, none⟩ = some (.int .u64 0) := (blk_cell B_g7.out 1).trans rfl; have f_g7_1 := blk_frozen B_g7.out 1; have c_g7_2 : w4.cell? ⟨g7, 2, none⟩ = some (.int .u64 0) := (blk_cell B_g7.out 2).trans rfl; have f_g7_2 := blk_frozen B_g7.out 2; have c_g7_3 : w4.cell? ⟨g7, 3, none⟩ = some (.int .u64 0) := (blk_cell B_g7.out 3).trans rfl; have f_g7_3 := blk_frozen B_g7.out 3)
    | ((with_reducible refine gate_store (t := 48) (p := 7) rfl ?_); refine store_event (t := 48) (p := 7) (v := .tmp 10) (w1 := ((((w4.setCell ⟨g7, 0, none⟩ (.int .u64 x0)).setCell ⟨g7, 1, none⟩ (.int .u64 x1)).setCell ⟨g7, 2, none⟩ (.int .u64 p0)).setCell ⟨g7, 3, none⟩ (.int .u64 p1))) ?hg ?ho ?hn ?hr ?_; (case ho => rfl); (case hg => rfl); (case hn => rfl); (case hr => first | (go_simp; done) | (go_simp; rfl)); intro w5 hw; clear c_g7_0 f_g7_0 c_g7_1 f_g7_1 c_g7_2 f_g7_2 c_g7_3 f_g7_3; replace B_gf := Aside0.mk (show w5.heap[gf]? = some (.cells #[.int .i64 f] 3 (0, 0)) from (by rw [hw]; (repeat (refine blk_far ?_ N_gf_g7.out _)); exact B_gf.out)); replace B_gi := Aside0.mk (show w5.heap[gi]? = some (.cells #[.int .i64 i] 3 (0, 0)) from (by rw [hw]; (repeat (refine blk_far ?_ N_gi_g7.out _)); exact B_gi.out)); replace B_gx := Aside0.mk (show w5.heap[gx]? = some (.cells #[.int .u64 x0, .int .u64 x1] 36 (0, 0)) from (by rw [hw]; (repeat (refine blk_far ?_ N_gx_g7.out _)); exact B_gx.out)); replace B_gp := Aside0.mk (show w5.heap[gp]? = some (.cells #[.int .u64 p0, .int .u64 p1] 36 (0, 0)) from (by rw [hw]; (repeat (refine blk_far ?_ N_gp_g7.out _)); exact B_gp.out)); replace B_g5 := Aside0.mk (show w5.heap[g5]? = some (.cells #[.int .u64 0, .int .u64 0, .int .u64 0, .int .u64 0] 48 (0, 0)) from (by rw [hw]; (repeat (refine blk_far ?_ N_g5_g7.out _)); exact B_g5.out)); replace B_g6 := Aside0.mk (show w5.heap[g6]? = some (.cells #[.int .u64 0, .int .u64 0] 36 (0, 0)) from (by rw [hw]; (repeat (refine blk_far ?_ N_g6_g7.out _)); exact B_g6.out)); replace B_g7 := Aside0.mk (show w5.heap[g7]? = some (.cells #[.int .u64 x0, .int .u64 x1, .int .u64 p0, .int .u64 p1] 48 (0, 0)) from (by rw [hw]; exact (blk_put (cs := #[.int .u64 x0, .int .u64 x1, .int .u64 p0, .int .u64 0]) (blk_put (cs := #[.int .u64 x0, .int .u64 x1, .int .u64 0, .int .u64 0]) (blk_put (cs := #[.int .u64 x0, .int .u64 0, .int .u64 0, .int .u64 0]) (blk_put (cs := #[.int .u64 0, .int .u64 0, .int .u64 0, .int .u64 0]) B_g7.out 0 (.int .u64 x0) rfl) 1 (.int .u64 x1) rfl) 2 (.int .u64 p0) rfl) 3 (.int .u64 p1) rfl))); replace HS := Aside0.mk (show Stp w0 w S w5 from (by rw [hw]; exact (stp_set (stp_set (stp_set (stp_set HS.out G_g7.out 0 (.int .u64 x0)) G_g7.out 1 (.int .u64 x1)) G_g7.out 2 (.int .u64 p0)) G_g7.out 3 (.int .u64 p1)))); clear hw; have c_gi_0 : w5.cell? ⟨gi, 0, none⟩ = some (.int .i64 i) := (blk_cell B_gi.out 0).trans rfl; have f_gi_0 := blk_frozen B_gi.out 0; have c_gx_0 : w5.cell? ⟨gx, 0, none⟩ = some (.int .u64 x0) := (blk_cell B_gx.out 0).trans rfl; have f_gx_0 := blk_frozen B_gx.out 0; have c_gx_1 : w5.cell? ⟨gx, 1, none⟩ = some (.int .u64 x1) := (blk_cell B_gx.out 1).trans rfl; have f_gx_1 := blk_frozen B_gx.out 1; have c_gp_0 : w5.cell? ⟨gp, 0, none⟩ = some (.int .u64 p0) := (blk_cell B_gp.out 0).trans rfl; have f_gp_0 := blk_frozen B_gp.out 0; have c_gp_1 : w5.cell? ⟨gp, 1, none⟩ = some (.int .u64 p1) := (blk_cell B_gp.out 1).trans rfl; have f_gp_1 := blk_frozen B_gp.out 1; have c_g7_0 : w5.cell? ⟨g7, 0, none⟩ = some (.int .u64 x0) := (blk_cell B_g7.out 0).trans rfl; have f_g7_0 := blk_frozen B_g7.out 0; have c_g7_1 : w5.cell? ⟨g7, 1, none⟩ = some (.int .u64 x1) := (blk_cell B_g7.out 1).trans rfl; have f_g7_1 := blk_frozen B_g7.out 1; have c_g7_2 : w5.cell? ⟨g7, 2, none⟩ = some (.int .u64 p0) := (blk_cell B_g7.out 2).trans rfl; have f_g7_2 := blk_frozen B_g7.out 2; have c_g7_3 : w5.cell? ⟨g7, 3, none⟩ = some (.int .u64 p1) := (blk_cell B_g7.out 3).trans rfl; have f_g7_3 := blk_frozen B_g7.out 3)
    | ((with_reducible refine gate_store (t := 48) (p := 7) rfl ?_); refine store_event (t := 48) (p := 7) (v := .tmp 16) (w1 := ((((w5.setCell ⟨g7, 0, none⟩ (.int .u64 p0)).setCell ⟨g7, 1, none⟩ (.int .u64 p1)).setCell ⟨g7, 2, none⟩ (.int .u64 x0)).setCell ⟨g7, 3, none⟩ (.int .u64 x1))) ?hg ?ho ?hn ?hr ?_; (case ho => rfl); (case hg => rfl); (case hn => rfl); (case hr => first | (go_simp; done) | (go_simp; rfl)); intro w6 hw; clear c_gi_0 f_gi_0 c_gx_0 f_gx_0 c_gx_1 f_gx_1 c_gp_0 f_gp_0 c_gp_1 f_gp_1 c_g7_0 f_g7_0 c_g7_1 f_g7_1 c_g7_2 f_g7_2 c_g7_3 f_g7_3; replace B_gf := Aside0.mk (show w6.heap[gf]? = some (.cells #[.int .i64 f] 3 (0, 0)) from (by rw [hw]; (repeat (refine blk_far ?_ N_gf_g7.out _)); exact B_gf.out)); replace B_gi := Aside0.mk (show w6.heap[gi]? = some (.cells #[.int .i64 i] 3 (0, 0)) from (by rw [hw]; (repeat (refine blk_far ?_ N_gi_g7.out _)); exact B_gi.out)); replace B_gx := Aside0.mk (show w6.heap[gx]? = some (.cells #[.int .u64 x0, .int .u64 x1] 36 (0, 0)) from (by rw [hw]; (repeat (refine blk_far ?_ N_gx_g7.out _)); exact B_gx.out)); replace B_gp := Aside0.mk (show w6.heap[gp]? = some (.cells #[.int .u64 p0, .int .u64 p1] 36 (0, 0)) from (by rw [hw]; (repeat (refine blk_far ?_ N_gp_g7.out _)); exact B_gp.out)); replace B_g5 := Aside0.mk (show w6.heap[g5]? = some (.cells #[.int .u64 0, .int .u64 0, .int .u64 0, .int .u64 0] 48 (0, 0)) from (by rw [hw]; (repeat (refine blk_far ?_ N_g5_g7.out _)); exact B_g5.out)); replace B_g6 := Aside0.mk (show w6.heap[g6]? = some (.cells #[.int .u64 0, .int .u64 0] 36 (0, 0)) from (by rw [hw]; (repeat (refine blk_far ?_ N_g6_g7.out _)); exact B_g6.out)); replace B_g7 := Aside0.mk (show w6.heap[g7]? = some (.cells #[.int .u64 p0, .int .u64 p1, .int .u64 x0, .int .u64 x1] 48 (0, 0)) from (by rw [hw]; exact (blk_put (cs := #[.int .u64 p0, .int .u64 p1, .int .u64 x0, .int .u64 p1]) (blk_put (cs := #[.int .u64 p0, .int .u64 p1, .int .u64 p0, .int .u64 p1]) (blk_put (cs := #[.int .u64 p0, .int .u64 x1, .int .u64 p0, .int .u64 p1]) (blk_put (cs := #[.int .u64 x0, .int .u64 x1, .int .u64 p0, .int .u64 p1]) B_g7.out 0 (.int .u64 p0) rfl) 1 (.int .u64 p1) rfl) 2 (.int .u64 x0) rfl) 3 (.int .u64 x1) rfl))); replace HS := Aside0.mk (show Stp w0 w S w6 from (by rw [hw]; exact (stp_set (stp_set (stp_set (stp_set HS.out G_g7.out 0 (.int .u64 p0)) G_g7.out 1 (.int .u64 p1)) G_g7.out 2 (.int .u64 x0)) G_g7.out 3 (.int .u64 x1)))); clear hw; have c_gi_0 : w6.cell? ⟨gi, 0, none⟩ = some (.int .i64 i) := (blk_cell B_gi.out 0).trans rfl; have f_gi_0 := blk_frozen B_gi.out 0)
    | ((with_reducible refine gate_store (t := 3) (p := 2) rfl ?_); refine store_event (t := 3) (p := 2) (v := .tmp 18) (w1 := (w6.setCell ⟨gi, 0, none⟩ (.int .i64 (i / 2)))) ?hg ?ho ?hn ?hr ?_; (case ho => rfl); (case hg => rfl); (case hn => rfl); (case hr => first | (go_simp; done) | (go_simp; rfl)); intro w7 hw; clear c_gi_0 f_gi_0; replace B_gf := Aside0.mk (show w7.heap[gf]? = some (.cells #[.int .i64 f] 3 (0, 0)) from (by rw [hw]; (repeat (refine blk_far ?_ N_gf_gi.out _)); exact B_gf.out)); replace B_gi := Aside0.mk (show w7.heap[gi]? = some (.cells #[.int .i64 (i / 2)] 3 (0, 0)) from (by rw [hw]; exact (blk_put (cs := #[.int .i64 i]) B_gi.out 0 (.int .i64 (i / 2)) rfl))); replace B_gx := Aside0.mk (show w7.heap[gx]? = some (.cells #[.int .u64 x0, .int .u64 x1] 36 (0, 0)) from (by rw [hw]; (repeat (refine blk_far ?_ N_gx_gi.out _)); exact B_gx.out)); replace B_gp := Aside0.mk (show w7.heap[gp]? = some (.cells #[.int .u64 p0, .int .u64 p1] 36 (0, 0)) from (by rw [hw]; (repeat (refine blk_far ?_ N_gp_gi.out _)); exact B_gp.out)); replace B_g5 := Aside0.mk (show w7.heap[g5]? = some (.cells #[.int .u64 0, .int .u64 0, .int .u64 0, .int .u64 0] 48 (0, 0)) from (by rw [hw]; (repeat (refine blk_far ?_ N_g5_gi.out _)); exact B_g5.out)); replace B_g6 := Aside0.mk (show w7.heap[g6]? = some (.cells #[.int .u64 0, .int .u64 0] 36 (0, 0)) from (by rw [hw]; (repeat (refine blk_far ?_ N_g6_gi.out _)); exact B_g6.out)); replace B_g7 := Aside0.mk (show w7.heap[g7]? = some (.cells #[.int .u64 p0, .int .u64 p1, .int .u64 x0, .int .u64 x1] 48 (0, 0)) from (by rw [hw]; (repeat (refine blk_far ?_ N_g7_gi.out _)); exact B_g7.out)); replace HS := Aside0.mk (show Stp w0 w S w7 from (by rw [hw]; exact (stp_set HS.out G_gi.out 0 (.int .i64 (i / 2))))); clear hw; have c_gf_0 : w7.cell? ⟨gf, 0, none⟩ = some (.int .i64 f) := (blk_cell B_gf.out 0).trans rfl; have f_gf_0 := blk_frozen B_gf.out 0; have c_g7_0 : w7.cell? ⟨g7, 0, none⟩ = some (.int .u64 p0) := (blk_cell B_g7.out 0).trans rfl; have f_g7_0 := blk_frozen B_g7.out 0; have c_g7_1 : w7.cell? ⟨g7, 1, none⟩ = some (.int .u64 p1) := (blk_cell B_g7.out 1).trans rfl; have f_g7_1 := blk_frozen B_g7.out 1; have c_g7_2 : w7.cell? ⟨g7, 2, none⟩ = some (.int .u64 x0) := (blk_cell B_g7.out 2).trans rfl; have f_g7_2 := blk_frozen B_g7.out 2; have c_g7_3 : w7.cell? ⟨g7, 3, none⟩ = some (.int .u64 x1) := (blk_cell B_g7.out 3).trans rfl; have f_g7_3 := blk_frozen B_g7.out 3)
    | (go_at_call 36; (with_reducible refine (sponge_Node.calls 200 f p0 p1 x0 x1 n0 n1 _ (GL.below HRG.out (stp_b HS.out)) A.out).mono ?_); rintro e w8 ⟨rfl, hb⟩; clear c_gf_0 f_gf_0 c_g7_0 f_g7_0 c_g7_1 f_g7_1 c_g7_2 f_g7_2 c_g7_3 f_g7_3; replace B_gf := Aside0.mk (show w8.heap[gf]? = some (.cells #[.int .i64 f] 3 (0, 0)) from blk_below B_gf.out hb); replace B_gi := Aside0.mk (show w8.heap[gi]? = some (.cells #[.int .i64 (i / 2)] 3 (0, 0)) from blk_below B_gi.out hb); replace B_gx := Aside0.mk (show w8.heap[gx]? = some (.cells #[.int .u64 x0, .int .u64 x1] 36 (0, 0)) from blk_below B_gx.out hb); replace B_gp := Aside0.mk (show w8.heap[gp]? = some (.cells #[.int .u64 p0, .int .u64 p1] 36 (0, 0)) from blk_below B_gp.out hb); replace B_g5 := Aside0.mk (show w8.heap[g5]? = some (.cells #[.int .u64 0, .int .u64 0, .int .u64 0, .int .u64 0] 48 (0, 0)) from blk_below B_g5.out hb); replace B_g6 := Aside0.mk (show w8.heap[g6]? = some (.cells #[.int .u64 0, .int .u64 0] 36 (0, 0)) from blk_below B_g6.out hb); replace B_g7 := Aside0.mk (show w8.heap[g7]? = some (.cells #[.int .u64 p0, .int .u64 p1, .int .u64 x0, .int .u64 x1] 48 (0, 0)) from blk_below B_g7.out hb); replace HS := Aside0.mk (show Stp w0 w S w8 from stp_below HS.out hb); clear hb; have c_gx_0 : w8.cell? ⟨gx, 0, none⟩ = some (.int .u64 x0) := (blk_cell B_gx.out 0).trans rfl; have f_gx_0 := blk_frozen B_gx.out 0; have c_gx_1 : w8.cell? ⟨gx, 1, none⟩ = some (.int .u64 x1) := (blk_cell B_gx.out 1).trans rfl; have f_gx_1 := blk_frozen B_gx.out 1)
    | ((with_reducible refine gate_store (t := 36) (p := 1) rfl ?_); refine store_event (t := 36) (p := 1) (v := .tmp 24) (w1 := ((w8.setCell ⟨gx, 0, none⟩ (.int .u64 n0)).setCell ⟨gx, 1, none⟩ (.int .u64 n1))) ?hg ?ho ?hn ?hr ?_; (case ho => rfl); (case hg => rfl); (case hn => rfl); (case hr => first | (go_simp; done) | (go_simp; rfl)); intro w9 hw; clear c_gx_0 f_gx_0 c_gx_1 f_gx_1; replace B_gf := Aside0.mk (show w9.heap[gf]? = some (.cells #[.int .i64 f] 3 (0, 0)) from (by rw [hw]; (repeat (refine blk_far ?_ N_gf_gx.out _)); exact B_gf.out)); replace B_gi := Aside0.mk (show w9.heap[gi]? = some (.cells #[.int .i64 (i / 2)] 3 (0, 0)) from (by rw [hw]; (repeat (refine blk_far ?_ N_gi_gx.out _)); exact B_gi.out)); replace B_gx := Aside0.mk (show w9.heap[gx]? = some (.cells #[.int .u64 n0, .int .u64 n1] 36 (0, 0)) from (by rw [hw]; exact (blk_put (cs := #[.int .u64 n0, .int .u64 x1]) (blk_put (cs := #[.int .u64 x0, .int .u64 x1]) B_gx.out 0 (.int .u64 n0) rfl) 1 (.int .u64 n1) rfl))); replace B_gp := Aside0.mk (show w9.heap[gp]? = some (.cells #[.int .u64 p0, .int .u64 p1] 36 (0, 0)) from (by rw [hw]; (repeat (refine blk_far ?_ N_gp_gx.out _)); exact B_gp.out)); replace B_g5 := Aside0.mk (show w9.heap[g5]? = some (.cells #[.int .u64 0, .int .u64 0, .int .u64 0, .int .u64 0] 48 (0, 0)) from (by rw [hw]; (repeat (refine blk_far ?_ N_g5_gx.out _)); exact B_g5.out)); replace B_g6 := Aside0.mk (show w9.heap[g6]? = some (.cells #[.int .u64 0, .int .u64 0] 36 (0, 0)) from (by rw [hw]; (repeat (refine blk_far ?_ N_g6_gx.out _)); exact B_g6.out)); replace B_g7 := Aside0.mk (show w9.heap[g7]? = some (.cells #[.int .u64 p0, .int .u64 p1, .int .u64 x0, .int .u64 x1] 48 (0, 0)) from (by rw [hw]; (repeat (refine blk_far ?_ N_g7_gx.out _)); exact B_g7.out)); replace HS := Aside0.mk (show Stp w0 w S w9 from (by rw [hw]; exact (stp_set (stp_set HS.out G_gx.out 0 (.int .u64 n0)) G_gx.out 1 (.int .u64 n1)))); clear hw; skip))
  skip
  replace B_gf : Aside0 (w9.drew.heap[gf]? = some (.cells #[.int .i64 f] 3 (0, 0))) := ⟨B_gf.out⟩
  replace B_gi : Aside0 (w9.drew.heap[gi]? = some (.cells #[.int .i64 (i / 2)] 3 (0, 0))) := ⟨B_gi.out⟩
  replace B_gx : Aside0 (w9.drew.heap[gx]? = some (.cells #[.int .u64 n0, .int .u64 n1] 36 (0, 0))) := ⟨B_gx.out⟩
  replace B_gp : Aside0 (w9.drew.heap[gp]? = some (.cells #[.int .u64 p0, .int .u64 p1] 36 (0, 0))) := ⟨B_gp.out⟩
  replace B_g5 : Aside0 (w9.drew.heap[g5]? = some (.cells #[.int .u64 0, .int .u64 0, .int .u64 0, .int .u64 0] 48 (0, 0))) := ⟨B_g5.out⟩
  replace B_g6 : Aside0 (w9.drew.heap[g6]? = some (.cells #[.int .u64 0, .int .u64 0] 36 (0, 0))) := ⟨B_g6.out⟩
  replace B_g7 : Aside0 (w9.drew.heap[g7]? = some (.cells #[.int .u64 p0, .int .u64 p1, .int .u64 x0, .int .u64 x1] 48 (0, 0))) := ⟨B_g7.out⟩
  replace HS : Aside0 (Stp w0 w S w9.drew) := ⟨stp_drew HS.out⟩
  refine start_ (n := 4) (S := fun w' => w'.cell? ⟨g7, 0, none⟩ = some (.int .u64 p0) ∧ w'.cell? ⟨g7, 1, none⟩ = some (.int .u64 p1) ∧ w'.cell? ⟨g7, 2, none⟩ = some (.int .u64 x0) ∧ w'.cell? ⟨g7, 3, none⟩ = some (.int .u64 x1) ∧ w'.cell? ⟨gx, 0, none⟩ = some (.int .u64 n0) ∧ w'.cell? ⟨gx, 1, none⟩ = some (.int .u64 n1)) (ds := []) #[false, false, false, false] (by kernel_rfl) rfl rfl ⟨(blk_cell B_g7.out 0).trans rfl, (blk_cell B_g7.out 1).trans rfl, (blk_cell B_g7.out 2).trans rfl, (blk_cell B_g7.out 3).trans rfl, (blk_cell B_gx.out 0).trans rfl, (blk_cell B_gx.out 1).trans rfl⟩ (fun hHeld => ?_)
  generalize w9.drew = w10 at B_gf B_gi B_gx B_gp B_g5 B_g6 B_g7 HS hHeld ⊢
  refine take_ (i := 0) (N := some 25) (v := ?_) (a' := ?_) #[true, false, false, false] rfl rfl (by kernel_rfl) (fun _ _ _ h => h) (Or.inl ⟨by rfl, ?_⟩) hHeld ?_ ?_
  rotate_left
  · rintro w' ⟨s0, s1, s2, s3, s4, s5⟩
    go_simp
    with_reducible rfl
  rotate_left
  · simp only [Act.put, List.setIfInBounds_toArray, List.set_cons_zero, List.set_cons_succ, i64_w, i32_w]
    rfl
  refine take_ (i := 1) (N := some 26) (v := ?_) (a' := ?_) #[true, true, false, false] rfl rfl (by kernel_rfl) (fun _ _ _ h => h) (Or.inl ⟨by rfl, ?_⟩) hHeld ?_ ?_
  rotate_left
  · rintro w' ⟨s0, s1, s2, s3, s4, s5⟩
    go_simp
    with_reducible rfl
  rotate_left
  · simp only [Act.put, List.setIfInBounds_toArray, List.set_cons_zero, List.set_cons_succ, i64_w, i32_w]
    rfl
  have n_gf_gi := N_gf_gi.out
  have n_gf_gx := N_gf_gx.out
  have n_gf_gp := N_gf_gp.out
  have n_gf_g5 := N_gf_g5.out
  have n_gf_g6 := N_gf_g6.out
  have n_gf_g7 := N_gf_g7.out
  have n_gi_gf := N_gi_gf.out
  have n_gi_gx := N_gi_gx.out
  have n_gi_gp := N_gi_gp.out
  have n_gi_g5 := N_gi_g5.out
  have n_gi_g6 := N_gi_g6.out
  have n_gi_g7 := N_gi_g7.out
  have n_gx_gf := N_gx_gf.out
  have n_gx_gi := N_gx_gi.out
  have n_gx_gp := N_gx_gp.out
  have n_gx_g5 := N_gx_g5.out
  have n_gx_g6 := N_gx_g6.out
  have n_gx_g7 := N_gx_g7.out
  have n_gp_gf := N_gp_gf.out
  have n_gp_gi := N_gp_gi.out
  have n_gp_gx := N_gp_gx.out
  have n_gp_g5 := N_gp_g5.out
  have n_gp_g6 := N_gp_g6.out
  have n_gp_g7 := N_gp_g7.out
  have n_g5_gf := N_g5_gf.out
  have n_g5_gi := N_g5_gi.out
  have n_g5_gx := N_g5_gx.out
  have n_g5_gp := N_g5_gp.out
  have n_g5_g6 := N_g5_g6.out
  have n_g5_g7 := N_g5_g7.out
  have n_g6_gf := N_g6_gf.out
  have n_g6_gi := N_g6_gi.out
  have n_g6_gx := N_g6_gx.out
  have n_g6_gp := N_g6_gp.out
  have n_g6_g5 := N_g6_g5.out
  have n_g6_g7 := N_g6_g7.out
  have n_g7_gf := N_g7_gf.out
  have n_g7_gi := N_g7_gi.out
  have n_g7_gx := N_g7_gx.out
  have n_g7_gp := N_g7_gp.out
  have n_g7_g5 := N_g7_g5.out
  have n_g7_g6 := N_g7_g6.out
  refine one_ (i := 2) (N := none) #[true, true, true, false] rfl rfl (by kernel_rfl) (by decide) (fun K hK => ?_)
  have c_g5_0 : w10.cell? ⟨g5, 0, none⟩ = some (.int .u64 0) := (blk_cell B_g5.out 0).trans rfl
  have f_g5_0 := blk_frozen B_g5.out 0
  have c_g5_1 : w10.cell? ⟨g5, 1, none⟩ = some (.int .u64 0) := (blk_cell B_g5.out 1).trans rfl
  have f_g5_1 := blk_frozen B_g5.out 1
  have c_g5_2 : w10.cell? ⟨g5, 2, none⟩ = some (.int .u64 0) := (blk_cell B_g5.out 2).trans rfl
  have f_g5_2 := blk_frozen B_g5.out 2
  have c_g5_3 : w10.cell? ⟨g5, 3, none⟩ = some (.int .u64 0) := (blk_cell B_g5.out 3).trans rfl
  have f_g5_3 := blk_frozen B_g5.out 3
  refine skip_ (w1 := ?_) (by rfl) rfl ?_ ?_
  rotate_left
  · go_simp
    rfl
  refine hK.out _ _ ⟨(cell_far (p := ⟨g5, _, none⟩) N_g7_g5.out _).trans ((cell_far (p := ⟨g5, _, none⟩) N_g7_g5.out _).trans ((cell_far (p := ⟨g5, _, none⟩) N_g7_g5.out _).trans ((cell_far (p := ⟨g5, _, none⟩) N_g7_g5.out _).trans (hHeld.1)))), (cell_far (p := ⟨g5, _, none⟩) N_g7_g5.out _).trans ((cell_far (p := ⟨g5, _, none⟩) N_g7_g5.out _).trans ((cell_far (p := ⟨g5, _, none⟩) N_g7_g5.out _).trans ((cell_far (p := ⟨g5, _, none⟩) N_g7_g5.out _).trans (hHeld.2.1)))), (cell_far (p := ⟨g5, _, none⟩) N_g7_g5.out _).trans ((cell_far (p := ⟨g5, _, none⟩) N_g7_g5.out _).trans ((cell_far (p := ⟨g5, _, none⟩) N_g7_g5.out _).trans ((cell_far (p := ⟨g5, _, none⟩) N_g7_g5.out _).trans (hHeld.2.2.1)))), (cell_far (p := ⟨g5, _, none⟩) N_g7_g5.out _).trans ((cell_far (p := ⟨g5, _, none⟩) N_g7_g5.out _).trans ((cell_far (p := ⟨g5, _, none⟩) N_g7_g5.out _).trans ((cell_far (p := ⟨g5, _, none⟩) N_g7_g5.out _).trans (hHeld.2.2.2.1)))), (cell_far (p := ⟨g5, _, none⟩) N_gx_g5.out _).trans ((cell_far (p := ⟨g5, _, none⟩) N_gx_g5.out _).trans ((cell_far (p := ⟨g5, _, none⟩) N_gx_g5.out _).trans ((cell_far (p := ⟨g5, _, none⟩) N_gx_g5.out _).trans (hHeld.2.2.2.2.1)))), (cell_far (p := ⟨g5, _, none⟩) N_gx_g5.out _).trans ((cell_far (p := ⟨g5, _, none⟩) N_gx_g5.out _).trans ((cell_far (p := ⟨g5, _, none⟩) N_gx_g5.out _).trans ((cell_far (p := ⟨g5, _, none⟩) N_gx_g5.out _).trans (hHeld.2.2.2.2.2))))⟩ (fun hHeld => ?_)
  refine one_ (i := 3) (N := none) #[true, true, true, true] rfl rfl (by kernel_rfl) (by decide) (fun K hK => ?_)
  have c_g6_0 : w10.cell? ⟨g6, 0, none⟩ = some (.int .u64 0) := (blk_cell B_g6.out 0).trans rfl
  have f_g6_0 := blk_frozen B_g6.out 0
  have c_g6_1 : w10.cell? ⟨g6, 1, none⟩ = some (.int .u64 0) := (blk_cell B_g6.out 1).trans rfl
  have f_g6_1 := blk_frozen B_g6.out 1
  refine skip_ (w1 := ?_) (by rfl) rfl ?_ ?_
  rotate_left
  · go_simp
    rfl
  refine hK.out _ _ ⟨(cell_far (p := ⟨g6, _, none⟩) N_g7_g6.out _).trans ((cell_far (p := ⟨g6, _, none⟩) N_g7_g6.out _).trans (hHeld.1)), (cell_far (p := ⟨g6, _, none⟩) N_g7_g6.out _).trans ((cell_far (p := ⟨g6, _, none⟩) N_g7_g6.out _).trans (hHeld.2.1)), (cell_far (p := ⟨g6, _, none⟩) N_g7_g6.out _).trans ((cell_far (p := ⟨g6, _, none⟩) N_g7_g6.out _).trans (hHeld.2.2.1)), (cell_far (p := ⟨g6, _, none⟩) N_g7_g6.out _).trans ((cell_far (p := ⟨g6, _, none⟩) N_g7_g6.out _).trans (hHeld.2.2.2.1)), (cell_far (p := ⟨g6, _, none⟩) N_gx_g6.out _).trans ((cell_far (p := ⟨g6, _, none⟩) N_gx_g6.out _).trans (hHeld.2.2.2.2.1)), (cell_far (p := ⟨g6, _, none⟩) N_gx_g6.out _).trans ((cell_far (p := ⟨g6, _, none⟩) N_gx_g6.out _).trans (hHeld.2.2.2.2.2))⟩ (fun hHeld => ?_)
  refine done_ (by kernel_rfl) ?_
  try go_wp2
  refine bodyPost_ret (results_list (rs := [.cell 5 48, .cell 6 36]) rfl (by simp) (.cell g5 48 #[.int .u64 p0, .int .u64 p1, .int .u64 x0, .int .u64 x1] (0, 0) _ rfl (blk_far (blk_far (blk_put (cs := #[.int .u64 p0, .int .u64 p1, .int .u64 x0, .int .u64 0]) (blk_put (cs := #[.int .u64 p0, .int .u64 p1, .int .u64 0, .int .u64 0]) (blk_put (cs := #[.int .u64 p0, .int .u64 0, .int .u64 0, .int .u64 0]) (blk_put (cs := #[.int .u64 0, .int .u64 0, .int .u64 0, .int .u64 0]) B_g5.out 0 (.int .u64 p0) rfl) 1 (.int .u64 p1) rfl) 2 (.int .u64 x0) rfl) 3 (.int .u64 x1) rfl) N_g5_g6.out _) N_g5_g6.out _) Tryd.underlying48 rfl (by kernel_rfl) (.cell g6 36 #[.int .u64 n0, .int .u64 n1] (0, 0) _ rfl (blk_put (cs := #[.int .u64 n0, .int .u64 0]) (blk_put (cs := #[.int .u64 0, .int .u64 0]) (blk_far (blk_far (blk_far (blk_far B_g6.out N_g6_g5.out _) N_g6_g5.out _) N_g6_g5.out _) N_g6_g5.out _) 0 (.int .u64 n0) rfl) 1 (.int .u64 n1) rfl) Tryd.underlying36 rfl (by kernel_rfl) .nil))) rfl ?_
  exact ⟨rfl, (stp_set (stp_set (stp_set (stp_set (stp_set (stp_set HS.out G_g5.out 0 (.int .u64 p0)) G_g5.out 1 (.int .u64 p1)) G_g5.out 2 (.int .u64 x0)) G_g5.out 3 (.int .u64 x1)) G_g6.out 0 (.int .u64 n0)) G_g6.out 1 (.int .u64 n1)), (blk_far (blk_far (blk_far (blk_far (blk_far (blk_far B_gf.out N_gf_g5.out _) N_gf_g5.out _) N_gf_g5.out _) N_gf_g5.out _) N_gf_g6.out _) N_gf_g6.out _), (blk_far (blk_far (blk_far (blk_far (blk_far (blk_far B_gi.out N_gi_g5.out _) N_gi_g5.out _) N_gi_g5.out _) N_gi_g5.out _) N_gi_g6.out _) N_gi_g6.out _), (blk_far (blk_far (blk_far (blk_far (blk_far (blk_far B_gx.out N_gx_g5.out _) N_gx_g5.out _) N_gx_g5.out _) N_gx_g5.out _) N_gx_g6.out _) N_gx_g6.out _)⟩
set_option maxHeartbeats 2000000 in
theorem climber_calls (f i x0 x1 : Int) (w : World) : Calls Tryd.prog 51 #[.int .i64 f, .int .i64 i, .agg #[.int .u64 x0, .int .u64 x1]] w fun e w' => ∃ gf gi gx : Nat, e = .returned (.func (.func 64) #[] #[.pointer (some ⟨gx, 0, none⟩), .pointer (some ⟨gi, 0, none⟩), .pointer (some ⟨gf, 0, none⟩)]) ∧ w.heap.size ≤ gf ∧ w.heap.size ≤ gi ∧ w.heap.size ≤ gx ∧ gf ≠ gi
    ∧ w'.heap[gf]? = some (.cells #[.int .i64 f] 3 (0, 0)) ∧ w'.heap[gi]? = some (.cells #[.int .i64 i] 3 (0, 0)) ∧ w'.heap[gx]? = some (.cells #[.int .u64 x0, .int .u64 x1] 36 (0, 0)) ∧ Below w.heap.size w w' := by
  have hmf : ∀ (fn : Fn) (first cap : Array Value) (w : World), (Instr.makeFunc fn first cap).run Tryd.prog w = .ok (.func fn first cap) w := fun _ _ _ _ => rfl
  obtain ⟨w0, hw0⟩ : ∃ w0, w0 = w := ⟨_, rfl⟩
  generalize hSS : (fun _ : Nat => False) = S
  have HS : Aside0 (Stp w0 w S w) := ⟨by rw [hw0]; exact Below.refl _ _, Kept.refl _ _⟩
  have HW := Aside0.mk hw0
  clear hSS hw0
  go_enter Tryd.func51, Tryd.ntmps51
  go_wp2_with (first
    | ((with_reducible refine gate_dst (N := 3) rfl ?_); refine box_event ?hg (N := 3) ?hd (cs := #[.int .i64 f]) (t := 3) ?hr ?_; (case hd => rfl); (case hg => rfl); (case hr => first | (go_simp; done) | (go_simp; rfl)); intro gf xg w1 y_ hb; skip; have G_gf := Aside0.mk (stp_new HS.out xg); replace HS := Aside0.mk (show Stp w0 w S w1 from stp_below HS.out hb); have B_gf := Aside0.mk y_; clear xg y_ hb; skip)
    | ((with_reducible refine gate_dst (N := 4) rfl ?_); refine box_event ?hg (N := 4) ?hd (cs := #[.int .i64 i]) (t := 3) ?hr ?_; (case hd => rfl); (case hg => rfl); (case hr => first | (go_simp; done) | (go_simp; rfl)); intro gi xg w2 y_ hb; skip; have N_gf_gi := Aside0.mk (new_ne B_gf.out xg); have N_gi_gf := Aside0.mk N_gf_gi.out.symm; have G_gi := Aside0.mk (stp_new HS.out xg); replace B_gf := Aside0.mk (show w2.heap[gf]? = some (.cells #[.int .i64 f] 3 (0, 0)) from blk_below B_gf.out hb); replace HS := Aside0.mk (show Stp w0 w S w2 from stp_below HS.out hb); have B_gi := Aside0.mk y_; clear xg y_ hb; skip)
    | ((with_reducible refine gate_dst (N := 5) rfl ?_); refine box_event ?hg (N := 5) ?hd (cs := #[.int .u64 x0, .int .u64 x1]) (t := 36) ?hr ?_; (case hd => rfl); (case hg => rfl); (case hr => first | (go_simp; done) | (go_simp; rfl)); intro gx xg w3 y_ hb; skip; have N_gf_gx := Aside0.mk (new_ne B_gf.out xg); have N_gx_gf := Aside0.mk N_gf_gx.out.symm; have N_gi_gx := Aside0.mk (new_ne B_gi.out xg); have N_gx_gi := Aside0.mk N_gi_gx.out.symm; have G_gx := Aside0.mk (stp_new HS.out xg); replace B_gf := Aside0.mk (show w3.heap[gf]? = some (.cells #[.int .i64 f] 3 (0, 0)) from blk_below B_gf.out hb); replace B_gi := Aside0.mk (show w3.heap[gi]? = some (.cells #[.int .i64 i] 3 (0, 0)) from blk_below B_gi.out hb); replace HS := Aside0.mk (show Stp w0 w S w3 from stp_below HS.out hb); have B_gx := Aside0.mk y_; clear xg y_ hb; skip))
  obtain rfl := HW.out
  go_ret
  exact ⟨gf, gi, gx, rfl, G_gf.out.1, G_gi.out.1, G_gx.out.1, N_gf_gi.out, B_gf.out, B_gi.out, B_gx.out, stp_b HS.out⟩
/-- What a climb comes to. -/
def climbL (f : Int) : Int → Int → Int → List S36 → Option (Int × Int)
  | _, x0, x1, [] => some (x0, x1)
  | i, x0, x1, d :: l => (if (Go.bits .and .i64 i 1 == 1) = true then sponge_Node.f 200 f d.f0 d.f1 x0 x1 else sponge_Node.f 200 f x0 x1 d.f0 d.f1).bind fun n => climbL f (i / 2) n.1 n.2 l
def tree_climb.f (f i x0 x1 : Int) (l : List S36) : Option (Int × Int) := climbL f i x0 x1 l
theorem drop_rd (l : List S36) (j : Nat) (h : j < l.length) : l.drop j = rd_T36 l (j : Int) :: l.drop (j + 1) := by
  rw [List.drop_eq_getElem_cons h]
  simp [rd_T36, List.getD, h]
theorem stp_ge {w0 w W : World} {S : Nat → Prop} {g : Nat} (h : Stp w0 w S W) (hg : W.heap.size ≤ g) : w0.heap.size ≤ g ∧ (S g ∨ w.heap.size ≤ g) := ⟨Nat.le_trans h.1.size hg, .inr (Nat.le_trans h.2.1 hg)⟩
set_option maxHeartbeats 8000000 in
set_option maxRecDepth 100000 in
theorem tree_climb.calls (a0 a1 a2_0 a2_1 : Int) (A3 : Option Addr) (c3 : Nat) (l3 : List (S36)) (r1 r2 : Int) (w : World) (hr3 : Kd.C k36 w A3 l3.length l3) (hc3 : l3.length ≤ c3) (hrG : GL w) (h : tree_climb.f a0 a1 a2_0 a2_1 l3 = some (r1, r2)) :
    Calls Tryd.prog 48 #[.int .i64 a0, .int .i64 a1, .agg #[.int .u64 a2_0, .int .u64 a2_1], .slice A3 l3.length c3] w fun e w' => e = .returned (.agg #[.int .u64 r1, .int .u64 r2]) ∧ Below w.heap.size w w' := by
  have hu36 := Tryd.underlying36
  have HRG := Aside0.mk hrG
  have HR3 := Aside0.mk hr3
  have HC3 := Aside0.mk hc3
  have HL := Aside0.mk (Kd.C_max hr3)
  have H' : Aside0 (climbL a0 a1 a2_0 a2_1 (l3.drop 0) = some (r1, r2)) := ⟨h⟩
  clear hr3 hc3 hrG h
  obtain ⟨w0, hw0⟩ : ∃ w0, w0 = w := ⟨_, rfl⟩
  generalize hSS : (fun _ : Nat => False) = S
  have HS : Aside0 (Stp w0 w S w) := ⟨by rw [hw0]; exact Below.refl _ _, Kept.refl _ _⟩
  have HW := Aside0.mk hw0
  clear hSS hw0
  go_enter Tryd.func48, Tryd.ntmps48
  go_wp2_with (first
    | ((with_reducible refine gate_dst (N := 6) rfl ?_); refine box_event ?hg (N := 6) ?hd (cs := #[.int .u64 a2_0, .int .u64 a2_1]) (t := 36) ?hr ?_; (case hd => rfl); (case hg => rfl); (case hr => first | (go_simp; done) | (go_simp; rfl)); intro g6 xg w1 y_ hb; skip; have G_g6 := Aside0.mk (stp_new HS.out xg); replace HS := Aside0.mk (show Stp w0 w S w1 from stp_below HS.out hb); have B_g6 := Aside0.mk y_; clear xg y_ hb; skip)
    | ((with_reducible refine gate_dst (N := 8) rfl ?_); refine box_event ?hg (N := 8) ?hd (cs := #[.int .u64 0, .int .u64 0]) (t := 36) ?hr ?_; (case hd => rfl); (case hg => rfl); (case hr => first | (go_simp; done) | (go_simp; rfl)); intro g8 xg w2 y_ hb; skip; have N_g6_g8 := Aside0.mk (new_ne B_g6.out xg); have N_g8_g6 := Aside0.mk N_g6_g8.out.symm; have G_g8 := Aside0.mk (stp_new HS.out xg); replace B_g6 := Aside0.mk (show w2.heap[g6]? = some (.cells #[.int .u64 a2_0, .int .u64 a2_1] 36 (0, 0)) from blk_below B_g6.out hb); replace HS := Aside0.mk (show Stp w0 w S w2 from stp_below HS.out hb); have B_g8 := Aside0.mk y_; clear xg y_ hb; have c_g6_0 : w2.cell? ⟨g6, 0, none⟩ = some (.int .u64 a2_0) := (blk_cell B_g6.out 0).trans rfl; have f_g6_0 := blk_frozen B_g6.out 0; have c_g6_1 : w2.cell? ⟨g6, 1, none⟩ = some (.int .u64 a2_1) := (blk_cell B_g6.out 1).trans rfl; have f_g6_1 := blk_frozen B_g6.out 1)
    | (go_at_call 51; (with_reducible refine (climber_calls a0 a1 a2_0 a2_1 _).mono ?_); rintro e w3 ⟨gf, gi, gx, rfl, lf, li, lx, nfi, bf, bi, bx, hb⟩; clear c_g6_0 f_g6_0 c_g6_1 f_g6_1; have N_g6_gf := Aside0.mk (below_ne B_g6.out lf); have N_gf_g6 := Aside0.mk N_g6_gf.out.symm; have N_g8_gf := Aside0.mk (below_ne B_g8.out lf); have N_gf_g8 := Aside0.mk N_g8_gf.out.symm; have G_gf := Aside0.mk (stp_ge HS.out lf); have N_g6_gi := Aside0.mk (below_ne B_g6.out li); have N_gi_g6 := Aside0.mk N_g6_gi.out.symm; have N_g8_gi := Aside0.mk (below_ne B_g8.out li); have N_gi_g8 := Aside0.mk N_g8_gi.out.symm; have G_gi := Aside0.mk (stp_ge HS.out li); have N_g6_gx := Aside0.mk (below_ne B_g6.out lx); have N_gx_g6 := Aside0.mk N_g6_gx.out.symm; have N_g8_gx := Aside0.mk (below_ne B_g8.out lx); have N_gx_g8 := Aside0.mk N_g8_gx.out.symm; have G_gx := Aside0.mk (stp_ge HS.out lx); have N_gf_gi := Aside0.mk nfi; have N_gi_gf := Aside0.mk nfi.symm; have N_gf_gx := Aside0.mk (blk_ne bf bx (by decide)); have N_gx_gf := Aside0.mk (blk_ne bf bx (by decide)).symm; have N_gi_gx := Aside0.mk (blk_ne bi bx (by decide)); have N_gx_gi := Aside0.mk (blk_ne bi bx (by decide)).symm; replace B_g6 := Aside0.mk (show w3.heap[g6]? = some (.cells #[.int .u64 a2_0, .int .u64 a2_1] 36 (0, 0)) from blk_below B_g6.out hb); replace B_g8 := Aside0.mk (show w3.heap[g8]? = some (.cells #[.int .u64 0, .int .u64 0] 36 (0, 0)) from blk_below B_g8.out hb); replace HS := Aside0.mk (show Stp w0 w S w3 from stp_below HS.out hb); have B_gf := Aside0.mk bf; have B_gi := Aside0.mk bi; have B_gx := Aside0.mk bx; clear hb bf bi bx lf li lx nfi))
  go_loopg [18] (l3.length + 1) (fun kq v18 w' => ∃ (j : Nat) (i x0 x1 : Int), v18 = .int .i64 (j : Int) ∧ Aside0 (climbL a0 i x0 x1 (l3.drop j) = some (r1, r2)) ∧ Aside0 (kq + j = l3.length + 1) ∧ Aside0 (w'.heap[gf]? = some (.cells #[.int .i64 a0] 3 (0, 0))) ∧ Aside0 (w'.heap[gi]? = some (.cells #[.int .i64 i] 3 (0, 0))) ∧ Aside0 (w'.heap[gx]? = some (.cells #[.int .u64 x0, .int .u64 x1] 36 (0, 0))) ∧ Aside0 (w'.heap[g6]? = some (.cells #[.int .u64 x0, .int .u64 x1] 36 (0, 0))) ∧ Aside0 (w'.heap[g8]? = some (.cells #[.int .u64 0, .int .u64 0] 36 (0, 0))) ∧ Aside0 (Stp w0 w S w'))
  case atStart => exact ⟨0, a1, a2_0, a2_1, rfl, H', ⟨rfl⟩, B_gf, B_gi, B_gx, B_g6, B_g8, HS⟩
  case round =>
    clear H' HS B_gf B_gi B_gx B_g6 B_g8
    obtain ⟨j, i, x0, x1, rfl, HA, HK, B_gf, B_gi, B_gx, B_g6, B_g8, HS⟩ := hrel
    cases gk with
    | zero =>
      have hk := HK.out
      have hj : l3.length < j := by omega
      have c3b : decide (j < l3.length) = false := decide_eq_false (by omega)
      obtain ⟨rfl, rfl⟩ : x0 = r1 ∧ x1 = r2 := by have h1 := HA.out; rw [List.drop_eq_nil_of_le (by omega)] at h1; simpa [climbL] using h1
      clear HA
      have c_g6_0 : wr.cell? ⟨g6, 0, none⟩ = some (.int .u64 x0) := (blk_cell B_g6.out 0).trans rfl
      have f_g6_0 := blk_frozen B_g6.out 0
      have c_g6_1 : wr.cell? ⟨g6, 1, none⟩ = some (.int .u64 x1) := (blk_cell B_g6.out 1).trans rfl
      have f_g6_1 := blk_frozen B_g6.out 1
      have c_g8_0 : wr.cell? ⟨g8, 0, none⟩ = some (.int .u64 0) := (blk_cell B_g8.out 0).trans rfl
      have f_g8_0 := blk_frozen B_g8.out 0
      have c_g8_1 : wr.cell? ⟨g8, 1, none⟩ = some (.int .u64 0) := (blk_cell B_g8.out 1).trans rfl
      have f_g8_1 := blk_frozen B_g8.out 1
      go_wp2_with ((with_reducible refine gate_store (t := 36) (p := 8) rfl ?_); refine store_event (t := 36) (p := 8) (v := .tmp 29) (w1 := ((wr.setCell ⟨g8, 0, none⟩ (.int .u64 x0)).setCell ⟨g8, 1, none⟩ (.int .u64 x1))) ?hg ?ho ?hn ?hr ?_; (case ho => rfl); (case hg => rfl); (case hn => rfl); (case hr => first | (go_simp; done) | (go_simp; rfl)); intro w9 hw; clear c_g6_0 f_g6_0 c_g6_1 f_g6_1 c_g8_0 f_g8_0 c_g8_1 f_g8_1; replace B_gf := Aside0.mk (show w9.heap[gf]? = some (.cells #[.int .i64 a0] 3 (0, 0)) from (by rw [hw]; (repeat (refine blk_far ?_ N_gf_g8.out _)); exact B_gf.out)); replace B_gi := Aside0.mk (show w9.heap[gi]? = some (.cells #[.int .i64 i] 3 (0, 0)) from (by rw [hw]; (repeat (refine blk_far ?_ N_gi_g8.out _)); exact B_gi.out)); replace B_gx := Aside0.mk (show w9.heap[gx]? = some (.cells #[.int .u64 x0, .int .u64 x1] 36 (0, 0)) from (by rw [hw]; (repeat (refine blk_far ?_ N_gx_g8.out _)); exact B_gx.out)); replace B_g6 := Aside0.mk (show w9.heap[g6]? = some (.cells #[.int .u64 x0, .int .u64 x1] 36 (0, 0)) from (by rw [hw]; (repeat (refine blk_far ?_ N_g6_g8.out _)); exact B_g6.out)); replace B_g8 := Aside0.mk (show w9.heap[g8]? = some (.cells #[.int .u64 x0, .int .u64 x1] 36 (0, 0)) from (by rw [hw]; exact (blk_put (cs := #[.int .u64 x0, .int .u64 0]) (blk_put (cs := #[.int .u64 0, .int .u64 0]) B_g8.out 0 (.int .u64 x0) rfl) 1 (.int .u64 x1) rfl))); replace HS := Aside0.mk (show Stp w0 w S w9 from (by rw [hw]; exact (stp_set (stp_set HS.out G_g8.out 0 (.int .u64 x0)) G_g8.out 1 (.int .u64 x1)))); clear hw; skip)
      refine bodyPost_ret (results_cell_row rfl _ _ g8 36 #[.int .u64 x0, .int .u64 x1] (0, 0) _ rfl B_g8.out Tryd.underlying36 rfl (by kernel_rfl)) rfl ?_
      obtain rfl := HW.out
      exact ⟨rfl, stp_b HS.out⟩
    | succ k1 =>
      by_cases c3 : j < l3.length
      · have c3b : decide (j < l3.length) = true := decide_eq_true c3
        have H := HA.out
        clear HA
        rw [drop_rd l3 j c3] at H
        simp only [climbL] at H
        obtain ⟨⟨n0, n1⟩, A0, H⟩ := Option.bind_eq_some_iff.mp H
        have H' := Aside0.mk H
        clear H
        have p2 : 0 ≤ (j : Int) := by omega
        have q2 : (j : Int) < (l3.length : Int) := by omega
        have hadd : wrap64 ((j : Int) + 1) = ((j + 1 : Nat) : Int) := by have := HL.out; unfold wrap64; omega
        clear c3
        obtain ⟨ad, ea, hx0, hx1⟩ := at_T36 HR3.out (j : Int) p2 q2
        cases ea
        simp only [Int.toNat_natCast] at hx0 hx1
        have hw0 := HW.out
        replace hx0 := ((hw0 ▸ stp_b HS.out : Below w.heap.size w wr).cell (World.block_lt_of_cell? w _ hx0)).trans hx0
        replace hx1 := ((hw0 ▸ stp_b HS.out : Below w.heap.size w wr).cell (World.block_lt_of_cell? w _ hx1)).trans hx1
        clear hw0
        replace p2 := eq_true p2
        replace q2 := eq_true q2
        generalize rd_T36 l3 (j : Int) = dd at *
        cases ho : (Go.bits .and .i64 i 1 == 1) with
        | true =>
          rw [if_pos ho] at A0
          have A := Aside0.mk A0
          have HO := Aside0.mk ho
          clear A0 ho
          go_wp2_with (first
            | ((with_reducible refine gate_dst (N := 11) rfl ?_); refine box_event ?hg (N := 11) ?hd (cs := #[.int .u64 0, .int .u64 0]) (t := 36) ?hr ?_; (case hd => rfl); (case hg => rfl); (case hr => first | (go_simp; done) | (go_simp; rfl)); intro gq xg w4 y_ hb; skip; have N_gf_gq := Aside0.mk (new_ne B_gf.out xg); have N_gq_gf := Aside0.mk N_gf_gq.out.symm; have N_gi_gq := Aside0.mk (new_ne B_gi.out xg); have N_gq_gi := Aside0.mk N_gi_gq.out.symm; have N_gx_gq := Aside0.mk (new_ne B_gx.out xg); have N_gq_gx := Aside0.mk N_gx_gq.out.symm; have N_g6_gq := Aside0.mk (new_ne B_g6.out xg); have N_gq_g6 := Aside0.mk N_g6_gq.out.symm; have N_g8_gq := Aside0.mk (new_ne B_g8.out xg); have N_gq_g8 := Aside0.mk N_g8_gq.out.symm; have G_gq := Aside0.mk (stp_new HS.out xg); replace B_gf := Aside0.mk (show w4.heap[gf]? = some (.cells #[.int .i64 a0] 3 (0, 0)) from blk_below B_gf.out hb); replace B_gi := Aside0.mk (show w4.heap[gi]? = some (.cells #[.int .i64 i] 3 (0, 0)) from blk_below B_gi.out hb); replace B_gx := Aside0.mk (show w4.heap[gx]? = some (.cells #[.int .u64 x0, .int .u64 x1] 36 (0, 0)) from blk_below B_gx.out hb); replace B_g6 := Aside0.mk (show w4.heap[g6]? = some (.cells #[.int .u64 x0, .int .u64 x1] 36 (0, 0)) from blk_below B_g6.out hb); replace B_g8 := Aside0.mk (show w4.heap[g8]? = some (.cells #[.int .u64 0, .int .u64 0] 36 (0, 0)) from blk_below B_g8.out hb); replace HS := Aside0.mk (show Stp w0 w S w4 from stp_below HS.out hb); have B_gq := Aside0.mk y_; clear xg y_ hb; have c_gq_0 : w4.cell? ⟨gq, 0, none⟩ = some (.int .u64 0) := (blk_cell B_gq.out 0).trans rfl; have f_gq_0 := blk_frozen B_gq.out 0; have c_gq_1 : w4.cell? ⟨gq, 1, none⟩ = some (.int .u64 0) := (blk_cell B_gq.out 1).trans rfl; have f_gq_1 := blk_frozen B_gq.out 1)
            | ((with_reducible refine gate_store (t := 36) (p := 11) rfl ?_); refine store_event (t := 36) (p := 11) (v := .tmp 21) (w1 := ((w4.setCell ⟨gq, 0, none⟩ (.int .u64 dd.f0)).setCell ⟨gq, 1, none⟩ (.int .u64 dd.f1))) ?hg ?ho ?hn ?hr ?_; (case ho => rfl); (case hg => rfl); (case hn => rfl); (case hr => first | (go_simp; done) | (go_simp; rfl)); intro w5 hw; clear c_gq_0 f_gq_0 c_gq_1 f_gq_1; replace B_gf := Aside0.mk (show w5.heap[gf]? = some (.cells #[.int .i64 a0] 3 (0, 0)) from (by rw [hw]; (repeat (refine blk_far ?_ N_gf_gq.out _)); exact B_gf.out)); replace B_gi := Aside0.mk (show w5.heap[gi]? = some (.cells #[.int .i64 i] 3 (0, 0)) from (by rw [hw]; (repeat (refine blk_far ?_ N_gi_gq.out _)); exact B_gi.out)); replace B_gx := Aside0.mk (show w5.heap[gx]? = some (.cells #[.int .u64 x0, .int .u64 x1] 36 (0, 0)) from (by rw [hw]; (repeat (refine blk_far ?_ N_gx_gq.out _)); exact B_gx.out)); replace B_g6 := Aside0.mk (show w5.heap[g6]? = some (.cells #[.int .u64 x0, .int .u64 x1] 36 (0, 0)) from (by rw [hw]; (repeat (refine blk_far ?_ N_g6_gq.out _)); exact B_g6.out)); replace B_g8 := Aside0.mk (show w5.heap[g8]? = some (.cells #[.int .u64 0, .int .u64 0] 36 (0, 0)) from (by rw [hw]; (repeat (refine blk_far ?_ N_g8_gq.out _)); exact B_g8.out)); replace B_gq := Aside0.mk (show w5.heap[gq]? = some (.cells #[.int .u64 dd.f0, .int .u64 dd.f1] 36 (0, 0)) from (by rw [hw]; exact (blk_put (cs := #[.int .u64 dd.f0, .int .u64 0]) (blk_put (cs := #[.int .u64 0, .int .u64 0]) B_gq.out 0 (.int .u64 dd.f0) rfl) 1 (.int .u64 dd.f1) rfl))); replace HS := Aside0.mk (show Stp w0 w S w5 from (by rw [hw]; exact (stp_set (stp_set HS.out G_gq.out 0 (.int .u64 dd.f0)) G_gq.out 1 (.int .u64 dd.f1)))); clear hw; have c_gq_0 : w5.cell? ⟨gq, 0, none⟩ = some (.int .u64 dd.f0) := (blk_cell B_gq.out 0).trans rfl; have f_gq_0 := blk_frozen B_gq.out 0; have c_gq_1 : w5.cell? ⟨gq, 1, none⟩ = some (.int .u64 dd.f1) := (blk_cell B_gq.out 1).trans rfl; have f_gq_1 := blk_frozen B_gq.out 1)
            | (go_at_call 64; (with_reducible refine (climber1_odd a0 i x0 x1 dd.f0 dd.f1 n0 n1 gf gi gx w0 _ (HW.out ▸ HRG.out) (stp_b HS.out) B_gf.out B_gi.out B_gx.out N_gf_gi.out G_gf.out.1 G_gi.out.1 G_gx.out.1 HO.out A.out).mono ?_); rintro e w6 ⟨rfl, hs, bf, bi, bx⟩; clear c_gq_0 f_gq_0 c_gq_1 f_gq_1; replace B_gf := Aside0.mk (show w6.heap[gf]? = some (.cells #[.int .i64 a0] 3 (0, 0)) from bf); replace B_gi := Aside0.mk (show w6.heap[gi]? = some (.cells #[.int .i64 (i / 2)] 3 (0, 0)) from bi); replace B_gx := Aside0.mk (show w6.heap[gx]? = some (.cells #[.int .u64 n0, .int .u64 n1] 36 (0, 0)) from bx); replace B_g6 := Aside0.mk (show w6.heap[g6]? = some (.cells #[.int .u64 x0, .int .u64 x1] 36 (0, 0)) from blk_kept B_g6.out (stp_k hs) (fun h_ => h_.elim N_g6_gi.out N_g6_gx.out)); replace B_g8 := Aside0.mk (show w6.heap[g8]? = some (.cells #[.int .u64 0, .int .u64 0] 36 (0, 0)) from blk_kept B_g8.out (stp_k hs) (fun h_ => h_.elim N_g8_gi.out N_g8_gx.out)); replace B_gq := Aside0.mk (show w6.heap[gq]? = some (.cells #[.int .u64 dd.f0, .int .u64 dd.f1] 36 (0, 0)) from blk_kept B_gq.out (stp_k hs) (fun h_ => h_.elim N_gq_gi.out N_gq_gx.out)); replace HS := Aside0.mk (show Stp w0 w S w6 from stp_trans HS.out hs (fun g_ h_ => h_.elim (fun e_ => e_ ▸ G_gi.out.2) (fun e_ => e_ ▸ G_gx.out.2))); clear hs bf bi bx; have c_g6_0 : w6.cell? ⟨g6, 0, none⟩ = some (.int .u64 x0) := (blk_cell B_g6.out 0).trans rfl; have f_g6_0 := blk_frozen B_g6.out 0; have c_g6_1 : w6.cell? ⟨g6, 1, none⟩ = some (.int .u64 x1) := (blk_cell B_g6.out 1).trans rfl; have f_g6_1 := blk_frozen B_g6.out 1)
            | ((with_reducible refine gate_store (t := 36) (p := 6) rfl ?_); refine store_event (t := 36) (p := 6) (v := .tmp 27) (w1 := ((w6.setCell ⟨g6, 0, none⟩ (.int .u64 n0)).setCell ⟨g6, 1, none⟩ (.int .u64 n1))) ?hg ?ho ?hn ?hr ?_; (case ho => rfl); (case hg => rfl); (case hn => rfl); (case hr => first | (go_simp; done) | (go_simp; rfl)); intro w7 hw; clear c_g6_0 f_g6_0 c_g6_1 f_g6_1; replace B_gf := Aside0.mk (show w7.heap[gf]? = some (.cells #[.int .i64 a0] 3 (0, 0)) from (by rw [hw]; (repeat (refine blk_far ?_ N_gf_g6.out _)); exact B_gf.out)); replace B_gi := Aside0.mk (show w7.heap[gi]? = some (.cells #[.int .i64 (i / 2)] 3 (0, 0)) from (by rw [hw]; (repeat (refine blk_far ?_ N_gi_g6.out _)); exact B_gi.out)); replace B_gx := Aside0.mk (show w7.heap[gx]? = some (.cells #[.int .u64 n0, .int .u64 n1] 36 (0, 0)) from (by rw [hw]; (repeat (refine blk_far ?_ N_gx_g6.out _)); exact B_gx.out)); replace B_g6 := Aside0.mk (show w7.heap[g6]? = some (.cells #[.int .u64 n0, .int .u64 n1] 36 (0, 0)) from (by rw [hw]; exact (blk_put (cs := #[.int .u64 n0, .int .u64 x1]) (blk_put (cs := #[.int .u64 x0, .int .u64 x1]) B_g6.out 0 (.int .u64 n0) rfl) 1 (.int .u64 n1) rfl))); replace B_g8 := Aside0.mk (show w7.heap[g8]? = some (.cells #[.int .u64 0, .int .u64 0] 36 (0, 0)) from (by rw [hw]; (repeat (refine blk_far ?_ N_g8_g6.out _)); exact B_g8.out)); replace B_gq := Aside0.mk (show w7.heap[gq]? = some (.cells #[.int .u64 dd.f0, .int .u64 dd.f1] 36 (0, 0)) from (by rw [hw]; (repeat (refine blk_far ?_ N_gq_g6.out _)); exact B_gq.out)); replace HS := Aside0.mk (show Stp w0 w S w7 from (by rw [hw]; exact (stp_set (stp_set HS.out G_g6.out 0 (.int .u64 n0)) G_g6.out 1 (.int .u64 n1)))); clear hw; skip))
          go_roundg k1
          case measure => omega
          case rel => exact ⟨j + 1, i / 2, n0, n1, by rw [hadd], H', ⟨by have := HK.out; omega⟩, B_gf, B_gi, B_gx, B_g6, B_g8, HS⟩
        | false =>
          rw [if_neg (by rw [ho]; decide)] at A0
          have A := Aside0.mk A0
          have HO := Aside0.mk ho
          clear A0 ho
          go_wp2_with (first
            | ((with_reducible refine gate_dst (N := 11) rfl ?_); refine box_event ?hg (N := 11) ?hd (cs := #[.int .u64 0, .int .u64 0]) (t := 36) ?hr ?_; (case hd => rfl); (case hg => rfl); (case hr => first | (go_simp; done) | (go_simp; rfl)); intro gq xg w4 y_ hb; skip; have N_gf_gq := Aside0.mk (new_ne B_gf.out xg); have N_gq_gf := Aside0.mk N_gf_gq.out.symm; have N_gi_gq := Aside0.mk (new_ne B_gi.out xg); have N_gq_gi := Aside0.mk N_gi_gq.out.symm; have N_gx_gq := Aside0.mk (new_ne B_gx.out xg); have N_gq_gx := Aside0.mk N_gx_gq.out.symm; have N_g6_gq := Aside0.mk (new_ne B_g6.out xg); have N_gq_g6 := Aside0.mk N_g6_gq.out.symm; have N_g8_gq := Aside0.mk (new_ne B_g8.out xg); have N_gq_g8 := Aside0.mk N_g8_gq.out.symm; have G_gq := Aside0.mk (stp_new HS.out xg); replace B_gf := Aside0.mk (show w4.heap[gf]? = some (.cells #[.int .i64 a0] 3 (0, 0)) from blk_below B_gf.out hb); replace B_gi := Aside0.mk (show w4.heap[gi]? = some (.cells #[.int .i64 i] 3 (0, 0)) from blk_below B_gi.out hb); replace B_gx := Aside0.mk (show w4.heap[gx]? = some (.cells #[.int .u64 x0, .int .u64 x1] 36 (0, 0)) from blk_below B_gx.out hb); replace B_g6 := Aside0.mk (show w4.heap[g6]? = some (.cells #[.int .u64 x0, .int .u64 x1] 36 (0, 0)) from blk_below B_g6.out hb); replace B_g8 := Aside0.mk (show w4.heap[g8]? = some (.cells #[.int .u64 0, .int .u64 0] 36 (0, 0)) from blk_below B_g8.out hb); replace HS := Aside0.mk (show Stp w0 w S w4 from stp_below HS.out hb); have B_gq := Aside0.mk y_; clear xg y_ hb; have c_gq_0 : w4.cell? ⟨gq, 0, none⟩ = some (.int .u64 0) := (blk_cell B_gq.out 0).trans rfl; have f_gq_0 := blk_frozen B_gq.out 0; have c_gq_1 : w4.cell? ⟨gq, 1, none⟩ = some (.int .u64 0) := (blk_cell B_gq.out 1).trans rfl; have f_gq_1 := blk_frozen B_gq.out 1)
            | ((with_reducible refine gate_store (t := 36) (p := 11) rfl ?_); refine store_event (t := 36) (p := 11) (v := .tmp 21) (w1 := ((w4.setCell ⟨gq, 0, none⟩ (.int .u64 dd.f0)).setCell ⟨gq, 1, none⟩ (.int .u64 dd.f1))) ?hg ?ho ?hn ?hr ?_; (case ho => rfl); (case hg => rfl); (case hn => rfl); (case hr => first | (go_simp; done) | (go_simp; rfl)); intro w5 hw; clear c_gq_0 f_gq_0 c_gq_1 f_gq_1; replace B_gf := Aside0.mk (show w5.heap[gf]? = some (.cells #[.int .i64 a0] 3 (0, 0)) from (by rw [hw]; (repeat (refine blk_far ?_ N_gf_gq.out _)); exact B_gf.out)); replace B_gi := Aside0.mk (show w5.heap[gi]? = some (.cells #[.int .i64 i] 3 (0, 0)) from (by rw [hw]; (repeat (refine blk_far ?_ N_gi_gq.out _)); exact B_gi.out)); replace B_gx := Aside0.mk (show w5.heap[gx]? = some (.cells #[.int .u64 x0, .int .u64 x1] 36 (0, 0)) from (by rw [hw]; (repeat (refine blk_far ?_ N_gx_gq.out _)); exact B_gx.out)); replace B_g6 := Aside0.mk (show w5.heap[g6]? = some (.cells #[.int .u64 x0, .int .u64 x1] 36 (0, 0)) from (by rw [hw]; (repeat (refine blk_far ?_ N_g6_gq.out _)); exact B_g6.out)); replace B_g8 := Aside0.mk (show w5.heap[g8]? = some (.cells #[.int .u64 0, .int .u64 0] 36 (0, 0)) from (by rw [hw]; (repeat (refine blk_far ?_ N_g8_gq.out _)); exact B_g8.out)); replace B_gq := Aside0.mk (show w5.heap[gq]? = some (.cells #[.int .u64 dd.f0, .int .u64 dd.f1] 36 (0, 0)) from (by rw [hw]; exact (blk_put (cs := #[.int .u64 dd.f0, .int .u64 0]) (blk_put (cs := #[.int .u64 0, .int .u64 0]) B_gq.out 0 (.int .u64 dd.f0) rfl) 1 (.int .u64 dd.f1) rfl))); replace HS := Aside0.mk (show Stp w0 w S w5 from (by rw [hw]; exact (stp_set (stp_set HS.out G_gq.out 0 (.int .u64 dd.f0)) G_gq.out 1 (.int .u64 dd.f1)))); clear hw; have c_gq_0 : w5.cell? ⟨gq, 0, none⟩ = some (.int .u64 dd.f0) := (blk_cell B_gq.out 0).trans rfl; have f_gq_0 := blk_frozen B_gq.out 0; have c_gq_1 : w5.cell? ⟨gq, 1, none⟩ = some (.int .u64 dd.f1) := (blk_cell B_gq.out 1).trans rfl; have f_gq_1 := blk_frozen B_gq.out 1)
            | (go_at_call 64; (with_reducible refine (climber1_even a0 i x0 x1 dd.f0 dd.f1 n0 n1 gf gi gx w0 _ (HW.out ▸ HRG.out) (stp_b HS.out) B_gf.out B_gi.out B_gx.out N_gf_gi.out G_gf.out.1 G_gi.out.1 G_gx.out.1 HO.out A.out).mono ?_); rintro e w6 ⟨rfl, hs, bf, bi, bx⟩; clear c_gq_0 f_gq_0 c_gq_1 f_gq_1; replace B_gf := Aside0.mk (show w6.heap[gf]? = some (.cells #[.int .i64 a0] 3 (0, 0)) from bf); replace B_gi := Aside0.mk (show w6.heap[gi]? = some (.cells #[.int .i64 (i / 2)] 3 (0, 0)) from bi); replace B_gx := Aside0.mk (show w6.heap[gx]? = some (.cells #[.int .u64 n0, .int .u64 n1] 36 (0, 0)) from bx); replace B_g6 := Aside0.mk (show w6.heap[g6]? = some (.cells #[.int .u64 x0, .int .u64 x1] 36 (0, 0)) from blk_kept B_g6.out (stp_k hs) (fun h_ => h_.elim N_g6_gi.out N_g6_gx.out)); replace B_g8 := Aside0.mk (show w6.heap[g8]? = some (.cells #[.int .u64 0, .int .u64 0] 36 (0, 0)) from blk_kept B_g8.out (stp_k hs) (fun h_ => h_.elim N_g8_gi.out N_g8_gx.out)); replace B_gq := Aside0.mk (show w6.heap[gq]? = some (.cells #[.int .u64 dd.f0, .int .u64 dd.f1] 36 (0, 0)) from blk_kept B_gq.out (stp_k hs) (fun h_ => h_.elim N_gq_gi.out N_gq_gx.out)); replace HS := Aside0.mk (show Stp w0 w S w6 from stp_trans HS.out hs (fun g_ h_ => h_.elim (fun e_ => e_ ▸ G_gi.out.2) (fun e_ => e_ ▸ G_gx.out.2))); clear hs bf bi bx; have c_g6_0 : w6.cell? ⟨g6, 0, none⟩ = some (.int .u64 x0) := (blk_cell B_g6.out 0).trans rfl; have f_g6_0 := blk_frozen B_g6.out 0; have c_g6_1 : w6.cell? ⟨g6, 1, none⟩ = some (.int .u64 x1) := (blk_cell B_g6.out 1).trans rfl; have f_g6_1 := blk_frozen B_g6.out 1)
            | ((with_reducible refine gate_store (t := 36) (p := 6) rfl ?_); refine store_event (t := 36) (p := 6) (v := .tmp 27) (w1 := ((w6.setCell ⟨g6, 0, none⟩ (.int .u64 n0)).setCell ⟨g6, 1, none⟩ (.int .u64 n1))) ?hg ?ho ?hn ?hr ?_; (case ho => rfl); (case hg => rfl); (case hn => rfl); (case hr => first | (go_simp; done) | (go_simp; rfl)); intro w7 hw; clear c_g6_0 f_g6_0 c_g6_1 f_g6_1; replace B_gf := Aside0.mk (show w7.heap[gf]? = some (.cells #[.int .i64 a0] 3 (0, 0)) from (by rw [hw]; (repeat (refine blk_far ?_ N_gf_g6.out _)); exact B_gf.out)); replace B_gi := Aside0.mk (show w7.heap[gi]? = some (.cells #[.int .i64 (i / 2)] 3 (0, 0)) from (by rw [hw]; (repeat (refine blk_far ?_ N_gi_g6.out _)); exact B_gi.out)); replace B_gx := Aside0.mk (show w7.heap[gx]? = some (.cells #[.int .u64 n0, .int .u64 n1] 36 (0, 0)) from (by rw [hw]; (repeat (refine blk_far ?_ N_gx_g6.out _)); exact B_gx.out)); replace B_g6 := Aside0.mk (show w7.heap[g6]? = some (.cells #[.int .u64 n0, .int .u64 n1] 36 (0, 0)) from (by rw [hw]; exact (blk_put (cs := #[.int .u64 n0, .int .u64 x1]) (blk_put (cs := #[.int .u64 x0, .int .u64 x1]) B_g6.out 0 (.int .u64 n0) rfl) 1 (.int .u64 n1) rfl))); replace B_g8 := Aside0.mk (show w7.heap[g8]? = some (.cells #[.int .u64 0, .int .u64 0] 36 (0, 0)) from (by rw [hw]; (repeat (refine blk_far ?_ N_g8_g6.out _)); exact B_g8.out)); replace B_gq := Aside0.mk (show w7.heap[gq]? = some (.cells #[.int .u64 dd.f0, .int .u64 dd.f1] 36 (0, 0)) from (by rw [hw]; (repeat (refine blk_far ?_ N_gq_g6.out _)); exact B_gq.out)); replace HS := Aside0.mk (show Stp w0 w S w7 from (by rw [hw]; exact (stp_set (stp_set HS.out G_g6.out 0 (.int .u64 n0)) G_g6.out 1 (.int .u64 n1)))); clear hw; skip))
          go_roundg k1
          case measure => omega
          case rel => exact ⟨j + 1, i / 2, n0, n1, by rw [hadd], H', ⟨by have := HK.out; omega⟩, B_gf, B_gi, B_gx, B_g6, B_g8, HS⟩
      · have c3b : decide (j < l3.length) = false := decide_eq_false c3
        obtain ⟨rfl, rfl⟩ : x0 = r1 ∧ x1 = r2 := by have h1 := HA.out; rw [List.drop_eq_nil_of_le (by omega)] at h1; simpa [climbL] using h1
        clear HA
        have c_g6_0 : wr.cell? ⟨g6, 0, none⟩ = some (.int .u64 x0) := (blk_cell B_g6.out 0).trans rfl
        have f_g6_0 := blk_frozen B_g6.out 0
        have c_g6_1 : wr.cell? ⟨g6, 1, none⟩ = some (.int .u64 x1) := (blk_cell B_g6.out 1).trans rfl
        have f_g6_1 := blk_frozen B_g6.out 1
        have c_g8_0 : wr.cell? ⟨g8, 0, none⟩ = some (.int .u64 0) := (blk_cell B_g8.out 0).trans rfl
        have f_g8_0 := blk_frozen B_g8.out 0
        have c_g8_1 : wr.cell? ⟨g8, 1, none⟩ = some (.int .u64 0) := (blk_cell B_g8.out 1).trans rfl
        have f_g8_1 := blk_frozen B_g8.out 1
        go_wp2_with ((with_reducible refine gate_store (t := 36) (p := 8) rfl ?_); refine store_event (t := 36) (p := 8) (v := .tmp 29) (w1 := ((wr.setCell ⟨g8, 0, none⟩ (.int .u64 x0)).setCell ⟨g8, 1, none⟩ (.int .u64 x1))) ?hg ?ho ?hn ?hr ?_; (case ho => rfl); (case hg => rfl); (case hn => rfl); (case hr => first | (go_simp; done) | (go_simp; rfl)); intro w9 hw; clear c_g6_0 f_g6_0 c_g6_1 f_g6_1 c_g8_0 f_g8_0 c_g8_1 f_g8_1; replace B_gf := Aside0.mk (show w9.heap[gf]? = some (.cells #[.int .i64 a0] 3 (0, 0)) from (by rw [hw]; (repeat (refine blk_far ?_ N_gf_g8.out _)); exact B_gf.out)); replace B_gi := Aside0.mk (show w9.heap[gi]? = some (.cells #[.int .i64 i] 3 (0, 0)) from (by rw [hw]; (repeat (refine blk_far ?_ N_gi_g8.out _)); exact B_gi.out)); replace B_gx := Aside0.mk (show w9.heap[gx]? = some (.cells #[.int .u64 x0, .int .u64 x1] 36 (0, 0)) from (by rw [hw]; (repeat (refine blk_far ?_ N_gx_g8.out _)); exact B_gx.out)); replace B_g6 := Aside0.mk (show w9.heap[g6]? = some (.cells #[.int .u64 x0, .int .u64 x1] 36 (0, 0)) from (by rw [hw]; (repeat (refine blk_far ?_ N_g6_g8.out _)); exact B_g6.out)); replace B_g8 := Aside0.mk (show w9.heap[g8]? = some (.cells #[.int .u64 x0, .int .u64 x1] 36 (0, 0)) from (by rw [hw]; exact (blk_put (cs := #[.int .u64 x0, .int .u64 0]) (blk_put (cs := #[.int .u64 0, .int .u64 0]) B_g8.out 0 (.int .u64 x0) rfl) 1 (.int .u64 x1) rfl))); replace HS := Aside0.mk (show Stp w0 w S w9 from (by rw [hw]; exact (stp_set (stp_set HS.out G_g8.out 0 (.int .u64 x0)) G_g8.out 1 (.int .u64 x1)))); clear hw; skip)
        refine bodyPost_ret (results_cell_row rfl _ _ g8 36 #[.int .u64 x0, .int .u64 x1] (0, 0) _ rfl B_g8.out Tryd.underlying36 rfl (by kernel_rfl)) rfl ?_
        obtain rfl := HW.out
        exact ⟨rfl, stp_b HS.out⟩
end Go.Proofs.YtpnpmeogffodgaaDoor.Q
end
section
namespace Go.Proofs.YtpnpmeogffodgaaDoor.Q
open Go.RowKit Go.Proofs.YtpnpmeogffodgaaDoorW.PrintWords Go.Proofs.YtpnpmeogffodgaaDoorW.PrintLast Go.Proofs.YtpnpmeogffodgaaDoorW.PrintMore
attribute [local go_sem] max2_int min2_int max_two min_two max_three min_three max_four min_four run_store_fnV run_store_fnc run_store_nfn   -- for this text's walks alone
set_option linter.unusedVariables false
set_option linter.unusedSimpArgs false

/-! ### tree_Climb: function 24 -/
def tree_Climb.f (a0 : Int) (a1 : Int) (a2_0 : Int) (a2_1 : Int) (l3 : List (S36)) : Option (Int × Int) := (tree_opens.f a0 a1 a2_0 a2_1 l3).bind fun t227 => (if t227 = true then ((tree_climb.f a0 a1 a2_0 a2_1 l3).bind fun bt228 => (some (bt228.1, bt228.2))) else (some (0, 0)))
set_option maxHeartbeats 8000000 in
set_option maxRecDepth 100000 in
theorem tree_Climb.calls (a0 : Int) (a1 : Int) (a2_0 : Int) (a2_1 : Int) (A3 : Option Addr) (c3 : Nat) (l3 : List (S36)) (r1 : Int) (r2 : Int) (w : World) (hr3 : Kd.C k36 w A3 l3.length l3) (hc3 : l3.length ≤ c3) (hrG : GL w) (h : tree_Climb.f a0 a1 a2_0 a2_1 l3 = some (r1, r2)) :
  Calls Tryd.prog 24 #[.int .i64 a0, .int .i64 a1, .agg #[.int .u64 a2_0, .int .u64 a2_1], .slice A3 l3.length c3] w fun e w' => e = .returned (.agg #[.int .u64 r1, .int .u64 r2]) ∧ Below w.heap.size w w' := by
 have hu36 := Tryd.underlying36
 have HRG := Aside0.mk hrG
 clear hrG
 have HR3 := Aside0.mk hr3
 have HC3 := Aside0.mk hc3
 clear hr3 hc3
 have HB := Aside0.mk (Below.refl w.heap.size w)
 have H : ((tree_opens.f a0 a1 a2_0 a2_1 l3).bind fun t227 => (if t227 = true then ((tree_climb.f a0 a1 a2_0 a2_1 l3).bind fun bt228 => (some (bt228.1, bt228.2))) else (some (0, 0)))) = some (r1, r2) := h
 clear h
 replace H := Option.bind_eq_some_iff.mp H
 obtain ⟨t227, A50, H⟩ := H
 have A5 := Aside0.mk A50
 clear A50
 by_cases c6 : t227 = true
 ·subst c6
  have H1 : ((tree_climb.f a0 a1 a2_0 a2_1 l3).bind fun bt228 => (some (bt228.1, bt228.2))) = some (r1, r2) := by rw [if_pos rfl] at H; exact H
  clear H
  have H := H1
  clear H1
  replace H := Option.bind_eq_some_iff.mp H
  obtain ⟨⟨t228, t229⟩, A70, H⟩ := H
  replace H : (some (t228, t229)) = some (r1, r2) := H
  have A7 := Aside0.mk A70
  clear A70
  simp only [Option.some.injEq, Prod.mk.injEq] at H
  obtain ⟨rfl, rfl⟩ := H
  go_enter Tryd.func24, Tryd.ntmps24
  go_wp2_with (first | ((with_reducible refine gate_dst (N := 6) rfl ?_); refine box_event ?hg (N := 6) ?hd (cs := #[.int .u64 a2_0, .int .u64 a2_1]) (t := 36) ?hr ?_; (case hd => rfl); (case hg => rfl); (case hr => first | (go_simp; done) | (go_simp; rfl)); intro g225 hg w8 hbox hb; have n0_ := Aside0.mk (below_step (by repeat (first | (with_reducible first | exact HB.out | apply below_alloc | apply pw_below_drewN | apply below_drew1) | exact HB.out)) hb); have n1_ := Aside0.mk (hbox); have n2_ := Aside0.mk ((by rw [hg]; exact (below_size (by repeat (first | (with_reducible first | exact HB.out | apply below_alloc | apply pw_below_drewN | apply below_drew1) | exact HB.out))) : w.heap.size ≤ g225)); have n3_ := Aside0.mk ((by rw [hg]; exact (below_size (by repeat (first | (with_reducible first | exact HB.out | apply below_alloc | apply pw_below_drewN | apply below_drew1) | exact HB.out))) : w.heap.size ≤ g225)); clear HB; have HB := n0_; have B225 := n1_; have GW225 := n2_; have GE225 := n3_; clear n0_ n1_ n2_ n3_; clear hb hbox hg) | ((with_reducible refine gate_dst (N := 8) rfl ?_); refine box_event ?hg (N := 8) ?hd (cs := #[.int .u64 0, .int .u64 0]) (t := 36) ?hr ?_; (case hd => rfl); (case hg => rfl); (case hr => first | (go_simp; done) | (go_simp; rfl)); intro g226 hg w9 hbox hb; have n0_ := Aside0.mk (blk_below (g := g225) (o := .cells #[.int .u64 a2_0, .int .u64 a2_1] 36 (0, 0)) (by exact B225.out) hb); have n1_ := Aside0.mk (below_step (by repeat (first | (with_reducible first | exact HB.out | apply below_alloc | apply pw_below_drewN | apply below_drew1 | refine below_set ?_ GE225.out) | exact HB.out)) hb); have n2_ := Aside0.mk (hbox); have n3_ := Aside0.mk ((by rw [hg]; exact (below_size (by repeat (first | (with_reducible first | exact HB.out | apply below_alloc | apply pw_below_drewN | apply below_drew1 | refine below_set ?_ GE225.out) | exact HB.out))) : w.heap.size ≤ g226)); have n4_ := Aside0.mk ((by rw [hg]; exact (below_size (by repeat (first | (with_reducible first | exact HB.out | apply below_alloc | apply pw_below_drewN | apply below_drew1 | refine below_set ?_ GE225.out) | exact HB.out))) : w.heap.size ≤ g226)); have n5_ := Aside0.mk ((by rw [hg]; exact Nat.ne_of_lt (blk_lt (g := g225) (o := .cells #[.int .u64 a2_0, .int .u64 a2_1] 36 (0, 0)) (by exact B225.out)) : g225 ≠ g226)); have n6_ := Aside0.mk ((by rw [hg]; exact Nat.ne_of_gt (blk_lt (g := g225) (o := .cells #[.int .u64 a2_0, .int .u64 a2_1] 36 (0, 0)) (by exact B225.out)) : g226 ≠ g225)); clear B225; clear HB; have B225 := n0_; have HB := n1_; have B226 := n2_; have GW226 := n3_; have GE226 := n4_; have NB225_226 := n5_; have NB226_225 := n6_; clear n0_ n1_ n2_ n3_ n4_ n5_ n6_; clear hb hbox hg; have hnb10 := NB225_226.out; have hnc10 := NB226_225.out; have hcz11_0 : w9.cell? ⟨g225, 0, none⟩ = some (.int .u64 a2_0) := bq_ B225 0; have hcz11_1 : w9.cell? ⟨g225, 1, none⟩ = some (.int .u64 a2_1) := bq_ B225 1; have hfz11_0 := blk_frozen B225.out 0; have hfz11_1 := blk_frozen B225.out 1) | ((with_reducible refine gate_callee (f := 47) rfl ?_); refine goesL_ (some 13) rfl rfl Tryd.func47 (by kernel_rfl) rfl #[.int .i64 a0, .int .i64 a1, .agg #[.int .u64 a2_0, .int .u64 a2_1], .slice A3 l3.length c3] rfl (by (try simp only [List.map_toArray, List.map_cons, List.map_nil]); first | done | rfl | (go_simp; done)) ?_; (with_reducible refine (tree_opens.calls a0 a1 a2_0 a2_1 _ _ l3 true _ ?side1 ?side2 ?side3 A5.out).mono ?_); (case side1 => repeat (first | exact (Kd.C_below HR3.out HB.out) | (with_reducible refine Kd.C_alloc ?_ _) | (with_reducible refine Kd.C_drewN ?_ _) | (with_reducible refine Kd.C_drew ?_))); (case side2 => exact HC3.out); (case side3 => repeat (first | exact (GL.below HRG.out HB.out) | (with_reducible refine GL.alloc ?_ _) | (with_reducible refine GL.drewN ?_ _) | (with_reducible refine GL.drew ?_))); rintro e w12 ⟨rfl, hb⟩; refine ⟨_, rfl, ?_⟩; have n0_ := Aside0.mk (blk_below (g := g225) (o := .cells #[.int .u64 a2_0, .int .u64 a2_1] 36 (0, 0)) (by exact B225.out) hb); have n1_ := Aside0.mk (blk_below (g := g226) (o := .cells #[.int .u64 0, .int .u64 0] 36 (0, 0)) (by exact B226.out) hb); have n2_ := Aside0.mk (below_step (by repeat (first | (with_reducible first | exact HB.out | apply below_alloc | apply pw_below_drewN | apply below_drew1 | refine below_set ?_ GE225.out | refine below_set ?_ GE226.out) | exact HB.out)) hb); clear B225; clear B226; clear HB; have B225 := n0_; have B226 := n1_; have HB := n2_; clear n0_ n1_ n2_; (try clear hb); (try clear hb2); (try clear hk); (try clear hi); have hcz13_0 : w12.cell? ⟨g225, 0, none⟩ = some (.int .u64 a2_0) := bq_ B225 0; have hcz13_1 : w12.cell? ⟨g225, 1, none⟩ = some (.int .u64 a2_1) := bq_ B225 1; have hfz13_0 := blk_frozen B225.out 0; have hfz13_1 := blk_frozen B225.out 1) | ((with_reducible refine gate_callee (f := 48) rfl ?_); refine goesL_ (some 20) rfl rfl Tryd.func48 (by kernel_rfl) rfl #[.int .i64 a0, .int .i64 a1, .agg #[.int .u64 a2_0, .int .u64 a2_1], .slice A3 l3.length c3] rfl (by (try simp only [List.map_toArray, List.map_cons, List.map_nil]); first | done | rfl | (go_simp; done)) ?_; (with_reducible refine (tree_climb.calls a0 a1 a2_0 a2_1 _ _ l3 t228 t229 _ ?side1 ?side2 ?side3 A7.out).mono ?_); (case side1 => repeat (first | exact (Kd.C_below HR3.out HB.out) | (with_reducible refine Kd.C_alloc ?_ _) | (with_reducible refine Kd.C_drewN ?_ _) | (with_reducible refine Kd.C_drew ?_))); (case side2 => exact HC3.out); (case side3 => repeat (first | exact (GL.below HRG.out HB.out) | (with_reducible refine GL.alloc ?_ _) | (with_reducible refine GL.drewN ?_ _) | (with_reducible refine GL.drew ?_))); rintro e w14 ⟨rfl, hb⟩; refine ⟨_, rfl, ?_⟩; have n0_ := Aside0.mk (blk_below (g := g225) (o := .cells #[.int .u64 a2_0, .int .u64 a2_1] 36 (0, 0)) (by exact B225.out) hb); have n1_ := Aside0.mk (blk_below (g := g226) (o := .cells #[.int .u64 0, .int .u64 0] 36 (0, 0)) (by exact B226.out) hb); have n2_ := Aside0.mk (below_step (by repeat (first | (with_reducible first | exact HB.out | apply below_alloc | apply pw_below_drewN | apply below_drew1 | refine below_set ?_ GE225.out | refine below_set ?_ GE226.out) | exact HB.out)) hb); clear B225; clear B226; clear HB; have B225 := n0_; have B226 := n1_; have HB := n2_; clear n0_ n1_ n2_; (try clear hb); (try clear hb2); (try clear hk); (try clear hi); have hcz15_0 : w14.cell? ⟨g226, 0, none⟩ = some (.int .u64 0) := bq_ B226 0; have hcz15_1 : w14.cell? ⟨g226, 1, none⟩ = some (.int .u64 0) := bq_ B226 1; have hfz15_0 := blk_frozen B226.out 0; have hfz15_1 := blk_frozen B226.out 1))
  refine bodyPost_ret (results_cell_row rfl _ _ g226 36 #[.int .u64 t228, .int .u64 t229] (0, 0) _ rfl (by refine blk_put (cs := #[.int .u64 t228, .int .u64 0]) ?_ 1 _ rfl; refine blk_put (cs := #[.int .u64 0, .int .u64 0]) ?_ 0 _ rfl; exact B226.out) Tryd.underlying36 rfl (by kernel_rfl)) rfl ?_
  exact ⟨by first | rfl | (simp [errW_none, errW_some] <;> rfl) | (simp [*, errW_none, errW_some] <;> rfl), by repeat (first | (with_reducible first | exact HB.out | apply below_alloc | apply pw_below_drewN | apply below_drew1 | refine below_set ?_ GE225.out | refine below_set ?_ GE226.out) | exact HB.out)⟩
 ·replace c6 := Bool.eq_false_iff.mpr c6
  subst c6
  have H1 : (some (0, 0)) = some (r1, r2) := by rw [if_neg (show ¬ (false = true) by decide)] at H; exact H
  clear H
  have H := H1
  clear H1
  simp only [Option.some.injEq, Prod.mk.injEq] at H
  obtain ⟨rfl, rfl⟩ := H
  go_enter Tryd.func24, Tryd.ntmps24
  go_wp2_with (first | ((with_reducible refine gate_dst (N := 6) rfl ?_); refine box_event ?hg (N := 6) ?hd (cs := #[.int .u64 a2_0, .int .u64 a2_1]) (t := 36) ?hr ?_; (case hd => rfl); (case hg => rfl); (case hr => first | (go_simp; done) | (go_simp; rfl)); intro g225 hg w16 hbox hb; have n0_ := Aside0.mk (below_step (by repeat (first | (with_reducible first | exact HB.out | apply below_alloc | apply pw_below_drewN | apply below_drew1) | exact HB.out)) hb); have n1_ := Aside0.mk (hbox); have n2_ := Aside0.mk ((by rw [hg]; exact (below_size (by repeat (first | (with_reducible first | exact HB.out | apply below_alloc | apply pw_below_drewN | apply below_drew1) | exact HB.out))) : w.heap.size ≤ g225)); have n3_ := Aside0.mk ((by rw [hg]; exact (below_size (by repeat (first | (with_reducible first | exact HB.out | apply below_alloc | apply pw_below_drewN | apply below_drew1) | exact HB.out))) : w.heap.size ≤ g225)); clear HB; have HB := n0_; have B225 := n1_; have GW225 := n2_; have GE225 := n3_; clear n0_ n1_ n2_ n3_; clear hb hbox hg) | ((with_reducible refine gate_dst (N := 8) rfl ?_); refine box_event ?hg (N := 8) ?hd (cs := #[.int .u64 0, .int .u64 0]) (t := 36) ?hr ?_; (case hd => rfl); (case hg => rfl); (case hr => first | (go_simp; done) | (go_simp; rfl)); intro g226 hg w17 hbox hb; have n0_ := Aside0.mk (blk_below (g := g225) (o := .cells #[.int .u64 a2_0, .int .u64 a2_1] 36 (0, 0)) (by exact B225.out) hb); have n1_ := Aside0.mk (below_step (by repeat (first | (with_reducible first | exact HB.out | apply below_alloc | apply pw_below_drewN | apply below_drew1 | refine below_set ?_ GE225.out) | exact HB.out)) hb); have n2_ := Aside0.mk (hbox); have n3_ := Aside0.mk ((by rw [hg]; exact (below_size (by repeat (first | (with_reducible first | exact HB.out | apply below_alloc | apply pw_below_drewN | apply below_drew1 | refine below_set ?_ GE225.out) | exact HB.out))) : w.heap.size ≤ g226)); have n4_ := Aside0.mk ((by rw [hg]; exact (below_size (by repeat (first | (with_reducible first | exact HB.out | apply below_alloc | apply pw_below_drewN | apply below_drew1 | refine below_set ?_ GE225.out) | exact HB.out))) : w.heap.size ≤ g226)); have n5_ := Aside0.mk ((by rw [hg]; exact Nat.ne_of_lt (blk_lt (g := g225) (o := .cells #[.int .u64 a2_0, .int .u64 a2_1] 36 (0, 0)) (by exact B225.out)) : g225 ≠ g226)); have n6_ := Aside0.mk ((by rw [hg]; exact Nat.ne_of_gt (blk_lt (g := g225) (o := .cells #[.int .u64 a2_0, .int .u64 a2_1] 36 (0, 0)) (by exact B225.out)) : g226 ≠ g225)); clear B225; clear HB; have B225 := n0_; have HB := n1_; have B226 := n2_; have GW226 := n3_; have GE226 := n4_; have NB225_226 := n5_; have NB226_225 := n6_; clear n0_ n1_ n2_ n3_ n4_ n5_ n6_; clear hb hbox hg; have hnb18 := NB225_226.out; have hnc18 := NB226_225.out; have hcz19_0 : w17.cell? ⟨g225, 0, none⟩ = some (.int .u64 a2_0) := bq_ B225 0; have hcz19_1 : w17.cell? ⟨g225, 1, none⟩ = some (.int .u64 a2_1) := bq_ B225 1; have hfz19_0 := blk_frozen B225.out 0; have hfz19_1 := blk_frozen B225.out 1) | ((with_reducible refine gate_callee (f := 47) rfl ?_); refine goesL_ (some 13) rfl rfl Tryd.func47 (by kernel_rfl) rfl #[.int .i64 a0, .int .i64 a1, .agg #[.int .u64 a2_0, .int .u64 a2_1], .slice A3 l3.length c3] rfl (by (try simp only [List.map_toArray, List.map_cons, List.map_nil]); first | done | rfl | (go_simp; done)) ?_; (with_reducible refine (tree_opens.calls a0 a1 a2_0 a2_1 _ _ l3 false _ ?side1 ?side2 ?side3 A5.out).mono ?_); (case side1 => repeat (first | exact (Kd.C_below HR3.out HB.out) | (with_reducible refine Kd.C_alloc ?_ _) | (with_reducible refine Kd.C_drewN ?_ _) | (with_reducible refine Kd.C_drew ?_))); (case side2 => exact HC3.out); (case side3 => repeat (first | exact (GL.below HRG.out HB.out) | (with_reducible refine GL.alloc ?_ _) | (with_reducible refine GL.drewN ?_ _) | (with_reducible refine GL.drew ?_))); rintro e w20 ⟨rfl, hb⟩; refine ⟨_, rfl, ?_⟩; have n0_ := Aside0.mk (blk_below (g := g225) (o := .cells #[.int .u64 a2_0, .int .u64 a2_1] 36 (0, 0)) (by exact B225.out) hb); have n1_ := Aside0.mk (blk_below (g := g226) (o := .cells #[.int .u64 0, .int .u64 0] 36 (0, 0)) (by exact B226.out) hb); have n2_ := Aside0.mk (below_step (by repeat (first | (with_reducible first | exact HB.out | apply below_alloc | apply pw_below_drewN | apply below_drew1 | refine below_set ?_ GE225.out | refine below_set ?_ GE226.out) | exact HB.out)) hb); clear B225; clear B226; clear HB; have B225 := n0_; have B226 := n1_; have HB := n2_; clear n0_ n1_ n2_; (try clear hb); (try clear hb2); (try clear hk); (try clear hi); have hcz21_0 : w20.cell? ⟨g226, 0, none⟩ = some (.int .u64 0) := bq_ B226 0; have hcz21_1 : w20.cell? ⟨g226, 1, none⟩ = some (.int .u64 0) := bq_ B226 1; have hfz21_0 := blk_frozen B226.out 0; have hfz21_1 := blk_frozen B226.out 1))
  refine bodyPost_ret (results_cell_row rfl _ _ g226 36 #[.int .u64 0, .int .u64 0] (0, 0) _ rfl (by refine blk_put (cs := #[.int .u64 0, .int .u64 0]) ?_ 1 _ rfl; refine blk_put (cs := #[.int .u64 0, .int .u64 0]) ?_ 0 _ rfl; exact B226.out) Tryd.underlying36 rfl (by kernel_rfl)) rfl ?_
  exact ⟨by first | rfl | (simp [errW_none, errW_some] <;> rfl) | (simp [*, errW_none, errW_some] <;> rfl), by repeat (first | (with_reducible first | exact HB.out | apply below_alloc | apply pw_below_drewN | apply below_drew1 | refine below_set ?_ GE225.out | refine below_set ?_ GE226.out) | exact HB.out)⟩

/-! ### attestorref01_Valid: function 42 -/
def attestorref01_Valid.f (a0 : Int) : Option (Bool) := if a0 ≥ 0 then (some (decide (a0 ≤ 3))) else (some false)
set_option maxHeartbeats 8000000 in
set_option maxRecDepth 100000 in
theorem attestorref01_Valid.calls (a0 : Int) (r : Bool) (w : World) (h : attestorref01_Valid.f a0 = some r) :
  Calls Tryd.prog 42 #[.int .i64 a0] w fun e w' => e = .returned (.bool r) ∧ Drawn0 w w' := by
 have H : (if a0 ≥ 0 then (some (decide (a0 ≤ 3))) else (some false)) = some r := h
 clear h
 by_cases c2 : a0 ≥ 0
 ·rw [if_pos c2] at H
  have c2b0 : decide (0 ≤ a0) = true := decide_eq_true c2
  clear c2
  obtain rfl := Option.some.inj H
  go_enter Tryd.func42, Tryd.ntmps42
  go_wp2
  go_ret
  exact ⟨by first | rfl | (simp; done) | (simp [*]; done), by repeat (first | exact Drawn0.refl _ | apply Drawn0.step)⟩
 ·rw [if_neg c2] at H
  have c2b0 : decide (0 ≤ a0) = false := decide_eq_false c2
  clear c2
  obtain rfl := Option.some.inj H
  go_enter Tryd.func42, Tryd.ntmps42
  go_wp2
  go_ret
  exact ⟨by first | rfl | (simp; done) | (simp [*]; done), by repeat (first | exact Drawn0.refl _ | apply Drawn0.step)⟩

/-! ### attestorref01_P: function 34 -/
def attestorref01_P.f (a0 : Int) : Option (Int) := if a0 = 0 then (some 97) else (if a0 = 1 then (some 257) else (if a0 = 2 then (some 12289) else (if a0 = 3 then (some 998244353) else (some 0))))
set_option maxHeartbeats 8000000 in
set_option maxRecDepth 100000 in
theorem attestorref01_P.calls (a0 : Int) (r : Int) (w : World) (h : attestorref01_P.f a0 = some r) :
  Calls Tryd.prog 34 #[.int .i64 a0] w fun e w' => e = .returned (.int .u64 r) ∧ Drawn0 w w' := by
 have H : (if a0 = 0 then (some 97) else (if a0 = 1 then (some 257) else (if a0 = 2 then (some 12289) else (if a0 = 3 then (some 998244353) else (some 0))))) = some r := h
 clear h
 by_cases c2 : a0 = 0
 ·rw [if_pos c2] at H
  have c2b0 : (a0 == 0) = true := beq_iff_eq.mpr c2
  have c2b1 : (a0 != 0) = false := bne_eq_false_iff_eq.mpr c2
  clear c2
  obtain rfl := Option.some.inj H
  go_enter Tryd.func34, Tryd.ntmps34
  go_wp2
  go_ret
  exact ⟨by first | rfl | (simp; done) | (simp [*]; done), by repeat (first | exact Drawn0.refl _ | apply Drawn0.step)⟩
 ·rw [if_neg c2] at H
  have c2b0 : (a0 == 0) = false := beq_eq_false_iff_ne.mpr c2
  have c2b1 : (a0 != 0) = true := bne_iff_ne.mpr c2
  by_cases c3 : a0 = 1
  ·rw [if_pos c3] at H
   have c3b0 : (a0 == 1) = true := beq_iff_eq.mpr c3
   have c3b1 : (a0 != 1) = false := bne_eq_false_iff_eq.mpr c3
   clear c3
   obtain rfl := Option.some.inj H
   go_enter Tryd.func34, Tryd.ntmps34
   go_wp2
   go_ret
   exact ⟨by first | rfl | (simp; done) | (simp [*]; done), by repeat (first | exact Drawn0.refl _ | apply Drawn0.step)⟩
  ·rw [if_neg c3] at H
   have c3b0 : (a0 == 1) = false := beq_eq_false_iff_ne.mpr c3
   have c3b1 : (a0 != 1) = true := bne_iff_ne.mpr c3
   by_cases c4 : a0 = 2
   ·rw [if_pos c4] at H
    have c4b0 : (a0 == 2) = true := beq_iff_eq.mpr c4
    have c4b1 : (a0 != 2) = false := bne_eq_false_iff_eq.mpr c4
    clear c4
    obtain rfl := Option.some.inj H
    go_enter Tryd.func34, Tryd.ntmps34
    go_wp2
    go_ret
    exact ⟨by first | rfl | (simp; done) | (simp [*]; done), by repeat (first | exact Drawn0.refl _ | apply Drawn0.step)⟩
   ·rw [if_neg c4] at H
    have c4b0 : (a0 == 2) = false := beq_eq_false_iff_ne.mpr c4
    have c4b1 : (a0 != 2) = true := bne_iff_ne.mpr c4
    by_cases c5 : a0 = 3
    ·rw [if_pos c5] at H
     have c5b0 : (a0 == 3) = true := beq_iff_eq.mpr c5
     have c5b1 : (a0 != 3) = false := bne_eq_false_iff_eq.mpr c5
     clear c5
     obtain rfl := Option.some.inj H
     go_enter Tryd.func34, Tryd.ntmps34
     go_wp2
     go_ret
     exact ⟨by first | rfl | (simp; done) | (simp [*]; done), by repeat (first | exact Drawn0.refl _ | apply Drawn0.step)⟩
    ·rw [if_neg c5] at H
     have c5b0 : (a0 == 3) = false := beq_eq_false_iff_ne.mpr c5
     have c5b1 : (a0 != 3) = true := bne_iff_ne.mpr c5
     obtain rfl := Option.some.inj H
     go_enter Tryd.func34, Tryd.ntmps34
     go_wp2
     go_ret
     exact ⟨by first | rfl | (simp; done) | (simp [*]; done), by repeat (first | exact Drawn0.refl _ | apply Drawn0.step)⟩

end Go.Proofs.YtpnpmeogffodgaaDoor.Q
end
section
namespace Go.Proofs.YtpnpmeogffodgaaDoor.Q
open Go.RowKit Go.Proofs.YtpnpmeogffodgaaDoorW.PrintWords Go.Proofs.YtpnpmeogffodgaaDoorW.PrintLast Go.Proofs.YtpnpmeogffodgaaDoorW.PrintMore
attribute [local go_sem] max2_int min2_int max_two min_two max_three min_three max_four min_four run_store_fnV run_store_fnc run_store_nfn   -- for this text's walks alone
set_option linter.unusedVariables false
set_option linter.unusedSimpArgs false

/-! ### attestorref01_Add: function 63 -/
def attestorref01_Add.f (a0 : Int) (a1 : Int) (a2 : Int) : Option (Int) := (attestorref01_Valid.f a0).bind fun t234 => (if t234 = true then ((attestorref01_P.f a0).bind fun t235 => (if t235 = 0 then (none) else (some (Int.tmod (IntKind.u64.wrap ((Int.tmod a1 t235) + (Int.tmod a2 t235))) t235)))) else (some 0))
set_option maxHeartbeats 8000000 in
set_option maxRecDepth 100000 in
theorem attestorref01_Add.calls (a0 : Int) (a1 : Int) (a2 : Int) (r : Int) (w : World) (h : attestorref01_Add.f a0 a1 a2 = some r) :
    Calls Tryd.prog 63 #[.int .i64 a0, .int .u64 a1, .int .u64 a2] w fun e w' => e = .returned (.int .u64 r) ∧ Drawn0 w w' := by
  have H : ((attestorref01_Valid.f a0).bind fun t234 => (if t234 = true then ((attestorref01_P.f a0).bind fun t235 => (if t235 = 0 then (none) else (some (Int.tmod (IntKind.u64.wrap ((Int.tmod a1 t235) + (Int.tmod a2 t235))) t235)))) else (some 0))) = some r := h
  clear h
  replace H := Option.bind_eq_some_iff.mp H
  obtain ⟨t234, A40, H⟩ := H
  replace H : (if t234 = true then ((attestorref01_P.f a0).bind fun t235 => (if t235 = 0 then (none) else (some (Int.tmod (IntKind.u64.wrap ((Int.tmod a1 t235) + (Int.tmod a2 t235))) t235)))) else (some 0)) = some r := H
  have A4 := Aside0.mk A40
  clear A40
  by_cases c5 : t234 = true
  · subst c5
    have H1 : ((attestorref01_P.f a0).bind fun t235 => (if t235 = 0 then (none) else (some (Int.tmod (IntKind.u64.wrap ((Int.tmod a1 t235) + (Int.tmod a2 t235))) t235)))) = some r := by rw [if_pos rfl] at H; exact H
    clear H
    have H := H1
    clear H1
    replace H := Option.bind_eq_some_iff.mp H
    obtain ⟨t235, A60, H⟩ := H
    replace H : (if t235 = 0 then (none) else (some (Int.tmod (IntKind.u64.wrap ((Int.tmod a1 t235) + (Int.tmod a2 t235))) t235))) = some r := H
    have A6 := Aside0.mk A60
    clear A60
    by_cases c7 : t235 = 0
    · rw [if_pos c7] at H
      exact absurd H (by simp)
    · rw [if_neg c7] at H
      have c7b0 : (t235 == 0) = false := beq_eq_false_iff_ne.mpr c7
      have c7b1 : (t235 != 0) = true := bne_iff_ne.mpr c7
      obtain rfl := Option.some.inj H
      go_enter Tryd.func63, Tryd.ntmps63
      go_wp2_with (first | (go_at_call 42; (with_reducible refine (attestorref01_Valid.calls a0 true _ A4.out).mono ?_); rintro e w' ⟨rfl, ⟨nd, rfl⟩⟩; (try first | exact ⟨rfl, _, World.drewN_drewN _ _ _⟩ | exact ⟨rfl, _, Eq.trans (World.drewN_drewN _ _ _) (congrArg (World.drewN _) (Nat.add_assoc _ _ _))⟩)) | (go_at_call 34; (with_reducible refine (attestorref01_P.calls a0 t235 _ A6.out).mono ?_); rintro e w' ⟨rfl, ⟨nd, rfl⟩⟩; (try first | exact ⟨rfl, _, World.drewN_drewN _ _ _⟩ | exact ⟨rfl, _, Eq.trans (World.drewN_drewN _ _ _) (congrArg (World.drewN _) (Nat.add_assoc _ _ _))⟩)))
      repeat (go_quiet (first | (go_at_call 42; (with_reducible refine (attestorref01_Valid.calls a0 true _ A4.out).mono ?_); rintro e w' ⟨rfl, ⟨nd, rfl⟩⟩; (try first | exact ⟨rfl, _, World.drewN_drewN _ _ _⟩ | exact ⟨rfl, _, Eq.trans (World.drewN_drewN _ _ _) (congrArg (World.drewN _) (Nat.add_assoc _ _ _))⟩)) | (go_at_call 34; (with_reducible refine (attestorref01_P.calls a0 t235 _ A6.out).mono ?_); rintro e w' ⟨rfl, ⟨nd, rfl⟩⟩; (try first | exact ⟨rfl, _, World.drewN_drewN _ _ _⟩ | exact ⟨rfl, _, Eq.trans (World.drewN_drewN _ _ _) (congrArg (World.drewN _) (Nat.add_assoc _ _ _))⟩))); try go_wp2_with (first | (go_at_call 42; (with_reducible refine (attestorref01_Valid.calls a0 true _ A4.out).mono ?_); rintro e w' ⟨rfl, ⟨nd, rfl⟩⟩; (try first | exact ⟨rfl, _, World.drewN_drewN _ _ _⟩ | exact ⟨rfl, _, Eq.trans (World.drewN_drewN _ _ _) (congrArg (World.drewN _) (Nat.add_assoc _ _ _))⟩)) | (go_at_call 34; (with_reducible refine (attestorref01_P.calls a0 t235 _ A6.out).mono ?_); rintro e w' ⟨rfl, ⟨nd, rfl⟩⟩; (try first | exact ⟨rfl, _, World.drewN_drewN _ _ _⟩ | exact ⟨rfl, _, Eq.trans (World.drewN_drewN _ _ _) (congrArg (World.drewN _) (Nat.add_assoc _ _ _))⟩))))
      go_ret
      exact ⟨by first | rfl | (simp; done) | (simp [*]; done), by repeat (first | exact Drawn0.refl _ | apply Drawn0.step)⟩
  · replace c5 := Bool.eq_false_iff.mpr c5
    subst c5
    have H1 : (some 0) = some r := by rw [if_neg (show ¬ (false = true) by decide)] at H; exact H
    clear H
    have H := H1
    clear H1
    obtain rfl := Option.some.inj H
    go_enter Tryd.func63, Tryd.ntmps63
    go_wp2_with (first | (go_at_call 42; (with_reducible refine (attestorref01_Valid.calls a0 false _ A4.out).mono ?_); rintro e w' ⟨rfl, ⟨nd, rfl⟩⟩; (try first | exact ⟨rfl, _, World.drewN_drewN _ _ _⟩ | exact ⟨rfl, _, Eq.trans (World.drewN_drewN _ _ _) (congrArg (World.drewN _) (Nat.add_assoc _ _ _))⟩)))
    repeat (go_quiet (first | (go_at_call 42; (with_reducible refine (attestorref01_Valid.calls a0 false _ A4.out).mono ?_); rintro e w' ⟨rfl, ⟨nd, rfl⟩⟩; (try first | exact ⟨rfl, _, World.drewN_drewN _ _ _⟩ | exact ⟨rfl, _, Eq.trans (World.drewN_drewN _ _ _) (congrArg (World.drewN _) (Nat.add_assoc _ _ _))⟩))); try go_wp2_with (first | (go_at_call 42; (with_reducible refine (attestorref01_Valid.calls a0 false _ A4.out).mono ?_); rintro e w' ⟨rfl, ⟨nd, rfl⟩⟩; (try first | exact ⟨rfl, _, World.drewN_drewN _ _ _⟩ | exact ⟨rfl, _, Eq.trans (World.drewN_drewN _ _ _) (congrArg (World.drewN _) (Nat.add_assoc _ _ _))⟩))))
    go_ret
    exact ⟨by first | rfl | (simp; done) | (simp [*]; done), by repeat (first | exact Drawn0.refl _ | apply Drawn0.step)⟩

/-! ### attestorref01_Mul: function 78 -/
def attestorref01_Mul.f (a0 : Int) (a1 : Int) (a2 : Int) : Option (Int) := (attestorref01_Valid.f a0).bind fun t236 => (if t236 = true then ((attestorref01_P.f a0).bind fun t237 => (if t237 = 0 then (none) else (some (Int.tmod (IntKind.u64.wrap ((Int.tmod a1 t237) * (Int.tmod a2 t237))) t237)))) else (some 0))
set_option maxHeartbeats 8000000 in
set_option maxRecDepth 100000 in
theorem attestorref01_Mul.calls (a0 : Int) (a1 : Int) (a2 : Int) (r : Int) (w : World) (h : attestorref01_Mul.f a0 a1 a2 = some r) :
    Calls Tryd.prog 78 #[.int .i64 a0, .int .u64 a1, .int .u64 a2] w fun e w' => e = .returned (.int .u64 r) ∧ Drawn0 w w' := by
  have H : ((attestorref01_Valid.f a0).bind fun t236 => (if t236 = true then ((attestorref01_P.f a0).bind fun t237 => (if t237 = 0 then (none) else (some (Int.tmod (IntKind.u64.wrap ((Int.tmod a1 t237) * (Int.tmod a2 t237))) t237)))) else (some 0))) = some r := h
  clear h
  replace H := Option.bind_eq_some_iff.mp H
  obtain ⟨t236, A40, H⟩ := H
  replace H : (if t236 = true then ((attestorref01_P.f a0).bind fun t237 => (if t237 = 0 then (none) else (some (Int.tmod (IntKind.u64.wrap ((Int.tmod a1 t237) * (Int.tmod a2 t237))) t237)))) else (some 0)) = some r := H
  have A4 := Aside0.mk A40
  clear A40
  by_cases c5 : t236 = true
  · subst c5
    have H1 : ((attestorref01_P.f a0).bind fun t237 => (if t237 = 0 then (none) else (some (Int.tmod (IntKind.u64.wrap ((Int.tmod a1 t237) * (Int.tmod a2 t237))) t237)))) = some r := by rw [if_pos rfl] at H; exact H
    clear H
    have H := H1
    clear H1
    replace H := Option.bind_eq_some_iff.mp H
    obtain ⟨t237, A60, H⟩ := H
    replace H : (if t237 = 0 then (none) else (some (Int.tmod (IntKind.u64.wrap ((Int.tmod a1 t237) * (Int.tmod a2 t237))) t237))) = some r := H
    have A6 := Aside0.mk A60
    clear A60
    by_cases c7 : t237 = 0
    · rw [if_pos c7] at H
      exact absurd H (by simp)
    · rw [if_neg c7] at H
      have c7b0 : (t237 == 0) = false := beq_eq_false_iff_ne.mpr c7
      have c7b1 : (t237 != 0) = true := bne_iff_ne.mpr c7
      obtain rfl := Option.some.inj H
      go_enter Tryd.func78, Tryd.ntmps78
      go_wp2_with (first | (go_at_call 42; (with_reducible refine (attestorref01_Valid.calls a0 true _ A4.out).mono ?_); rintro e w' ⟨rfl, ⟨nd, rfl⟩⟩; (try first | exact ⟨rfl, _, World.drewN_drewN _ _ _⟩ | exact ⟨rfl, _, Eq.trans (World.drewN_drewN _ _ _) (congrArg (World.drewN _) (Nat.add_assoc _ _ _))⟩)) | (go_at_call 34; (with_reducible refine (attestorref01_P.calls a0 t237 _ A6.out).mono ?_); rintro e w' ⟨rfl, ⟨nd, rfl⟩⟩; (try first | exact ⟨rfl, _, World.drewN_drewN _ _ _⟩ | exact ⟨rfl, _, Eq.trans (World.drewN_drewN _ _ _) (congrArg (World.drewN _) (Nat.add_assoc _ _ _))⟩)))
      repeat (go_quiet (first | (go_at_call 42; (with_reducible refine (attestorref01_Valid.calls a0 true _ A4.out).mono ?_); rintro e w' ⟨rfl, ⟨nd, rfl⟩⟩; (try first | exact ⟨rfl, _, World.drewN_drewN _ _ _⟩ | exact ⟨rfl, _, Eq.trans (World.drewN_drewN _ _ _) (congrArg (World.drewN _) (Nat.add_assoc _ _ _))⟩)) | (go_at_call 34; (with_reducible refine (attestorref01_P.calls a0 t237 _ A6.out).mono ?_); rintro e w' ⟨rfl, ⟨nd, rfl⟩⟩; (try first | exact ⟨rfl, _, World.drewN_drewN _ _ _⟩ | exact ⟨rfl, _, Eq.trans (World.drewN_drewN _ _ _) (congrArg (World.drewN _) (Nat.add_assoc _ _ _))⟩))); try go_wp2_with (first | (go_at_call 42; (with_reducible refine (attestorref01_Valid.calls a0 true _ A4.out).mono ?_); rintro e w' ⟨rfl, ⟨nd, rfl⟩⟩; (try first | exact ⟨rfl, _, World.drewN_drewN _ _ _⟩ | exact ⟨rfl, _, Eq.trans (World.drewN_drewN _ _ _) (congrArg (World.drewN _) (Nat.add_assoc _ _ _))⟩)) | (go_at_call 34; (with_reducible refine (attestorref01_P.calls a0 t237 _ A6.out).mono ?_); rintro e w' ⟨rfl, ⟨nd, rfl⟩⟩; (try first | exact ⟨rfl, _, World.drewN_drewN _ _ _⟩ | exact ⟨rfl, _, Eq.trans (World.drewN_drewN _ _ _) (congrArg (World.drewN _) (Nat.add_assoc _ _ _))⟩))))
      go_ret
      exact ⟨by first | rfl | (simp; done) | (simp [*]; done), by repeat (first | exact Drawn0.refl _ | apply Drawn0.step)⟩
  · replace c5 := Bool.eq_false_iff.mpr c5
    subst c5
    have H1 : (some 0) = some r := by rw [if_neg (show ¬ (false = true) by decide)] at H; exact H
    clear H
    have H := H1
    clear H1
    obtain rfl := Option.some.inj H
    go_enter Tryd.func78, Tryd.ntmps78
    go_wp2_with (first | (go_at_call 42; (with_reducible refine (attestorref01_Valid.calls a0 false _ A4.out).mono ?_); rintro e w' ⟨rfl, ⟨nd, rfl⟩⟩; (try first | exact ⟨rfl, _, World.drewN_drewN _ _ _⟩ | exact ⟨rfl, _, Eq.trans (World.drewN_drewN _ _ _) (congrArg (World.drewN _) (Nat.add_assoc _ _ _))⟩)))
    repeat (go_quiet (first | (go_at_call 42; (with_reducible refine (attestorref01_Valid.calls a0 false _ A4.out).mono ?_); rintro e w' ⟨rfl, ⟨nd, rfl⟩⟩; (try first | exact ⟨rfl, _, World.drewN_drewN _ _ _⟩ | exact ⟨rfl, _, Eq.trans (World.drewN_drewN _ _ _) (congrArg (World.drewN _) (Nat.add_assoc _ _ _))⟩))); try go_wp2_with (first | (go_at_call 42; (with_reducible refine (attestorref01_Valid.calls a0 false _ A4.out).mono ?_); rintro e w' ⟨rfl, ⟨nd, rfl⟩⟩; (try first | exact ⟨rfl, _, World.drewN_drewN _ _ _⟩ | exact ⟨rfl, _, Eq.trans (World.drewN_drewN _ _ _) (congrArg (World.drewN _) (Nat.add_assoc _ _ _))⟩))))
    go_ret
    exact ⟨by first | rfl | (simp; done) | (simp [*]; done), by repeat (first | exact Drawn0.refl _ | apply Drawn0.step)⟩

end Go.Proofs.YtpnpmeogffodgaaDoor.Q
end
section
namespace Go.Proofs.YtpnpmeogffodgaaDoor.Q
open Go.RowKit Go.Proofs.YtpnpmeogffodgaaDoorW.PrintWords Go.Proofs.YtpnpmeogffodgaaDoorW.PrintLast Go.Proofs.YtpnpmeogffodgaaDoorW.PrintMore
attribute [local go_sem] max2_int min2_int max_two min_two max_three min_three max_four min_four run_store_fnV run_store_fnc run_store_nfn   -- for this text's walks alone
set_option linter.unusedVariables false
set_option linter.unusedSimpArgs false

/-! ### attestorref01_Pow: function 75 -/
def attestorref01_Pow.f : Nat → Int → Int → Int → Option (Int)
  | 0, _, _, _ => none
  | k + 1, a0, a1, a2 => (attestorref01_Valid.f a0).bind fun t238 => (if t238 = true then (if a2 = 0 then (some 1) else ((attestorref01_Pow.f k a0 a1 (IntKind.u64.wrap (Int.tdiv a2 2))).bind fun t239 => ((attestorref01_Mul.f a0 t239 t239).bind fun t240 => (if (Int.tmod a2 2) = 1 then ((attestorref01_Mul.f a0 t240 a1).bind fun t241 => (some t241)) else (some t240))))) else (some 0))
theorem attestorref01_Pow.mono_l : ∀ k, (∀ y0 y1 y2, LeO (attestorref01_Pow.f k y0 y1 y2) (attestorref01_Pow.f (k + 1) y0 y1 y2))
  | 0 => fun _ _ _ r h => by simp [attestorref01_Pow.f] at h
  | k + 1 => by
    have ih0 := attestorref01_Pow.mono_l k
    · intro y0 y1 y2
      unfold attestorref01_Pow.f
      repeat' first
      | (with_reducible exact ih0 _ _ _)
      | (with_reducible exact LeO.refl _)
      | (with_reducible exact LeO.none _)
      | (with_reducible refine LeO.ite ?_ ?_)
      | (with_reducible refine LeO.bind ?_ (fun _ => ?_))
      | exact ih0 _ _ _
      | exact LeO.none _
      | refine LeO.ite ?_ ?_
      | refine LeO.bind ?_ (fun _ => ?_)
theorem attestorref01_Pow.mono : ∀ a0 a1 a2 k, LeO (attestorref01_Pow.f k a0 a1 a2) (attestorref01_Pow.f (k + 1) a0 a1 a2) := by
  intro a0 a1 a2 k
  have ih0 := attestorref01_Pow.mono_l k
  exact ih0 a0 a1 a2
set_option maxHeartbeats 8000000 in
set_option maxRecDepth 100000 in
theorem attestorref01_Pow.calls (k : Nat) : ∀ (a0 : Int) (a1 : Int) (a2 : Int) (r : Int) (w : World) (h : attestorref01_Pow.f k a0 a1 a2 = some r),
    Calls Tryd.prog 75 #[.int .i64 a0, .int .u64 a1, .int .u64 a2] w fun e w' => e = .returned (.int .u64 r) ∧ Drawn0 w w' := by
  induction k using Nat.strongRecOn with
  | _ k ih =>
  intro a0 a1 a2 r w h
  cases k with
  | zero => exact absurd h (by simp [attestorref01_Pow.f])
  | succ k =>
  simp only [attestorref01_Pow.f] at h
  have H : ((attestorref01_Valid.f a0).bind fun t238 => (if t238 = true then (if a2 = 0 then (some 1) else ((attestorref01_Pow.f k a0 a1 (IntKind.u64.wrap (Int.tdiv a2 2))).bind fun t239 => ((attestorref01_Mul.f a0 t239 t239).bind fun t240 => (if (Int.tmod a2 2) = 1 then ((attestorref01_Mul.f a0 t240 a1).bind fun t241 => (some t241)) else (some t240))))) else (some 0))) = some r := h
  clear h
  replace H := Option.bind_eq_some_iff.mp H
  obtain ⟨t238, A40, H⟩ := H
  replace H : (if t238 = true then (if a2 = 0 then (some 1) else ((attestorref01_Pow.f k a0 a1 (IntKind.u64.wrap (Int.tdiv a2 2))).bind fun t239 => ((attestorref01_Mul.f a0 t239 t239).bind fun t240 => (if (Int.tmod a2 2) = 1 then ((attestorref01_Mul.f a0 t240 a1).bind fun t241 => (some t241)) else (some t240))))) else (some 0)) = some r := H
  have A4 := Aside0.mk A40
  clear A40
  by_cases c5 : t238 = true
  · subst c5
    have H1 : (if a2 = 0 then (some 1) else ((attestorref01_Pow.f k a0 a1 (IntKind.u64.wrap (Int.tdiv a2 2))).bind fun t239 => ((attestorref01_Mul.f a0 t239 t239).bind fun t240 => (if (Int.tmod a2 2) = 1 then ((attestorref01_Mul.f a0 t240 a1).bind fun t241 => (some t241)) else (some t240))))) = some r := by rw [if_pos rfl] at H; exact H
    clear H
    have H := H1
    clear H1
    by_cases c6 : a2 = 0
    · rw [if_pos c6] at H
      have c6b0 : (a2 == 0) = true := beq_iff_eq.mpr c6
      have c6b1 : (a2 != 0) = false := bne_eq_false_iff_eq.mpr c6
      clear c6
      obtain rfl := Option.some.inj H
      go_enter Tryd.func75, Tryd.ntmps75
      go_wp2_with (first | ((with_reducible refine gate_callee (f := 42) rfl ?_); refine goesL_ (some 9) rfl rfl Tryd.func42 (by kernel_rfl) rfl #[.int .i64 a0] rfl (by (try simp only [List.map_toArray, List.map_cons, List.map_nil]); first | done | rfl | (simp only [List.length_drop, List.length_take]; rfl) | (go_simp; done) | (go_simp; rw [Int.tmod_eq_emod_of_nonneg (by omega)]; omega)) ?_; (with_reducible refine (attestorref01_Valid.calls a0 true _ A4.out).mono ?_); rintro e w' ⟨rfl, ⟨nd, rfl⟩⟩; refine ⟨_, rfl, ?_⟩))
      go_ret
      exact ⟨by first | rfl | (simp; done) | (simp [*]; done), by repeat (first | exact Drawn0.refl _ | apply Drawn0.step)⟩
    · rw [if_neg c6] at H
      have c6b0 : (a2 == 0) = false := beq_eq_false_iff_ne.mpr c6
      have c6b1 : (a2 != 0) = true := bne_iff_ne.mpr c6
      replace H := Option.bind_eq_some_iff.mp H
      obtain ⟨t239, A70, H⟩ := H
      replace H : ((attestorref01_Mul.f a0 t239 t239).bind fun t240 => (if (Int.tmod a2 2) = 1 then ((attestorref01_Mul.f a0 t240 a1).bind fun t241 => (some t241)) else (some t240))) = some r := H
      have A7 := Aside0.mk A70
      clear A70
      replace H := Option.bind_eq_some_iff.mp H
      obtain ⟨t240, A80, H⟩ := H
      replace H : (if (Int.tmod a2 2) = 1 then ((attestorref01_Mul.f a0 t240 a1).bind fun t241 => (some t241)) else (some t240)) = some r := H
      have A8 := Aside0.mk A80
      clear A80
      by_cases c9 : (Int.tmod a2 2) = 1
      · rw [if_pos c9] at H
        have c9b0 : ((Int.tmod a2 2) == 1) = true := beq_iff_eq.mpr c9
        have c9b1 : ((Int.tmod a2 2) != 1) = false := bne_eq_false_iff_eq.mpr c9
        clear c9
        replace H := Option.bind_eq_some_iff.mp H
        obtain ⟨t241, A100, H⟩ := H
        replace H : (some t241) = some r := H
        have A10 := Aside0.mk A100
        clear A100
        obtain rfl := Option.some.inj H
        go_enter Tryd.func75, Tryd.ntmps75
        go_wp2_with (first | ((with_reducible refine gate_callee (f := 42) rfl ?_); refine goesL_ (some 9) rfl rfl Tryd.func42 (by kernel_rfl) rfl #[.int .i64 a0] rfl (by (try simp only [List.map_toArray, List.map_cons, List.map_nil]); first | done | rfl | (simp only [List.length_drop, List.length_take]; rfl) | (go_simp; done) | (go_simp; rw [Int.tmod_eq_emod_of_nonneg (by omega)]; omega)) ?_; (with_reducible refine (attestorref01_Valid.calls a0 true _ A4.out).mono ?_); rintro e w' ⟨rfl, ⟨nd, rfl⟩⟩; refine ⟨_, rfl, ?_⟩) | ((with_reducible refine gate_callee (f := 75) rfl ?_); refine goesL_ (some 17) rfl rfl Tryd.func75 (by kernel_rfl) rfl #[.int .i64 a0, .int .u64 a1, .int .u64 (IntKind.u64.wrap (Int.tdiv a2 2))] rfl (by (try simp only [List.map_toArray, List.map_cons, List.map_nil]); first | done | rfl | (simp only [List.length_drop, List.length_take]; rfl) | (go_simp; done) | (go_simp; rw [Int.tmod_eq_emod_of_nonneg (by omega)]; omega)) ?_; (with_reducible refine (ih k (by omega) a0 a1 (IntKind.u64.wrap (Int.tdiv a2 2)) t239 _ A7.out).mono ?_); rintro e w' ⟨rfl, ⟨nd, rfl⟩⟩; refine ⟨_, rfl, ?_⟩) | ((with_reducible refine gate_callee (f := 78) rfl ?_); refine goesL_ (some 21) rfl rfl Tryd.func78 (by kernel_rfl) rfl #[.int .i64 a0, .int .u64 t239, .int .u64 t239] rfl (by (try simp only [List.map_toArray, List.map_cons, List.map_nil]); first | done | rfl | (simp only [List.length_drop, List.length_take]; rfl) | (go_simp; done) | (go_simp; rw [Int.tmod_eq_emod_of_nonneg (by omega)]; omega)) ?_; (with_reducible refine (attestorref01_Mul.calls a0 t239 t239 t240 _ A8.out).mono ?_); rintro e w' ⟨rfl, ⟨nd, rfl⟩⟩; refine ⟨_, rfl, ?_⟩) | ((with_reducible refine gate_callee (f := 78) rfl ?_); refine goesL_ (some 28) rfl rfl Tryd.func78 (by kernel_rfl) rfl #[.int .i64 a0, .int .u64 t240, .int .u64 a1] rfl (by (try simp only [List.map_toArray, List.map_cons, List.map_nil]); first | done | rfl | (simp only [List.length_drop, List.length_take]; rfl) | (go_simp; done) | (go_simp; rw [Int.tmod_eq_emod_of_nonneg (by omega)]; omega)) ?_; (with_reducible refine (attestorref01_Mul.calls a0 t240 a1 t241 _ A10.out).mono ?_); rintro e w' ⟨rfl, ⟨nd, rfl⟩⟩; refine ⟨_, rfl, ?_⟩))
        go_ret
        exact ⟨by first | rfl | (simp; done) | (simp [*]; done), by repeat (first | exact Drawn0.refl _ | apply Drawn0.step)⟩
      · rw [if_neg c9] at H
        have c9b0 : ((Int.tmod a2 2) == 1) = false := beq_eq_false_iff_ne.mpr c9
        have c9b1 : ((Int.tmod a2 2) != 1) = true := bne_iff_ne.mpr c9
        obtain rfl := Option.some.inj H
        go_enter Tryd.func75, Tryd.ntmps75
        go_wp2_with (first | ((with_reducible refine gate_callee (f := 42) rfl ?_); refine goesL_ (some 9) rfl rfl Tryd.func42 (by kernel_rfl) rfl #[.int .i64 a0] rfl (by (try simp only [List.map_toArray, List.map_cons, List.map_nil]); first | done | rfl | (simp only [List.length_drop, List.length_take]; rfl) | (go_simp; done) | (go_simp; rw [Int.tmod_eq_emod_of_nonneg (by omega)]; omega)) ?_; (with_reducible refine (attestorref01_Valid.calls a0 true _ A4.out).mono ?_); rintro e w' ⟨rfl, ⟨nd, rfl⟩⟩; refine ⟨_, rfl, ?_⟩) | ((with_reducible refine gate_callee (f := 75) rfl ?_); refine goesL_ (some 17) rfl rfl Tryd.func75 (by kernel_rfl) rfl #[.int .i64 a0, .int .u64 a1, .int .u64 (IntKind.u64.wrap (Int.tdiv a2 2))] rfl (by (try simp only [List.map_toArray, List.map_cons, List.map_nil]); first | done | rfl | (simp only [List.length_drop, List.length_take]; rfl) | (go_simp; done) | (go_simp; rw [Int.tmod_eq_emod_of_nonneg (by omega)]; omega)) ?_; (with_reducible refine (ih k (by omega) a0 a1 (IntKind.u64.wrap (Int.tdiv a2 2)) t239 _ A7.out).mono ?_); rintro e w' ⟨rfl, ⟨nd, rfl⟩⟩; refine ⟨_, rfl, ?_⟩) | ((with_reducible refine gate_callee (f := 78) rfl ?_); refine goesL_ (some 21) rfl rfl Tryd.func78 (by kernel_rfl) rfl #[.int .i64 a0, .int .u64 t239, .int .u64 t239] rfl (by (try simp only [List.map_toArray, List.map_cons, List.map_nil]); first | done | rfl | (simp only [List.length_drop, List.length_take]; rfl) | (go_simp; done) | (go_simp; rw [Int.tmod_eq_emod_of_nonneg (by omega)]; omega)) ?_; (with_reducible refine (attestorref01_Mul.calls a0 t239 t239 t240 _ A8.out).mono ?_); rintro e w' ⟨rfl, ⟨nd, rfl⟩⟩; refine ⟨_, rfl, ?_⟩))
        go_ret
        exact ⟨by first | rfl | (simp; done) | (simp [*]; done), by repeat (first | exact Drawn0.refl _ | apply Drawn0.step)⟩
  · replace c5 := Bool.eq_false_iff.mpr c5
    subst c5
    have H1 : (some 0) = some r := by rw [if_neg (show ¬ (false = true) by decide)] at H; exact H
    clear H
    have H := H1
    clear H1
    obtain rfl := Option.some.inj H
    go_enter Tryd.func75, Tryd.ntmps75
    go_wp2_with (first | ((with_reducible refine gate_callee (f := 42) rfl ?_); refine goesL_ (some 9) rfl rfl Tryd.func42 (by kernel_rfl) rfl #[.int .i64 a0] rfl (by (try simp only [List.map_toArray, List.map_cons, List.map_nil]); first | done | rfl | (simp only [List.length_drop, List.length_take]; rfl) | (go_simp; done) | (go_simp; rw [Int.tmod_eq_emod_of_nonneg (by omega)]; omega)) ?_; (with_reducible refine (attestorref01_Valid.calls a0 false _ A4.out).mono ?_); rintro e w' ⟨rfl, ⟨nd, rfl⟩⟩; refine ⟨_, rfl, ?_⟩))
    go_ret
    exact ⟨by first | rfl | (simp; done) | (simp [*]; done), by repeat (first | exact Drawn0.refl _ | apply Drawn0.step)⟩

end Go.Proofs.YtpnpmeogffodgaaDoor.Q
end
section
namespace Go.Proofs.YtpnpmeogffodgaaDoor.Q
open Go.RowKit Go.Proofs.YtpnpmeogffodgaaDoorW.PrintWords Go.Proofs.YtpnpmeogffodgaaDoorW.PrintLast Go.Proofs.YtpnpmeogffodgaaDoorW.PrintMore
attribute [local go_sem] max2_int min2_int max_two min_two max_three min_three max_four min_four run_store_fnV run_store_fnc run_store_nfn   -- for this text's walks alone
set_option linter.unusedVariables false
set_option linter.unusedSimpArgs false

/-! ### attestorref01_Exponent: function 76 -/
def attestorref01_Exponent.j0 : Nat → Int → Bool → Option (Int)
  | 0, _, _ => none
  | k + 1, x3, x4 => if x4 = true then (some 5) else (if x3 = 1 then (some 3) else (if x3 = 3 then (some 3) else (some 0)))
def attestorref01_Exponent.f (k : Nat) (a0 : Int) : Option (Int) := if a0 = 0 then (attestorref01_Exponent.j0 k a0 (a0 == 0)) else (attestorref01_Exponent.j0 k a0 (a0 == 2))
theorem attestorref01_Exponent.mono_l : ∀ k, (∀ y0 y1, LeO (attestorref01_Exponent.j0 k y0 y1) (attestorref01_Exponent.j0 (k + 1) y0 y1))
  | 0 => fun _ _ r h => by simp [attestorref01_Exponent.j0] at h
  | k + 1 => by
    have ih0 := attestorref01_Exponent.mono_l k
    · intro y0 y1
      unfold attestorref01_Exponent.j0
      repeat' first
      | (with_reducible exact ih0 _ _)
      | (with_reducible exact LeO.refl _)
      | (with_reducible exact LeO.none _)
      | (with_reducible refine LeO.ite ?_ ?_)
      | (with_reducible refine LeO.bind ?_ (fun _ => ?_))
      | exact ih0 _ _
      | exact LeO.none _
      | refine LeO.ite ?_ ?_
      | refine LeO.bind ?_ (fun _ => ?_)
theorem attestorref01_Exponent.mono : ∀ a0 k, LeO (attestorref01_Exponent.f k a0) (attestorref01_Exponent.f (k + 1) a0) := by
  intro a0 k
  have ih0 := attestorref01_Exponent.mono_l k
  unfold attestorref01_Exponent.f
  repeat' first
      | (with_reducible exact ih0 _ _)
      | (with_reducible exact LeO.refl _)
      | (with_reducible exact LeO.none _)
      | (with_reducible refine LeO.ite ?_ ?_)
      | (with_reducible refine LeO.bind ?_ (fun _ => ?_))
      | exact ih0 _ _
      | exact LeO.none _
      | refine LeO.ite ?_ ?_
      | refine LeO.bind ?_ (fun _ => ?_)
set_option maxHeartbeats 8000000 in
set_option maxRecDepth 100000 in
theorem attestorref01_Exponent.calls (k : Nat) (a0 : Int) (r : Int) (w : World) (h : attestorref01_Exponent.f k a0 = some r) :
    Calls Tryd.prog 76 #[.int .i64 a0] w fun e w' => e = .returned (.int .i64 r) ∧ Drawn0 w w' := by
  have H : (if a0 = 0 then (attestorref01_Exponent.j0 k a0 (a0 == 0)) else (attestorref01_Exponent.j0 k a0 (a0 == 2))) = some r := h
  clear h
  have HC2 := Aside0.mk H
  clear H
  go_enter Tryd.func76, Tryd.ntmps76
  go_upto_if 4 with (fail)
  go_cut [4] (fun v4 wc => ∃ (kq : Nat) (x4_1 : Bool), v4 = .bool x4_1 ∧ Aside0 (attestorref01_Exponent.j0 kq a0 x4_1 = some r) ∧ Aside0 (kq ≤ k) ∧ Drawn0 w wc)
  case first =>
    have H := HC2.out
    clear HC2
    by_cases c3 : a0 = 0
    · rw [if_pos c3] at H
      have c3b0 : (a0 == 0) = true := beq_iff_eq.mpr c3
      have c3b1 : (a0 != 0) = false := bne_eq_false_iff_eq.mpr c3
      clear c3
      (first | rw [c3b0] | (simp only [i64_w, i32_w]; rw [c3b0]) | skip)
      have H' := Aside0.mk H
      clear H
      go_wp2
      go_meet
      case rel => exact ⟨_, ((a0 == 0)), (by first | rfl | (simp; done) | (simp [*]; done) | (simp; rfl) | (simp; decide +kernel)), H', ⟨by first | omega | exact Nat.le_refl _⟩, by repeat (first | exact Drawn0.refl _ | apply Drawn0.step)⟩
    · rw [if_neg c3] at H
      have c3b0 : (a0 == 0) = false := beq_eq_false_iff_ne.mpr c3
      have c3b1 : (a0 != 0) = true := bne_iff_ne.mpr c3
      (first | rw [c3b0] | (simp only [i64_w, i32_w]; rw [c3b0]) | skip)
      have H' := Aside0.mk H
      clear H
      go_wp2
      go_meet
      case rel => exact ⟨_, ((a0 == 2)), (by first | rfl | (simp; done) | (simp [*]; done) | (simp; rfl) | (simp; decide +kernel)), H', ⟨by first | omega | exact Nat.le_refl _⟩, by repeat (first | exact Drawn0.refl _ | apply Drawn0.step)⟩
  case rest =>
    clear HC2
    try clear p2
    try clear c3
    try clear c3b0
    try clear c3b1
    obtain ⟨kq, x4_1, rfl, HA, HJ1, ⟨mc1, rfl⟩⟩ := hcut
    cases kq with
    | zero => exact absurd HA.out (by simp [attestorref01_Exponent.j0])
    | succ kj1 =>
      have H := HA.out
      clear HA
      simp only [attestorref01_Exponent.j0] at H
      by_cases c4 : x4_1 = true
      · subst c4
        have H1 : (some 5) = some r := by rw [if_pos rfl] at H; exact H
        clear H
        have H := H1
        clear H1
        obtain rfl := Option.some.inj H
        go_wp2
        go_ret
        exact ⟨by first | rfl | (simp; done) | (simp [*]; done), by repeat (first | exact Drawn0.refl _ | apply Drawn0.step)⟩
      · replace c4 := Bool.eq_false_iff.mpr c4
        subst c4
        have H1 : (if a0 = 1 then (some 3) else (if a0 = 3 then (some 3) else (some 0))) = some r := by rw [if_neg (show ¬ (false = true) by decide)] at H; exact H
        clear H
        have H := H1
        clear H1
        by_cases c5 : a0 = 1
        · rw [if_pos c5] at H
          have c5b0 : (a0 == 1) = true := beq_iff_eq.mpr c5
          have c5b1 : (a0 != 1) = false := bne_eq_false_iff_eq.mpr c5
          clear c5
          obtain rfl := Option.some.inj H
          go_wp2
          go_ret
          exact ⟨by first | rfl | (simp; done) | (simp [*]; done), by repeat (first | exact Drawn0.refl _ | apply Drawn0.step)⟩
        · rw [if_neg c5] at H
          have c5b0 : (a0 == 1) = false := beq_eq_false_iff_ne.mpr c5
          have c5b1 : (a0 != 1) = true := bne_iff_ne.mpr c5
          by_cases c6 : a0 = 3
          · rw [if_pos c6] at H
            have c6b0 : (a0 == 3) = true := beq_iff_eq.mpr c6
            have c6b1 : (a0 != 3) = false := bne_eq_false_iff_eq.mpr c6
            clear c6
            obtain rfl := Option.some.inj H
            go_wp2
            go_ret
            exact ⟨by first | rfl | (simp; done) | (simp [*]; done), by repeat (first | exact Drawn0.refl _ | apply Drawn0.step)⟩
          · rw [if_neg c6] at H
            have c6b0 : (a0 == 3) = false := beq_eq_false_iff_ne.mpr c6
            have c6b1 : (a0 != 3) = true := bne_iff_ne.mpr c6
            obtain rfl := Option.some.inj H
            go_wp2
            go_ret
            exact ⟨by first | rfl | (simp; done) | (simp [*]; done), by repeat (first | exact Drawn0.refl _ | apply Drawn0.step)⟩

end Go.Proofs.YtpnpmeogffodgaaDoor.Q
end
section
namespace Go.Proofs.YtpnpmeogffodgaaDoor.Q
open Go.RowKit Go.Proofs.YtpnpmeogffodgaaDoorW.PrintWords Go.Proofs.YtpnpmeogffodgaaDoorW.PrintLast Go.Proofs.YtpnpmeogffodgaaDoorW.PrintMore
attribute [local go_sem] max2_int min2_int max_two min_two max_three min_three max_four min_four run_store_fnV run_store_fnc run_store_nfn   -- for this text's walks alone
set_option linter.unusedVariables false
set_option linter.unusedSimpArgs false

/-! ### attestorref01_Generator: function 79 -/
def attestorref01_Generator.j0 : Nat → Int → Bool → Option (Int)
  | 0, _, _ => none
  | k + 1, x3, x6 => if x6 = true then (some 3) else (if x3 = 2 then (some 11) else (some 0))
def attestorref01_Generator.f (k : Nat) (a0 : Int) : Option (Int) := if a0 = 0 then (some 5) else (if a0 = 1 then (attestorref01_Generator.j0 k a0 (a0 == 1)) else (attestorref01_Generator.j0 k a0 (a0 == 3)))
theorem attestorref01_Generator.mono_l : ∀ k, (∀ y0 y1, LeO (attestorref01_Generator.j0 k y0 y1) (attestorref01_Generator.j0 (k + 1) y0 y1))
  | 0 => fun _ _ r h => by simp [attestorref01_Generator.j0] at h
  | k + 1 => by
    have ih0 := attestorref01_Generator.mono_l k
    · intro y0 y1
      unfold attestorref01_Generator.j0
      repeat' first
      | (with_reducible exact ih0 _ _)
      | (with_reducible exact LeO.refl _)
      | (with_reducible exact LeO.none _)
      | (with_reducible refine LeO.ite ?_ ?_)
      | (with_reducible refine LeO.bind ?_ (fun _ => ?_))
      | exact ih0 _ _
      | exact LeO.none _
      | refine LeO.ite ?_ ?_
      | refine LeO.bind ?_ (fun _ => ?_)
theorem attestorref01_Generator.mono : ∀ a0 k, LeO (attestorref01_Generator.f k a0) (attestorref01_Generator.f (k + 1) a0) := by
  intro a0 k
  have ih0 := attestorref01_Generator.mono_l k
  unfold attestorref01_Generator.f
  repeat' first
      | (with_reducible exact ih0 _ _)
      | (with_reducible exact LeO.refl _)
      | (with_reducible exact LeO.none _)
      | (with_reducible refine LeO.ite ?_ ?_)
      | (with_reducible refine LeO.bind ?_ (fun _ => ?_))
      | exact ih0 _ _
      | exact LeO.none _
      | refine LeO.ite ?_ ?_
      | refine LeO.bind ?_ (fun _ => ?_)
set_option maxHeartbeats 8000000 in
set_option maxRecDepth 100000 in
theorem attestorref01_Generator.calls (k : Nat) (a0 : Int) (r : Int) (w : World) (h : attestorref01_Generator.f k a0 = some r) :
    Calls Tryd.prog 79 #[.int .i64 a0] w fun e w' => e = .returned (.int .u64 r) ∧ Drawn0 w w' := by
  have H : (if a0 = 0 then (some 5) else (if a0 = 1 then (attestorref01_Generator.j0 k a0 (a0 == 1)) else (attestorref01_Generator.j0 k a0 (a0 == 3)))) = some r := h
  clear h
  by_cases c2 : a0 = 0
  · rw [if_pos c2] at H
    have c2b0 : (a0 == 0) = true := beq_iff_eq.mpr c2
    have c2b1 : (a0 != 0) = false := bne_eq_false_iff_eq.mpr c2
    clear c2
    obtain rfl := Option.some.inj H
    go_enter Tryd.func79, Tryd.ntmps79
    go_wp2
    go_ret
    exact ⟨by first | rfl | (simp; done) | (simp [*]; done), by repeat (first | exact Drawn0.refl _ | apply Drawn0.step)⟩
  · rw [if_neg c2] at H
    have c2b0 : (a0 == 0) = false := beq_eq_false_iff_ne.mpr c2
    have c2b1 : (a0 != 0) = true := bne_iff_ne.mpr c2
    have HC3 := Aside0.mk H
    clear H
    go_enter Tryd.func79, Tryd.ntmps79
    go_upto_if 6 with (fail)
    go_cut [6] (fun v6 wc => ∃ (kq : Nat) (x6_2 : Bool), v6 = .bool x6_2 ∧ Aside0 (attestorref01_Generator.j0 kq a0 x6_2 = some r) ∧ Aside0 (kq ≤ k) ∧ Drawn0 w wc)
    case first =>
      have H := HC3.out
      clear HC3
      by_cases c4 : a0 = 1
      · rw [if_pos c4] at H
        have c4b0 : (a0 == 1) = true := beq_iff_eq.mpr c4
        have c4b1 : (a0 != 1) = false := bne_eq_false_iff_eq.mpr c4
        clear c4
        (first | rw [c4b0] | (simp only [i64_w, i32_w]; rw [c4b0]) | skip)
        have H' := Aside0.mk H
        clear H
        go_wp2
        go_meet
        case rel => exact ⟨_, ((a0 == 1)), (by first | rfl | (simp; done) | (simp [*]; done) | (simp; rfl) | (simp; decide +kernel)), H', ⟨by first | omega | exact Nat.le_refl _⟩, by repeat (first | exact Drawn0.refl _ | apply Drawn0.step)⟩
      · rw [if_neg c4] at H
        have c4b0 : (a0 == 1) = false := beq_eq_false_iff_ne.mpr c4
        have c4b1 : (a0 != 1) = true := bne_iff_ne.mpr c4
        (first | rw [c4b0] | (simp only [i64_w, i32_w]; rw [c4b0]) | skip)
        have H' := Aside0.mk H
        clear H
        go_wp2
        go_meet
        case rel => exact ⟨_, ((a0 == 3)), (by first | rfl | (simp; done) | (simp [*]; done) | (simp; rfl) | (simp; decide +kernel)), H', ⟨by first | omega | exact Nat.le_refl _⟩, by repeat (first | exact Drawn0.refl _ | apply Drawn0.step)⟩
    case rest =>
      clear HC3
      try clear c2
      try clear c2b0
      try clear c2b1
      try clear p2
      try clear c4
      try clear c4b0
      try clear c4b1
      obtain ⟨kq, x6_2, rfl, HA, HJ2, ⟨mc2, rfl⟩⟩ := hcut
      cases kq with
      | zero => exact absurd HA.out (by simp [attestorref01_Generator.j0])
      | succ kj2 =>
        have H := HA.out
        clear HA
        simp only [attestorref01_Generator.j0] at H
        by_cases c5 : x6_2 = true
        · subst c5
          have H1 : (some 3) = some r := by rw [if_pos rfl] at H; exact H
          clear H
          have H := H1
          clear H1
          obtain rfl := Option.some.inj H
          go_wp2
          go_ret
          exact ⟨by first | rfl | (simp; done) | (simp [*]; done), by repeat (first | exact Drawn0.refl _ | apply Drawn0.step)⟩
        · replace c5 := Bool.eq_false_iff.mpr c5
          subst c5
          have H1 : (if a0 = 2 then (some 11) else (some 0)) = some r := by rw [if_neg (show ¬ (false = true) by decide)] at H; exact H
          clear H
          have H := H1
          clear H1
          by_cases c6 : a0 = 2
          · rw [if_pos c6] at H
            have c6b0 : (a0 == 2) = true := beq_iff_eq.mpr c6
            have c6b1 : (a0 != 2) = false := bne_eq_false_iff_eq.mpr c6
            clear c6
            obtain rfl := Option.some.inj H
            go_wp2
            go_ret
            exact ⟨by first | rfl | (simp; done) | (simp [*]; done), by repeat (first | exact Drawn0.refl _ | apply Drawn0.step)⟩
          · rw [if_neg c6] at H
            have c6b0 : (a0 == 2) = false := beq_eq_false_iff_ne.mpr c6
            have c6b1 : (a0 != 2) = true := bne_iff_ne.mpr c6
            obtain rfl := Option.some.inj H
            go_wp2
            go_ret
            exact ⟨by first | rfl | (simp; done) | (simp [*]; done), by repeat (first | exact Drawn0.refl _ | apply Drawn0.step)⟩

end Go.Proofs.YtpnpmeogffodgaaDoor.Q
end
section
namespace Go.Proofs.YtpnpmeogffodgaaDoor.Num
def Pr (p : Nat) : Prop := 2 ≤ p ∧ ∀ d, d ∣ p → d = 1 ∨ d = p
theorem pr_of_trial (p b : Nat) (h2 : 2 ≤ p) (hb : p < b * b) (h : (List.range b).all (fun m => decide (m < 2) || p % m != 0) = true) : Pr p := by
  have key : ∀ m, 2 ≤ m → m < b → p % m ≠ 0 := by
    intro m hm hmb
    have := List.all_eq_true.1 h m (List.mem_range.2 hmb)
    simp at this
    omega
  refine ⟨h2, fun d ⟨e, he⟩ => ?_⟩
  have hd0 : d ≠ 0 := by rintro rfl; omega
  have he0 : e ≠ 0 := by rintro rfl; omega
  by_cases hd1 : d = 1
  · exact Or.inl hd1
  by_cases he1 : e = 1
  · right; rw [he, he1, Nat.mul_one]
  · exfalso
    by_cases hdb : d < b
    · exact key d (by omega) hdb (by rw [he]; exact Nat.mul_mod_right d e)
    · by_cases heb : e < b
      · exact key e (by omega) heb (by rw [he]; exact Nat.mul_mod_left d e)
      · have : b * b ≤ d * e := Nat.mul_le_mul (by omega) (by omega)
        omega
theorem pr97 : Pr 97 := pr_of_trial 97 10 (by decide) (by decide) (by decide +kernel)
theorem pr257 : Pr 257 := pr_of_trial 257 17 (by decide) (by decide) (by decide +kernel)
theorem pr12289 : Pr 12289 := pr_of_trial 12289 111 (by decide) (by decide) (by decide +kernel)
theorem pr998244353 : Pr 998244353 := pr_of_trial 998244353 31596 (by decide) (by decide) (by decide +kernel)
end Go.Proofs.YtpnpmeogffodgaaDoor.Num
namespace Go.Proofs.YtpnpmeogffodgaaDoor.Q
open Go.RowKit Go.Proofs.YtpnpmeogffodgaaDoorW.PrintWords Go.Proofs.YtpnpmeogffodgaaDoorW.PrintLast Go.Proofs.YtpnpmeogffodgaaDoorW.PrintMore
open Go.Proofs.YtpnpmeogffodgaaDoor.Num
set_option linter.unusedVariables false
set_option linter.unusedSimpArgs false
theorem wrapU {n : Nat} (h : n < 18446744073709551616) : IntKind.u64.wrap (n : Int) = n := by
  simp [IntKind.wrap, IntKind.bits, IntKind.signed]
  try omega
theorem wrapS {x : Int} (h0 : -9223372036854775808 ≤ x) (h1 : x ≤ 9223372036854775807) : wrap64 x = x := by unfold wrap64; omega
theorem tmodN (a p : Nat) : Int.tmod (a : Int) (p : Int) = ((a % p : Nat) : Int) := rfl
structure Fld (f : Int) (p : Nat) : Prop where
  lo : 0 ≤ f
  hi : f < 4
  eq : fp f = (p : Int)
  pr : Pr p
  big : p < 1073741824
theorem Fld.ne {f : Int} {p : Nat} (F : Fld f p) : ¬ (p : Int) = 0 := by have := F.pr.1; omega
theorem Fld.two {f : Int} {p : Nat} (F : Fld f p) : 2 ≤ p := F.pr.1
theorem Fld.md {f : Int} {p : Nat} (F : Fld f p) (a : Nat) : a % p < p := Nat.mod_lt _ (by have := F.two; omega)
theorem valid_yes {f : Int} {p : Nat} (F : Fld f p) : field_Valid.f f = some true := by
  unfold field_Valid.f
  rw [if_pos F.lo, decide_eq_true F.hi]
theorem rvalid_yes {f : Int} {p : Nat} (F : Fld f p) : attestorref01_Valid.f f = some true := by
  unfold attestorref01_Valid.f
  rw [if_pos F.lo, decide_eq_true (by have := F.hi; omega)]
theorem valid_no {f : Int} (h : ¬ (0 ≤ f ∧ f < 4)) : field_Valid.f f = some false := by
  unfold field_Valid.f
  by_cases h0 : f ≥ 0
  · rw [if_pos h0, decide_eq_false (by omega)]
  · rw [if_neg h0]
theorem rvalid_no {f : Int} (h : ¬ (0 ≤ f ∧ f < 4)) : attestorref01_Valid.f f = some false := by
  unfold attestorref01_Valid.f
  by_cases h0 : f ≥ 0
  · rw [if_pos h0, decide_eq_false (by omega)]
  · rw [if_neg h0]
theorem rp_eq (f : Int) : attestorref01_P.f f = some (fp f) := by
  unfold attestorref01_P.f fp
  repeat' split
  all_goals rfl
theorem mul_lt {p : Nat} (h : p < 1073741824) (a b : Nat) (ha : a < p) (hb : b < p) : a * b < 18446744073709551616 := by
  have : a * b ≤ 1073741824 * 1073741824 := Nat.mul_le_mul (by omega) (by omega)
  omega
theorem rmul_f {f : Int} {p : Nat} (F : Fld f p) (a b : Nat) : attestorref01_Mul.f f a b = some ((a * b % p : Nat) : Int) := by
  unfold attestorref01_Mul.f
  rw [rvalid_yes F, Option.bind_some, if_pos rfl, rp_eq, F.eq, Option.bind_some, if_neg F.ne, tmodN, tmodN, ← Int.natCast_mul, wrapU (mul_lt F.big _ _ (F.md a) (F.md b)), tmodN, ← Nat.mul_mod]
theorem radd_f {f : Int} {p : Nat} (F : Fld f p) (a b : Nat) : attestorref01_Add.f f a b = some (((a + b) % p : Nat) : Int) := by
  have h1 := F.md a
  have h2 := F.md b
  have h3 := F.big
  unfold attestorref01_Add.f
  rw [rvalid_yes F, Option.bind_some, if_pos rfl, rp_eq, F.eq, Option.bind_some, if_neg F.ne, tmodN, tmodN, ← Int.natCast_add, wrapU (by omega), tmodN, ← Nat.add_mod]
theorem rpow_f {f : Int} {p : Nat} (F : Fld f p) : ∀ (d k a n : Nat), n < 2 ^ d → n < 18446744073709551616 → d < k → attestorref01_Pow.f k f a n = some ((a ^ n % p : Nat) : Int)
  | 0, k + 1, a, n, hn, _, _ => by
    obtain rfl : n = 0 := by omega
    have hp := F.two
    unfold attestorref01_Pow.f
    rw [rvalid_yes F, Option.bind_some, if_pos rfl, if_pos (show ((0 : Nat) : Int) = 0 from rfl), Nat.pow_zero, Nat.mod_eq_of_lt (by omega)]; rfl
  | d + 1, k + 1, a, n, hn, hb, hk => by
    have hp := F.two
    unfold attestorref01_Pow.f
    by_cases h0 : n = 0
    · subst h0
      rw [rvalid_yes F, Option.bind_some, if_pos rfl, if_pos (show ((0 : Nat) : Int) = 0 from rfl), Nat.pow_zero, Nat.mod_eq_of_lt (by omega)]; rfl
    · have hh : n / 2 < 2 ^ d := by rw [Nat.pow_succ] at hn; omega
      have e2 : Int.tdiv (n : Int) 2 = ((n / 2 : Nat) : Int) := rfl
      have e3 : Int.tmod (n : Int) 2 = ((n % 2 : Nat) : Int) := rfl
      have e4 : (a ^ (n / 2) % p) * (a ^ (n / 2) % p) % p = a ^ (2 * (n / 2)) % p := by rw [← Nat.mul_mod, ← Nat.pow_add, Nat.two_mul]
      rw [rvalid_yes F, Option.bind_some, if_pos rfl, if_neg (by omega), e2, wrapU (by omega), rpow_f F d k a (n / 2) hh (by omega) (by omega), Option.bind_some, rmul_f F, Option.bind_some, e3, e4]
      by_cases h1 : n % 2 = 1
      · rw [if_pos (by omega), rmul_f F, Option.bind_some, Nat.mul_mod, Nat.mod_mod, ← Nat.mul_mod, ← Nat.pow_succ, show (2 * (n / 2)).succ = n by omega]
      · rw [if_neg (by omega), show 2 * (n / 2) = n by omega]
theorem rgen_eq (k : Nat) (f : Int) : attestorref01_Generator.f (k + 1) f = some (fg f) := by
  unfold attestorref01_Generator.f attestorref01_Generator.j0 fg
  by_cases h0 : f = 0 <;> by_cases h1 : f = 1 <;> by_cases h2 : f = 2 <;> by_cases h3 : f = 3 <;> simp_all
theorem rexp_eq (k : Nat) (f : Int) : attestorref01_Exponent.f (k + 1) f = some (fe f) := by
  unfold attestorref01_Exponent.f attestorref01_Exponent.j0 fe
  by_cases h0 : f = 0 <;> by_cases h1 : f = 1 <;> by_cases h2 : f = 2 <;> by_cases h3 : f = 3 <;> simp_all
end Go.Proofs.YtpnpmeogffodgaaDoor.Q
end
section
namespace Go.Proofs.YtpnpmeogffodgaaDoor.Q
open Go.RowKit Go.Proofs.YtpnpmeogffodgaaDoorW.PrintWords Go.Proofs.YtpnpmeogffodgaaDoorW.PrintLast Go.Proofs.YtpnpmeogffodgaaDoorW.PrintMore
open Go.Proofs.YtpnpmeogffodgaaDoor.Num
set_option linter.unusedVariables false
set_option linter.unusedSimpArgs false
structure S4 where
  a : Nat
  b : Nat
  c : Nat
  d : Nat
def S4.o (s : S4) : Int × Int × Int × Int := ((s.a : Int), (s.b : Int), (s.c : Int), (s.d : Int))
def S4.lt (s : S4) (p : Nat) : Prop := s.a < p ∧ s.b < p ∧ s.c < p ∧ s.d < p
def cst (p g n : Nat) : Nat := (g ^ n % p + 7) % p
def mixd (p a b c d : Nat) : S4 := ⟨(2 * a + 3 * b + c + d) % p, (a + 2 * b + 3 * c + d) % p, (a + b + 2 * c + 3 * d) % p, (3 * a + b + c + 2 * d) % p⟩
def rn (p g e n : Nat) (s : S4) : S4 := mixd p ((s.a + cst p g (n + 1)) ^ e % p) ((s.b + cst p g (n + 2)) ^ e % p) ((s.c + cst p g (n + 3)) ^ e % p) ((s.d + cst p g (n + 4)) ^ e % p)
def red (p : Nat) (s : S4) : S4 := ⟨s.a % p, s.b % p, s.c % p, s.d % p⟩
def prm (p g e : Nat) : Nat → S4 → S4
  | 0, s => s
  | n + 1, s => rn p g e (4 * n) (prm p g e n s)
theorem prm_succ (p g e n : Nat) (s : S4) : prm p g e (n + 1) s = rn p g e (4 * n) (prm p g e n s) := rfl
theorem bnd {α β : Type} {o : Option α} {v : α} {F : α → Option β} {r : Option β} (h : o = some v) (g : F v = r) : o.bind F = r := by subst h; exact g
structure Fd (f : Int) (p g e : Nat) : Prop where
  F : Fld f p
  gen : fg f = (g : Int)
  exp : fe f = (e : Int)
  e53 : e = 5 ∨ e = 3
  glt : g < p
  p96 : 96 < p
theorem fd_of {f : Int} (h0 : 0 ≤ f) (h1 : f < 4) : ∃ p g e, Fd f p g e := by
  rcases (show f = 0 ∨ f = 1 ∨ f = 2 ∨ f = 3 by omega) with rfl | rfl | rfl | rfl
  · exact ⟨97, 5, 5, ⟨by decide, by decide, rfl, pr97, by decide⟩, rfl, rfl, Or.inl rfl, by decide, by decide⟩
  · exact ⟨257, 3, 3, ⟨by decide, by decide, rfl, pr257, by decide⟩, rfl, rfl, Or.inr rfl, by decide, by decide⟩
  · exact ⟨12289, 11, 5, ⟨by decide, by decide, rfl, pr12289, by decide⟩, rfl, rfl, Or.inl rfl, by decide, by decide⟩
  · exact ⟨998244353, 3, 3, ⟨by decide, by decide, rfl, pr998244353, by decide⟩, rfl, rfl, Or.inr rfl, by decide, by decide⟩
theorem rn_lt {p : Nat} (hp : 0 < p) (g e n : Nat) (s : S4) : (rn p g e n s).lt p := ⟨Nat.mod_lt _ hp, Nat.mod_lt _ hp, Nat.mod_lt _ hp, Nat.mod_lt _ hp⟩
theorem red_lt {p : Nat} (hp : 0 < p) (s : S4) : (red p s).lt p := ⟨Nat.mod_lt _ hp, Nat.mod_lt _ hp, Nat.mod_lt _ hp, Nat.mod_lt _ hp⟩
theorem prm_lt {p : Nat} (hp : 0 < p) (g e : Nat) (s : S4) (hs : s.lt p) : ∀ n, (prm p g e n s).lt p
  | 0 => hs
  | n + 1 => rn_lt hp _ _ _ _
theorem red_id {p : Nat} {s : S4} (h : s.lt p) : red p s = s := by
  obtain ⟨a, b, c, d⟩ := s
  obtain ⟨h1, h2, h3, h4⟩ := h
  simp only [red, Nat.mod_eq_of_lt h1, Nat.mod_eq_of_lt h2, Nat.mod_eq_of_lt h3, Nat.mod_eq_of_lt h4]
theorem Fd.pos {f : Int} {p g e : Nat} (D : Fd f p g e) : 0 < p := by have := D.p96; omega
theorem pw5 (p x : Nat) : x * x % p * (x * x % p) % p * x % p = x ^ 5 % p := by
  rw [← Nat.mul_mod, Nat.mul_mod (x * x * (x * x) % p), Nat.mod_mod, ← Nat.mul_mod]
  congr 1
  simp only [Nat.pow_succ, Nat.pow_zero, Nat.one_mul, Nat.mul_assoc]
theorem pw3 (p x : Nat) : x * x % p * x % p = x ^ 3 % p := by
  rw [Nat.mul_mod (x * x % p), Nat.mod_mod, ← Nat.mul_mod]
  congr 1
  simp only [Nat.pow_succ, Nat.pow_zero, Nat.one_mul, Nat.mul_assoc]
theorem castM (a b : Nat) : (a : Int) * (b : Int) = ((a * b : Nat) : Int) := (Int.natCast_mul a b).symm
theorem castA (a b : Nat) : (a : Int) + (b : Int) = ((a + b : Nat) : Int) := (Int.natCast_add a b).symm
theorem power_f {f : Int} {p g e : Nat} (D : Fd f p g e) (x : Nat) (hx : x < p) : sponge_mixer_power.f p g ((e : Int) == 5) x = some ((x ^ e % p : Nat) : Int) := by
  unfold sponge_mixer_power.f
  have hb := D.F.big
  have h1 := mul_lt hb x x hx hx
  have m1 := D.F.md (x * x)
  have h3 := mul_lt hb _ x m1 hx
  rw [if_neg D.F.ne]
  rcases D.e53 with rfl | rfl
  · have h2 := mul_lt hb _ _ m1 m1
    have h4 := mul_lt hb _ x (D.F.md (x * x % p * (x * x % p))) hx
    rw [if_pos (by decide), castM, wrapU h1, tmodN, castM, wrapU h2, tmodN, castM, wrapU h4, tmodN, pw5]
  · rw [if_neg (by decide), castM, wrapU h1, tmodN, castM, wrapU h3, tmodN, pw3]
theorem kstep {f : Int} {p g e : Nat} (D : Fd f p g e) (n : Nat) : Int.tmod (IntKind.u64.wrap (((g ^ n % p : Nat) : Int) * (g : Int))) (p : Int) = ((g ^ (n + 1) % p : Nat) : Int) := by
  rw [castM, wrapU (mul_lt D.F.big _ _ (D.F.md _) D.glt), tmodN, Nat.pow_succ, Nat.mul_mod (g ^ n % p), Nat.mod_mod, ← Nat.mul_mod]
theorem astep {f : Int} {p g e : Nat} (D : Fd f p g e) (n s : Nat) (hs : s < p) : Int.tmod (IntKind.u64.wrap (IntKind.u64.wrap ((s : Int) + ((g ^ n % p : Nat) : Int)) + 7)) (p : Int) = (((s + cst p g n) % p : Nat) : Int) := by
  have h1 := D.F.md (g ^ n)
  have hb := D.F.big
  rw [castA, wrapU (by omega), show (7 : Int) = ((7 : Nat) : Int) from rfl, castA, wrapU (by omega), tmodN, cst, Nat.add_mod_mod, Nat.add_assoc]
theorem mstep {f : Int} {p g e : Nat} (D : Fd f p g e) (a b c d x y : Nat) (ha : a < p) (hb : b < p) (hc : c < p) (hd : d < p) (hx : x < p) (hy : y < p) :
    Int.tmod (IntKind.u64.wrap (IntKind.u64.wrap (IntKind.u64.wrap (IntKind.u64.wrap (IntKind.u64.wrap ((a : Int) + (b : Int)) + (c : Int)) + (d : Int)) + (x : Int)) + IntKind.u64.wrap (2 * (y : Int)))) (p : Int) = (((a + b + c + d + x + 2 * y) % p : Nat) : Int) := by
  have := D.F.big
  rw [castA, wrapU (by omega), castA, wrapU (by omega), castA, wrapU (by omega), castA, wrapU (by omega), show (2 : Int) = ((2 : Nat) : Int) from rfl, castM, wrapU (by omega), castA, wrapU (by omega), tmodN]
theorem v01 : wrap64 (0 + 1) = 1 := by decide +kernel
theorem v12 : wrap64 (1 + 1) = 2 := by decide +kernel
theorem v23 : wrap64 (2 + 1) = 3 := by decide +kernel
theorem v34 : wrap64 (3 + 1) = 4 := by decide +kernel
theorem mr_0 (k : Nat) (K p g : Int) (b : Bool) (s0 s1 s2 s3 : Int) (hp : ¬ p = 0) : sponge_mixer_round.l0 (k + 1) K 0 p g b s0 s1 s2 s3 = (sponge_mixer_power.f p g b (Int.tmod (IntKind.u64.wrap (IntKind.u64.wrap (s0 + Int.tmod (IntKind.u64.wrap (K * g)) p) + 7)) p)).bind fun v => sponge_mixer_round.l0 k (Int.tmod (IntKind.u64.wrap (K * g)) p) 1 p g b v s1 s2 s3 := by
  rw [sponge_mixer_round.l0, if_pos (by decide), if_neg hp, if_pos (by decide), v01]
  rfl
theorem md_0 (k : Nat) (p g : Int) (b : Bool) (s0 s1 s2 s3 : Int) (hp : ¬ p = 0) : sponge_mixer_reduced.l0 (k + 1) 0 p g b s0 s1 s2 s3 = sponge_mixer_reduced.l0 k 1 p g b (Int.tmod s0 p) s1 s2 s3 := by
  rw [sponge_mixer_reduced.l0, if_pos (by decide), if_pos (by decide), if_neg hp, v01]
  rfl
theorem mr_1 (k : Nat) (K p g : Int) (b : Bool) (s0 s1 s2 s3 : Int) (hp : ¬ p = 0) : sponge_mixer_round.l0 (k + 1) K 1 p g b s0 s1 s2 s3 = (sponge_mixer_power.f p g b (Int.tmod (IntKind.u64.wrap (IntKind.u64.wrap (s1 + Int.tmod (IntKind.u64.wrap (K * g)) p) + 7)) p)).bind fun v => sponge_mixer_round.l0 k (Int.tmod (IntKind.u64.wrap (K * g)) p) 2 p g b s0 v s2 s3 := by
  rw [sponge_mixer_round.l0, if_pos (by decide), if_neg hp, if_pos (by decide), v12]
  rfl
theorem md_1 (k : Nat) (p g : Int) (b : Bool) (s0 s1 s2 s3 : Int) (hp : ¬ p = 0) : sponge_mixer_reduced.l0 (k + 1) 1 p g b s0 s1 s2 s3 = sponge_mixer_reduced.l0 k 2 p g b s0 (Int.tmod s1 p) s2 s3 := by
  rw [sponge_mixer_reduced.l0, if_pos (by decide), if_pos (by decide), if_neg hp, v12]
  rfl
theorem mr_2 (k : Nat) (K p g : Int) (b : Bool) (s0 s1 s2 s3 : Int) (hp : ¬ p = 0) : sponge_mixer_round.l0 (k + 1) K 2 p g b s0 s1 s2 s3 = (sponge_mixer_power.f p g b (Int.tmod (IntKind.u64.wrap (IntKind.u64.wrap (s2 + Int.tmod (IntKind.u64.wrap (K * g)) p) + 7)) p)).bind fun v => sponge_mixer_round.l0 k (Int.tmod (IntKind.u64.wrap (K * g)) p) 3 p g b s0 s1 v s3 := by
  rw [sponge_mixer_round.l0, if_pos (by decide), if_neg hp, if_pos (by decide), v23]
  rfl
theorem md_2 (k : Nat) (p g : Int) (b : Bool) (s0 s1 s2 s3 : Int) (hp : ¬ p = 0) : sponge_mixer_reduced.l0 (k + 1) 2 p g b s0 s1 s2 s3 = sponge_mixer_reduced.l0 k 3 p g b s0 s1 (Int.tmod s2 p) s3 := by
  rw [sponge_mixer_reduced.l0, if_pos (by decide), if_pos (by decide), if_neg hp, v23]
  rfl
theorem mr_3 (k : Nat) (K p g : Int) (b : Bool) (s0 s1 s2 s3 : Int) (hp : ¬ p = 0) : sponge_mixer_round.l0 (k + 1) K 3 p g b s0 s1 s2 s3 = (sponge_mixer_power.f p g b (Int.tmod (IntKind.u64.wrap (IntKind.u64.wrap (s3 + Int.tmod (IntKind.u64.wrap (K * g)) p) + 7)) p)).bind fun v => sponge_mixer_round.l0 k (Int.tmod (IntKind.u64.wrap (K * g)) p) 4 p g b s0 s1 s2 v := by
  rw [sponge_mixer_round.l0, if_pos (by decide), if_neg hp, if_pos (by decide), v34]
  rfl
theorem md_3 (k : Nat) (p g : Int) (b : Bool) (s0 s1 s2 s3 : Int) (hp : ¬ p = 0) : sponge_mixer_reduced.l0 (k + 1) 3 p g b s0 s1 s2 s3 = sponge_mixer_reduced.l0 k 4 p g b s0 s1 s2 (Int.tmod s3 p) := by
  rw [sponge_mixer_reduced.l0, if_pos (by decide), if_pos (by decide), if_neg hp, v34]
  rfl
theorem round_f {f : Int} {p g e : Nat} (D : Fd f p g e) (k n : Nat) (hk : 4 < k) (s : S4) (hs : s.lt p) :
    sponge_mixer_round.f k p g ((e : Int) == 5) ((g ^ n % p : Nat) : Int) s.a s.b s.c s.d = some (((g ^ (n + 1 + 1 + 1 + 1) % p : Nat) : Int), (rn p g e n s).o) := by
  obtain ⟨h1, h2, h3, h4⟩ := hs
  obtain ⟨k, rfl⟩ : ∃ j, k = j + 1 + 1 + 1 + 1 + 1 := ⟨k - 5, by omega⟩
  unfold sponge_mixer_round.f
  rw [mr_0 _ _ _ _ _ _ _ _ _ D.F.ne, kstep D n, astep D _ _ h1]
  refine bnd (power_f D _ (D.F.md _)) ?_
  rw [mr_1 _ _ _ _ _ _ _ _ _ D.F.ne, kstep D (n + 1), astep D _ _ h2]
  refine bnd (power_f D _ (D.F.md _)) ?_
  rw [mr_2 _ _ _ _ _ _ _ _ _ D.F.ne, kstep D (n + 1 + 1), astep D _ _ h3]
  refine bnd (power_f D _ (D.F.md _)) ?_
  rw [mr_3 _ _ _ _ _ _ _ _ _ D.F.ne, kstep D (n + 1 + 1 + 1), astep D _ _ h4]
  refine bnd (power_f D _ (D.F.md _)) ?_
  rw [sponge_mixer_round.l0, if_neg (by decide), if_neg D.F.ne]
  rw [mstep D _ _ _ _ _ _ (D.F.md _) (D.F.md _) (D.F.md _) (D.F.md _) (D.F.md _) (D.F.md _), mstep D _ _ _ _ _ _ (D.F.md _) (D.F.md _) (D.F.md _) (D.F.md _) (D.F.md _) (D.F.md _), mstep D _ _ _ _ _ _ (D.F.md _) (D.F.md _) (D.F.md _) (D.F.md _) (D.F.md _) (D.F.md _), mstep D _ _ _ _ _ _ (D.F.md _) (D.F.md _) (D.F.md _) (D.F.md _) (D.F.md _) (D.F.md _)]
  simp only [← Nat.pow_mod, S4.o, rn, mixd]
  generalize (s.a + cst p g (n + 1)) ^ e % p = w
  generalize (s.b + cst p g (n + 2)) ^ e % p = x
  generalize (s.c + cst p g (n + 3)) ^ e % p = y
  generalize (s.d + cst p g (n + 4)) ^ e % p = z
  rw [show w + x + y + z + w + 2 * x = 2 * w + 3 * x + y + z by omega, show w + x + y + z + x + 2 * y = w + 2 * x + 3 * y + z by omega, show w + x + y + z + y + 2 * z = w + x + 2 * y + 3 * z by omega, show w + x + y + z + z + 2 * w = 3 * w + x + y + 2 * z by omega]
theorem perm_l0 {f : Int} {p g e : Nat} (D : Fd f p g e) (s : S4) (hs : s.lt p) : ∀ (m n k : Nat), n + m = 8 → 4 + m < k →
    sponge_mixer_perm.l0 k ((g ^ (4 * n) % p : Nat) : Int) n p g ((e : Int) == 5) (prm p g e n s).a (prm p g e n s).b (prm p g e n s).c (prm p g e n s).d = some (prm p g e 8 s).o := by
  intro m
  induction m with
  | zero =>
    intro n k hn hk
    obtain rfl : n = 8 := by omega
    obtain ⟨k, rfl⟩ : ∃ j, k = j + 1 := ⟨k - 1, by omega⟩
    rw [sponge_mixer_perm.l0, if_neg (by omega)]
    rfl
  | succ m ih =>
    intro n k hn hk
    obtain ⟨k, rfl⟩ : ∃ j, k = j + 1 := ⟨k - 1, by omega⟩
    rw [sponge_mixer_perm.l0, if_pos (by omega)]
    refine bnd (round_f D k (4 * n) (by omega) (prm p g e n s) (prm_lt D.pos g e s hs n)) ?_
    simp only [S4.o]
    rw [wrapS (x := (n : Int) + 1) (by omega) (by omega), show ((n : Int) + 1) = ((n + 1 : Nat) : Int) from rfl]
    exact ih (n + 1) k (by omega) (by omega)
theorem perm_f {f : Int} {p g e : Nat} (D : Fd f p g e) (k : Nat) (hk : 12 < k) (s : S4) (hs : s.lt p) : sponge_mixer_perm.f k p g ((e : Int) == 5) s.a s.b s.c s.d = some (prm p g e 8 s).o := by
  have one : (1 : Int) = ((g ^ (4 * 0) % p : Nat) : Int) := by rw [Nat.mul_zero, Nat.pow_zero, Nat.mod_eq_of_lt (by have := D.p96; omega)]; rfl
  unfold sponge_mixer_perm.f
  rw [one]
  exact perm_l0 D s hs 8 0 k rfl (by omega)
theorem in_f {f : Int} {p g e : Nat} (D : Fd f p g e) : sponge_in.f f = some ((p : Int), (g : Int), ((e : Int) == 5)) := by
  unfold sponge_in.f field_P.f field_Generator.f field_Exponent.f
  simp only [Option.bind_some, D.F.eq, D.gen, D.exp]
theorem red_f {f : Int} {p g e : Nat} (D : Fd f p g e) (k : Nat) (hk : 4 < k) (g' : Int) (b : Bool) (s : S4) : sponge_mixer_reduced.f k p g' b s.a s.b s.c s.d = some (red p s).o := by
  obtain ⟨k, rfl⟩ : ∃ j, k = j + 1 + 1 + 1 + 1 + 1 := ⟨k - 5, by omega⟩
  unfold sponge_mixer_reduced.f
  rw [md_0 _ _ _ _ _ _ _ _ D.F.ne, md_1 _ _ _ _ _ _ _ _ D.F.ne, md_2 _ _ _ _ _ _ _ _ D.F.ne, md_3 _ _ _ _ _ _ _ _ D.F.ne, sponge_mixer_reduced.l0, if_neg (by decide), tmodN, tmodN, tmodN, tmodN]
  rfl
theorem expo (r pl : Nat) (hr : r < 8) (hp : pl < 4) : IntKind.u64.wrap (wrap64 ((wrap64 ((wrap64 (4 * (r : Int))) + (pl : Int))) + 1)) = ((4 * r + (pl + 1) : Nat) : Int) := by
  rw [wrapS (x := 4 * (r : Int)) (by omega) (by omega), wrapS (x := 4 * (r : Int) + (pl : Int)) (by omega) (by omega), wrapS (x := 4 * (r : Int) + (pl : Int) + 1) (by omega) (by omega), show (4 * (r : Int) + (pl : Int) + 1) = ((4 * r + (pl + 1) : Nat) : Int) by omega, wrapU (by omega)]
end Go.Proofs.YtpnpmeogffodgaaDoor.Q
end
section
namespace Go.Proofs.YtpnpmeogffodgaaDoor.Q
open Go.RowKit Go.Proofs.YtpnpmeogffodgaaDoorW.PrintWords Go.Proofs.YtpnpmeogffodgaaDoorW.PrintLast Go.Proofs.YtpnpmeogffodgaaDoorW.PrintMore
open Go.Proofs.YtpnpmeogffodgaaDoor.Num
set_option linter.unusedVariables false
set_option linter.unusedSimpArgs false
end Go.Proofs.YtpnpmeogffodgaaDoor.Q
end
section
namespace Go.Proofs.YtpnpmeogffodgaaDoor.Q
open Go.RowKit Go.Proofs.YtpnpmeogffodgaaDoorW.PrintWords Go.Proofs.YtpnpmeogffodgaaDoorW.PrintLast Go.Proofs.YtpnpmeogffodgaaDoorW.PrintMore
open Go.Proofs.YtpnpmeogffodgaaDoor.Num
set_option linter.unusedVariables false
set_option linter.unusedSimpArgs false
theorem addp {f : Int} {p g e : Nat} (D : Fd f p g e) (t a : Nat) (ht : t < p) : Int.tmod (IntKind.u64.wrap ((t : Int) + ((a % p : Nat) : Int))) (p : Int) = (((t + a) % p : Nat) : Int) := by
  have h1 := D.F.md a
  have hb := D.F.big
  rw [castA, wrapU (by omega), tmodN, Nat.add_mod_mod]
theorem Node_f {f : Int} {p g e : Nat} (D : Fd f p g e) (k : Nat) (hk : 12 < k) (s : S4) : sponge_Node.f k f s.a s.b s.c s.d = some (((((prm p g e 8 (red p s)).a + s.a) % p : Nat) : Int), ((((prm p g e 8 (red p s)).b + s.b) % p : Nat) : Int)) := by
  have hl := prm_lt D.pos g e _ (red_lt D.pos s) 8
  unfold sponge_Node.f
  refine bnd (valid_yes D.F) ?_
  rw [if_pos rfl]
  refine bnd (in_f D) (bnd (red_f D k (by omega) _ _ s) (bnd (perm_f D k hk _ (red_lt D.pos s)) ?_))
  rw [if_neg D.F.ne]
  simp only [S4.o]
  rw [show (red p s).a = s.a % p from rfl, show (red p s).b = s.b % p from rfl, addp D _ _ hl.1, addp D _ _ hl.2.1]
end Go.Proofs.YtpnpmeogffodgaaDoor.Q
end
section
namespace Go.Proofs.YtpnpmeogffodgaaDoor.Q
open Go.RowKit Go.Proofs.YtpnpmeogffodgaaDoorW.PrintWords Go.Proofs.YtpnpmeogffodgaaDoorW.PrintLast Go.Proofs.YtpnpmeogffodgaaDoorW.PrintMore
attribute [local go_sem] max2_int min2_int max_two min_two max_three min_three max_four min_four run_store_fnV run_store_fnc run_store_nfn   -- for this text's walks alone
set_option linter.unusedVariables false
set_option linter.unusedSimpArgs false

/-! ### attestorref06_Constant: function 74 -/
def attestorref06_Constant.j0 : Nat → Int → Int → Int → Bool → Option (Int)
  | 0, _, _, _, _ => none
  | k + 1, x0, x1, x2, x25 => if x25 = true then (some 0) else ((attestorref01_Generator.f k x0).bind fun t243 => ((attestorref01_Pow.f k x0 t243 (IntKind.u64.wrap (wrap64 ((wrap64 ((wrap64 (4 * x1)) + x2)) + 1)))).bind fun t244 => ((attestorref01_Add.f x0 t244 7).bind fun t245 => (some t245))))
def attestorref06_Constant.f (k : Nat) (a0 : Int) (a1 : Int) (a2 : Int) : Option (Int) := (attestorref01_Valid.f a0).bind fun t242 => (if t242 = true then (if a1 < 0 then (attestorref06_Constant.j0 k a0 a1 a2 true) else (if a1 > 7 then (attestorref06_Constant.j0 k a0 a1 a2 true) else (if a2 < 0 then (attestorref06_Constant.j0 k a0 a1 a2 true) else (attestorref06_Constant.j0 k a0 a1 a2 (decide (a2 > 3)))))) else (attestorref06_Constant.j0 k a0 a1 a2 true))
theorem attestorref06_Constant.mono_l : ∀ k, (∀ y0 y1 y2 y3, LeO (attestorref06_Constant.j0 k y0 y1 y2 y3) (attestorref06_Constant.j0 (k + 1) y0 y1 y2 y3))
  | 0 => fun _ _ _ _ r h => by simp [attestorref06_Constant.j0] at h
  | k + 1 => by
    have ih0 := attestorref06_Constant.mono_l k
    · intro y0 y1 y2 y3
      unfold attestorref06_Constant.j0
      repeat' first
      | (with_reducible exact ih0 _ _ _ _)
      | (with_reducible exact attestorref01_Generator.mono _ _)
      | (with_reducible exact attestorref01_Pow.mono _ _ _ _)
      | (with_reducible exact LeO.refl _)
      | (with_reducible exact LeO.none _)
      | (with_reducible refine LeO.ite ?_ ?_)
      | (with_reducible refine LeO.bind ?_ (fun _ => ?_))
      | exact ih0 _ _ _ _
      | exact attestorref01_Generator.mono _ _
      | exact attestorref01_Pow.mono _ _ _ _
      | exact LeO.none _
      | refine LeO.ite ?_ ?_
      | refine LeO.bind ?_ (fun _ => ?_)
theorem attestorref06_Constant.mono : ∀ a0 a1 a2 k, LeO (attestorref06_Constant.f k a0 a1 a2) (attestorref06_Constant.f (k + 1) a0 a1 a2) := by
  intro a0 a1 a2 k
  have ih0 := attestorref06_Constant.mono_l k
  unfold attestorref06_Constant.f
  repeat' first
      | (with_reducible exact ih0 _ _ _ _)
      | (with_reducible exact attestorref01_Generator.mono _ _)
      | (with_reducible exact attestorref01_Pow.mono _ _ _ _)
      | (with_reducible exact LeO.refl _)
      | (with_reducible exact LeO.none _)
      | (with_reducible refine LeO.ite ?_ ?_)
      | (with_reducible refine LeO.bind ?_ (fun _ => ?_))
      | exact ih0 _ _ _ _
      | exact attestorref01_Generator.mono _ _
      | exact attestorref01_Pow.mono _ _ _ _
      | exact LeO.none _
      | refine LeO.ite ?_ ?_
      | refine LeO.bind ?_ (fun _ => ?_)
set_option maxHeartbeats 8000000 in
set_option maxRecDepth 100000 in
theorem attestorref06_Constant.calls (k : Nat) (a0 : Int) (a1 : Int) (a2 : Int) (r : Int) (w : World) (h : attestorref06_Constant.f k a0 a1 a2 = some r) :
    Calls Tryd.prog 74 #[.int .i64 a0, .int .i64 a1, .int .i64 a2] w fun e w' => e = .returned (.int .u64 r) ∧ Drawn0 w w' := by
  have H : ((attestorref01_Valid.f a0).bind fun t242 => (if t242 = true then (if a1 < 0 then (attestorref06_Constant.j0 k a0 a1 a2 true) else (if a1 > 7 then (attestorref06_Constant.j0 k a0 a1 a2 true) else (if a2 < 0 then (attestorref06_Constant.j0 k a0 a1 a2 true) else (attestorref06_Constant.j0 k a0 a1 a2 (decide (a2 > 3)))))) else (attestorref06_Constant.j0 k a0 a1 a2 true))) = some r := h
  clear h
  have HC4 := Aside0.mk H
  clear H
  go_enter Tryd.func74, Tryd.ntmps74
  go_upto_region 1 with (fail)
  go_cut [25] (fun v25 wc => ∃ (kq : Nat) (x25_3 : Bool), v25 = .bool x25_3 ∧ Aside0 (attestorref06_Constant.j0 kq a0 a1 a2 x25_3 = some r) ∧ Aside0 (kq ≤ k) ∧ Drawn0 w wc)
  case first =>
    have H := HC4.out
    clear HC4
    replace H := Option.bind_eq_some_iff.mp H
    obtain ⟨t242, A50, H⟩ := H
    replace H : (if t242 = true then (if a1 < 0 then (attestorref06_Constant.j0 k a0 a1 a2 true) else (if a1 > 7 then (attestorref06_Constant.j0 k a0 a1 a2 true) else (if a2 < 0 then (attestorref06_Constant.j0 k a0 a1 a2 true) else (attestorref06_Constant.j0 k a0 a1 a2 (decide (a2 > 3)))))) else (attestorref06_Constant.j0 k a0 a1 a2 true)) = some r := H
    have A5 := Aside0.mk A50
    clear A50
    by_cases c6 : t242 = true
    · subst c6
      have H1 : (if a1 < 0 then (attestorref06_Constant.j0 k a0 a1 a2 true) else (if a1 > 7 then (attestorref06_Constant.j0 k a0 a1 a2 true) else (if a2 < 0 then (attestorref06_Constant.j0 k a0 a1 a2 true) else (attestorref06_Constant.j0 k a0 a1 a2 (decide (a2 > 3)))))) = some r := by rw [if_pos rfl] at H; exact H
      clear H
      have H := H1
      clear H1
      by_cases c7 : a1 < 0
      · rw [if_pos c7] at H
        have c7b0 : decide (a1 < 0) = true := decide_eq_true c7
        clear c7
        (first | rw [c7b0] | (simp only [i64_w, i32_w]; rw [c7b0]) | skip)
        have H' := Aside0.mk H
        clear H
        go_wp2_with (first | ((with_reducible refine gate_callee (f := 42) rfl ?_); refine goesL_ (some 8) rfl rfl Tryd.func42 (by kernel_rfl) rfl #[.int .i64 a0] rfl (by (try simp only [List.map_toArray, List.map_cons, List.map_nil]); first | done | rfl | (simp only [List.length_drop, List.length_take]; rfl) | (go_simp; done) | (go_simp; rw [Int.tmod_eq_emod_of_nonneg (by omega)]; omega)) ?_; (with_reducible refine (attestorref01_Valid.calls a0 true _ A5.out).mono ?_); rintro e w' ⟨rfl, ⟨nd, rfl⟩⟩; refine ⟨_, rfl, ?_⟩))
        go_meet
        case rel => exact ⟨_, (true), (by first | rfl | (simp; done) | (simp [*]; done) | (simp; rfl) | (simp; decide +kernel)), H', ⟨by first | omega | exact Nat.le_refl _⟩, by repeat (first | exact Drawn0.refl _ | apply Drawn0.step)⟩
      · rw [if_neg c7] at H
        have c7b0 : decide (a1 < 0) = false := decide_eq_false c7
        clear c7
        (first | rw [c7b0] | (simp only [i64_w, i32_w]; rw [c7b0]) | skip)
        by_cases c8 : a1 > 7
        · rw [if_pos c8] at H
          have c8b0 : decide (7 < a1) = true := decide_eq_true c8
          clear c8
          have H' := Aside0.mk H
          clear H
          go_wp2_with (first | ((with_reducible refine gate_callee (f := 42) rfl ?_); refine goesL_ (some 8) rfl rfl Tryd.func42 (by kernel_rfl) rfl #[.int .i64 a0] rfl (by (try simp only [List.map_toArray, List.map_cons, List.map_nil]); first | done | rfl | (simp only [List.length_drop, List.length_take]; rfl) | (go_simp; done) | (go_simp; rw [Int.tmod_eq_emod_of_nonneg (by omega)]; omega)) ?_; (with_reducible refine (attestorref01_Valid.calls a0 true _ A5.out).mono ?_); rintro e w' ⟨rfl, ⟨nd, rfl⟩⟩; refine ⟨_, rfl, ?_⟩))
          go_meet
          case rel => exact ⟨_, (true), (by first | rfl | (simp; done) | (simp [*]; done) | (simp; rfl) | (simp; decide +kernel)), H', ⟨by first | omega | exact Nat.le_refl _⟩, by repeat (first | exact Drawn0.refl _ | apply Drawn0.step)⟩
        · rw [if_neg c8] at H
          have c8b0 : decide (7 < a1) = false := decide_eq_false c8
          clear c8
          by_cases c9 : a2 < 0
          · rw [if_pos c9] at H
            have c9b0 : decide (a2 < 0) = true := decide_eq_true c9
            clear c9
            have H' := Aside0.mk H
            clear H
            go_wp2_with (first | ((with_reducible refine gate_callee (f := 42) rfl ?_); refine goesL_ (some 8) rfl rfl Tryd.func42 (by kernel_rfl) rfl #[.int .i64 a0] rfl (by (try simp only [List.map_toArray, List.map_cons, List.map_nil]); first | done | rfl | (simp only [List.length_drop, List.length_take]; rfl) | (go_simp; done) | (go_simp; rw [Int.tmod_eq_emod_of_nonneg (by omega)]; omega)) ?_; (with_reducible refine (attestorref01_Valid.calls a0 true _ A5.out).mono ?_); rintro e w' ⟨rfl, ⟨nd, rfl⟩⟩; refine ⟨_, rfl, ?_⟩))
            go_meet
            case rel => exact ⟨_, (true), (by first | rfl | (simp; done) | (simp [*]; done) | (simp; rfl) | (simp; decide +kernel)), H', ⟨by first | omega | exact Nat.le_refl _⟩, by repeat (first | exact Drawn0.refl _ | apply Drawn0.step)⟩
          · rw [if_neg c9] at H
            have c9b0 : decide (a2 < 0) = false := decide_eq_false c9
            clear c9
            have H' := Aside0.mk H
            clear H
            go_wp2_with (first | ((with_reducible refine gate_callee (f := 42) rfl ?_); refine goesL_ (some 8) rfl rfl Tryd.func42 (by kernel_rfl) rfl #[.int .i64 a0] rfl (by (try simp only [List.map_toArray, List.map_cons, List.map_nil]); first | done | rfl | (simp only [List.length_drop, List.length_take]; rfl) | (go_simp; done) | (go_simp; rw [Int.tmod_eq_emod_of_nonneg (by omega)]; omega)) ?_; (with_reducible refine (attestorref01_Valid.calls a0 true _ A5.out).mono ?_); rintro e w' ⟨rfl, ⟨nd, rfl⟩⟩; refine ⟨_, rfl, ?_⟩))
            go_meet
            case rel => exact ⟨_, (decide (a2 > 3)), (by first | rfl | (simp; done) | (simp [*]; done) | (simp; rfl) | (simp; decide +kernel)), H', ⟨by first | omega | exact Nat.le_refl _⟩, by repeat (first | exact Drawn0.refl _ | apply Drawn0.step)⟩
    · replace c6 := Bool.eq_false_iff.mpr c6
      subst c6
      have H1 : (attestorref06_Constant.j0 k a0 a1 a2 true) = some r := by rw [if_neg (show ¬ (false = true) by decide)] at H; exact H
      clear H
      have H := H1
      clear H1
      have H' := Aside0.mk H
      clear H
      go_wp2_with (first | ((with_reducible refine gate_callee (f := 42) rfl ?_); refine goesL_ (some 8) rfl rfl Tryd.func42 (by kernel_rfl) rfl #[.int .i64 a0] rfl (by (try simp only [List.map_toArray, List.map_cons, List.map_nil]); first | done | rfl | (simp only [List.length_drop, List.length_take]; rfl) | (go_simp; done) | (go_simp; rw [Int.tmod_eq_emod_of_nonneg (by omega)]; omega)) ?_; (with_reducible refine (attestorref01_Valid.calls a0 false _ A5.out).mono ?_); rintro e w' ⟨rfl, ⟨nd, rfl⟩⟩; refine ⟨_, rfl, ?_⟩))
      go_meet
      case rel => exact ⟨_, (true), (by first | rfl | (simp; done) | (simp [*]; done) | (simp; rfl) | (simp; decide +kernel)), H', ⟨by first | omega | exact Nat.le_refl _⟩, by repeat (first | exact Drawn0.refl _ | apply Drawn0.step)⟩
  case rest =>
    clear HC4
    try clear p2
    try clear c4
    try clear c6
    try clear c7
    try clear c7b0
    try clear c8
    try clear c8b0
    try clear c9
    try clear c9b0
    obtain ⟨kq, x25_3, rfl, HA, HJ3, ⟨mc3, rfl⟩⟩ := hcut
    cases kq with
    | zero => exact absurd HA.out (by simp [attestorref06_Constant.j0])
    | succ kj3 =>
      have H := HA.out
      clear HA
      simp only [attestorref06_Constant.j0] at H
      by_cases c10 : x25_3 = true
      · subst c10
        have H1 : (some 0) = some r := by rw [if_pos rfl] at H; exact H
        clear H
        have H := H1
        clear H1
        obtain rfl := Option.some.inj H
        go_wp2
        go_ret
        exact ⟨by first | rfl | (simp; done) | (simp [*]; done), by repeat (first | exact Drawn0.refl _ | apply Drawn0.step)⟩
      · replace c10 := Bool.eq_false_iff.mpr c10
        subst c10
        have H1 : ((attestorref01_Generator.f kj3 a0).bind fun t243 => ((attestorref01_Pow.f kj3 a0 t243 (IntKind.u64.wrap (wrap64 ((wrap64 ((wrap64 (4 * a1)) + a2)) + 1)))).bind fun t244 => ((attestorref01_Add.f a0 t244 7).bind fun t245 => (some t245)))) = some r := by rw [if_neg (show ¬ (false = true) by decide)] at H; exact H
        clear H
        have H := H1
        clear H1
        replace H := Option.bind_eq_some_iff.mp H
        obtain ⟨t243, A110, H⟩ := H
        replace H : ((attestorref01_Pow.f kj3 a0 t243 (IntKind.u64.wrap (wrap64 ((wrap64 ((wrap64 (4 * a1)) + a2)) + 1)))).bind fun t244 => ((attestorref01_Add.f a0 t244 7).bind fun t245 => (some t245))) = some r := H
        have A11 := Aside0.mk A110
        clear A110
        replace H := Option.bind_eq_some_iff.mp H
        obtain ⟨t244, A120, H⟩ := H
        replace H : ((attestorref01_Add.f a0 t244 7).bind fun t245 => (some t245)) = some r := H
        have A12 := Aside0.mk A120
        clear A120
        replace H := Option.bind_eq_some_iff.mp H
        obtain ⟨t245, A130, H⟩ := H
        replace H : (some t245) = some r := H
        have A13 := Aside0.mk A130
        clear A130
        obtain rfl := Option.some.inj H
        go_wp2_with (first | ((with_reducible refine gate_callee (f := 79) rfl ?_); refine goesL_ (some 29) rfl rfl Tryd.func79 (by kernel_rfl) rfl #[.int .i64 a0] rfl (by (try simp only [List.map_toArray, List.map_cons, List.map_nil]); first | done | rfl | (simp only [List.length_drop, List.length_take]; rfl) | (go_simp; done) | (go_simp; rw [Int.tmod_eq_emod_of_nonneg (by omega)]; omega)) ?_; (with_reducible refine (attestorref01_Generator.calls kj3 a0 t243 _ A11.out).mono ?_); rintro e w' ⟨rfl, ⟨nd, rfl⟩⟩; refine ⟨_, rfl, ?_⟩) | ((with_reducible refine gate_callee (f := 75) rfl ?_); refine goesL_ (some 36) rfl rfl Tryd.func75 (by kernel_rfl) rfl #[.int .i64 a0, .int .u64 t243, .int .u64 (IntKind.u64.wrap (wrap64 ((wrap64 ((wrap64 (4 * a1)) + a2)) + 1)))] rfl (by (try simp only [List.map_toArray, List.map_cons, List.map_nil]); first | done | rfl | (simp only [List.length_drop, List.length_take]; rfl) | (go_simp; done) | (go_simp; rw [Int.tmod_eq_emod_of_nonneg (by omega)]; omega)) ?_; (with_reducible refine (attestorref01_Pow.calls kj3 a0 t243 (IntKind.u64.wrap (wrap64 ((wrap64 ((wrap64 (4 * a1)) + a2)) + 1))) t244 _ A12.out).mono ?_); rintro e w' ⟨rfl, ⟨nd, rfl⟩⟩; refine ⟨_, rfl, ?_⟩) | ((with_reducible refine gate_callee (f := 63) rfl ?_); refine goesL_ (some 37) rfl rfl Tryd.func63 (by kernel_rfl) rfl #[.int .i64 a0, .int .u64 t244, .int .u64 7] rfl (by (try simp only [List.map_toArray, List.map_cons, List.map_nil]); first | done | rfl | (simp only [List.length_drop, List.length_take]; rfl) | (go_simp; done) | (go_simp; rw [Int.tmod_eq_emod_of_nonneg (by omega)]; omega)) ?_; (with_reducible refine (attestorref01_Add.calls a0 t244 7 t245 _ A13.out).mono ?_); rintro e w' ⟨rfl, ⟨nd, rfl⟩⟩; refine ⟨_, rfl, ?_⟩))
        go_ret
        exact ⟨by first | rfl | (simp; done) | (simp [*]; done), by repeat (first | exact Drawn0.refl _ | apply Drawn0.step)⟩

end Go.Proofs.YtpnpmeogffodgaaDoor.Q
end
section
namespace Go.Proofs.YtpnpmeogffodgaaDoor.Q
open Go.RowKit Go.Proofs.YtpnpmeogffodgaaDoorW.PrintWords Go.Proofs.YtpnpmeogffodgaaDoorW.PrintLast Go.Proofs.YtpnpmeogffodgaaDoorW.PrintMore
attribute [local go_sem] max2_int min2_int max_two min_two max_three min_three max_four min_four run_store_fnV run_store_fnc run_store_nfn   -- for this text's walks alone
set_option linter.unusedVariables false
set_option linter.unusedSimpArgs false

/-! ### attestorref06_row: function 77 -/
def attestorref06_row.f (a0 : Int) : Option (Int × Int × Int × Int) := if 0 ≤ a0 then (if a0 = 0 then (some (2, 3, 1, 1)) else (if a0 = 1 then (some (1, 2, 3, 1)) else (if a0 = 2 then (some (1, 1, 2, 3)) else (if a0 = 3 then (some (3, 1, 1, 2)) else (none))))) else (none)
set_option maxHeartbeats 8000000 in
set_option maxRecDepth 100000 in
theorem attestorref06_row.calls (a0 : Int) (r1 : Int) (r2 : Int) (r3 : Int) (r4 : Int) (w : World) (h : attestorref06_row.f a0 = some (r1, r2, r3, r4)) :
  Calls Tryd.prog 77 #[.int .i64 a0] w fun e w' => e = .returned (.agg #[.int .u64 r1, .int .u64 r2, .int .u64 r3, .int .u64 r4]) ∧ Below w.heap.size w w' := by
 have hu80 := Tryd.underlying80
 have hu104 := Tryd.underlying104
 have HB := Aside0.mk (Below.refl w.heap.size w)
 have H : (if 0 ≤ a0 then (if a0 = 0 then (some (2, 3, 1, 1)) else (if a0 = 1 then (some (1, 2, 3, 1)) else (if a0 = 2 then (some (1, 1, 2, 3)) else (if a0 = 3 then (some (3, 1, 1, 2)) else (none))))) else (none)) = some (r1, r2, r3, r4) := h
 clear h
 by_cases c2 : 0 ≤ a0
 ·rw [if_pos c2] at H
  have c2b0 : decide (0 ≤ a0) = true := decide_eq_true c2
  clear c2
  by_cases c3 : a0 = 0
  ·rw [if_pos c3] at H
   subst c3
   simp only [Option.some.injEq, Prod.mk.injEq] at H
   obtain ⟨rfl, rfl, rfl, rfl⟩ := H
   go_enter Tryd.func77, Tryd.ntmps77
   go_wp2_with (first | ((with_reducible refine gate_dst (N := 2) rfl ?_); refine box_event ?hg (N := 2) ?hd (cs := #[.int .u64 0, .int .u64 0, .int .u64 0, .int .u64 0]) (t := 80) ?hr ?_; (case hd => rfl); (case hg => rfl); (case hr => first | (go_simp; done) | (go_simp; rfl)); intro g246 hg w4 hbox hb; have n0_ := Aside0.mk (below_step (by repeat (first | (with_reducible first | exact HB.out | apply below_alloc | apply pw_below_drewN | apply below_drew1) | exact HB.out)) hb); have n1_ := Aside0.mk (hbox); have n2_ := Aside0.mk ((by rw [hg]; exact (below_size (by repeat (first | (with_reducible first | exact HB.out | apply below_alloc | apply pw_below_drewN | apply below_drew1) | exact HB.out))) : w.heap.size ≤ g246)); have n3_ := Aside0.mk ((by rw [hg]; exact (below_size (by repeat (first | (with_reducible first | exact HB.out | apply below_alloc | apply pw_below_drewN | apply below_drew1) | exact HB.out))) : w.heap.size ≤ g246)); clear HB; have HB := n0_; have B246 := n1_; have GW246 := n2_; have GE246 := n3_; clear n0_ n1_ n2_ n3_; clear hb hbox hg) | ((with_reducible refine gate_dst (N := 3) rfl ?_); refine box_event ?hg (N := 3) ?hd (cs := #[.int .u64 0, .int .u64 0, .int .u64 0, .int .u64 0, .int .u64 0, .int .u64 0, .int .u64 0, .int .u64 0, .int .u64 0, .int .u64 0, .int .u64 0, .int .u64 0, .int .u64 0, .int .u64 0, .int .u64 0, .int .u64 0]) (t := 104) ?hr ?_; (case hd => rfl); (case hg => rfl); (case hr => first | (go_simp; done) | (go_simp; rfl)); intro g247 hg w5 hbox hb; have n0_ := Aside0.mk (blk_below (g := g246) (o := .cells #[.int .u64 0, .int .u64 0, .int .u64 0, .int .u64 0] 80 (0, 0)) (by exact B246.out) hb); have n1_ := Aside0.mk (below_step (by repeat (first | (with_reducible first | exact HB.out | apply below_alloc | apply pw_below_drewN | apply below_drew1 | refine below_set ?_ GE246.out) | exact HB.out)) hb); have n2_ := Aside0.mk (hbox); have n3_ := Aside0.mk ((by rw [hg]; exact (below_size (by repeat (first | (with_reducible first | exact HB.out | apply below_alloc | apply pw_below_drewN | apply below_drew1 | refine below_set ?_ GE246.out) | exact HB.out))) : w.heap.size ≤ g247)); have n4_ := Aside0.mk ((by rw [hg]; exact (below_size (by repeat (first | (with_reducible first | exact HB.out | apply below_alloc | apply pw_below_drewN | apply below_drew1 | refine below_set ?_ GE246.out) | exact HB.out))) : w.heap.size ≤ g247)); have n5_ := Aside0.mk ((by rw [hg]; exact Nat.ne_of_lt (blk_lt (g := g246) (o := .cells #[.int .u64 0, .int .u64 0, .int .u64 0, .int .u64 0] 80 (0, 0)) (by exact B246.out)) : g246 ≠ g247)); have n6_ := Aside0.mk ((by rw [hg]; exact Nat.ne_of_gt (blk_lt (g := g246) (o := .cells #[.int .u64 0, .int .u64 0, .int .u64 0, .int .u64 0] 80 (0, 0)) (by exact B246.out)) : g247 ≠ g246)); clear B246; clear HB; have B246 := n0_; have HB := n1_; have B247 := n2_; have GW247 := n3_; have GE247 := n4_; have NB246_247 := n5_; have NB247_246 := n6_; clear n0_ n1_ n2_ n3_ n4_ n5_ n6_; clear hb hbox hg; have hnb6 := NB247_246.out; have hnc6 := NB246_247.out; have hcz7_0 : w5.cell? ⟨g247, 0, none⟩ = some (.int .u64 0) := bq_ B247 0; have hcz7_1 : w5.cell? ⟨g247, 1, none⟩ = some (.int .u64 0) := bq_ B247 1; have hcz7_2 : w5.cell? ⟨g247, 2, none⟩ = some (.int .u64 0) := bq_ B247 2; have hcz7_3 : w5.cell? ⟨g247, 3, none⟩ = some (.int .u64 0) := bq_ B247 3; have hcz7_4 : w5.cell? ⟨g247, 4, none⟩ = some (.int .u64 0) := bq_ B247 4; have hcz7_5 : w5.cell? ⟨g247, 5, none⟩ = some (.int .u64 0) := bq_ B247 5; have hcz7_6 : w5.cell? ⟨g247, 6, none⟩ = some (.int .u64 0) := bq_ B247 6; have hcz7_7 : w5.cell? ⟨g247, 7, none⟩ = some (.int .u64 0) := bq_ B247 7; have hcz7_8 : w5.cell? ⟨g247, 8, none⟩ = some (.int .u64 0) := bq_ B247 8; have hcz7_9 : w5.cell? ⟨g247, 9, none⟩ = some (.int .u64 0) := bq_ B247 9; have hcz7_10 : w5.cell? ⟨g247, 10, none⟩ = some (.int .u64 0) := bq_ B247 10; have hcz7_11 : w5.cell? ⟨g247, 11, none⟩ = some (.int .u64 0) := bq_ B247 11; have hcz7_12 : w5.cell? ⟨g247, 12, none⟩ = some (.int .u64 0) := bq_ B247 12; have hcz7_13 : w5.cell? ⟨g247, 13, none⟩ = some (.int .u64 0) := bq_ B247 13; have hcz7_14 : w5.cell? ⟨g247, 14, none⟩ = some (.int .u64 0) := bq_ B247 14; have hcz7_15 : w5.cell? ⟨g247, 15, none⟩ = some (.int .u64 0) := bq_ B247 15; have hfz7_0 := blk_frozen B247.out 0; have hfz7_1 := blk_frozen B247.out 1; have hfz7_2 := blk_frozen B247.out 2; have hfz7_3 := blk_frozen B247.out 3; have hfz7_4 := blk_frozen B247.out 4; have hfz7_5 := blk_frozen B247.out 5; have hfz7_6 := blk_frozen B247.out 6; have hfz7_7 := blk_frozen B247.out 7; have hfz7_8 := blk_frozen B247.out 8; have hfz7_9 := blk_frozen B247.out 9; have hfz7_10 := blk_frozen B247.out 10; have hfz7_11 := blk_frozen B247.out 11; have hfz7_12 := blk_frozen B247.out 12; have hfz7_13 := blk_frozen B247.out 13; have hfz7_14 := blk_frozen B247.out 14; have hfz7_15 := blk_frozen B247.out 15; have hcz8_0 : w5.cell? ⟨g246, 0, none⟩ = some (.int .u64 0) := bq_ B246 0; have hcz8_1 : w5.cell? ⟨g246, 1, none⟩ = some (.int .u64 0) := bq_ B246 1; have hcz8_2 : w5.cell? ⟨g246, 2, none⟩ = some (.int .u64 0) := bq_ B246 2; have hcz8_3 : w5.cell? ⟨g246, 3, none⟩ = some (.int .u64 0) := bq_ B246 3; have hfz8_0 := blk_frozen B246.out 0; have hfz8_1 := blk_frozen B246.out 1; have hfz8_2 := blk_frozen B246.out 2; have hfz8_3 := blk_frozen B246.out 3))
   refine bodyPost_ret (results_cell_row rfl _ _ g246 80 #[.int .u64 2, .int .u64 3, .int .u64 1, .int .u64 1] (0, 0) _ rfl (by refine blk_put (cs := #[.int .u64 2, .int .u64 3, .int .u64 1, .int .u64 0]) ?_ 3 _ rfl; refine blk_put (cs := #[.int .u64 2, .int .u64 3, .int .u64 0, .int .u64 0]) ?_ 2 _ rfl; refine blk_put (cs := #[.int .u64 2, .int .u64 0, .int .u64 0, .int .u64 0]) ?_ 1 _ rfl; refine blk_put (cs := #[.int .u64 0, .int .u64 0, .int .u64 0, .int .u64 0]) ?_ 0 _ rfl; refine blk_far ?_ NB246_247.out _; refine blk_far ?_ NB246_247.out _; refine blk_far ?_ NB246_247.out _; refine blk_far ?_ NB246_247.out _; refine blk_far ?_ NB246_247.out _; refine blk_far ?_ NB246_247.out _; refine blk_far ?_ NB246_247.out _; refine blk_far ?_ NB246_247.out _; refine blk_far ?_ NB246_247.out _; refine blk_far ?_ NB246_247.out _; refine blk_far ?_ NB246_247.out _; refine blk_far ?_ NB246_247.out _; refine blk_far ?_ NB246_247.out _; refine blk_far ?_ NB246_247.out _; refine blk_far ?_ NB246_247.out _; refine blk_far ?_ NB246_247.out _; exact B246.out) Tryd.underlying80 rfl (by kernel_rfl)) rfl ?_
   exact ⟨by first | rfl | (simp [errW_none, errW_some] <;> rfl) | (simp [*, errW_none, errW_some] <;> rfl), by repeat (first | (with_reducible first | exact HB.out | apply below_alloc | apply pw_below_drewN | apply below_drew1 | refine below_set ?_ GE246.out | refine below_set ?_ GE247.out) | exact HB.out)⟩
  ·rw [if_neg c3] at H
   by_cases c9 : a0 = 1
   ·rw [if_pos c9] at H
    subst c9
    simp only [Option.some.injEq, Prod.mk.injEq] at H
    obtain ⟨rfl, rfl, rfl, rfl⟩ := H
    go_enter Tryd.func77, Tryd.ntmps77
    go_wp2_with (first | ((with_reducible refine gate_dst (N := 2) rfl ?_); refine box_event ?hg (N := 2) ?hd (cs := #[.int .u64 0, .int .u64 0, .int .u64 0, .int .u64 0]) (t := 80) ?hr ?_; (case hd => rfl); (case hg => rfl); (case hr => first | (go_simp; done) | (go_simp; rfl)); intro g246 hg w10 hbox hb; have n0_ := Aside0.mk (below_step (by repeat (first | (with_reducible first | exact HB.out | apply below_alloc | apply pw_below_drewN | apply below_drew1) | exact HB.out)) hb); have n1_ := Aside0.mk (hbox); have n2_ := Aside0.mk ((by rw [hg]; exact (below_size (by repeat (first | (with_reducible first | exact HB.out | apply below_alloc | apply pw_below_drewN | apply below_drew1) | exact HB.out))) : w.heap.size ≤ g246)); have n3_ := Aside0.mk ((by rw [hg]; exact (below_size (by repeat (first | (with_reducible first | exact HB.out | apply below_alloc | apply pw_below_drewN | apply below_drew1) | exact HB.out))) : w.heap.size ≤ g246)); clear HB; have HB := n0_; have B246 := n1_; have GW246 := n2_; have GE246 := n3_; clear n0_ n1_ n2_ n3_; clear hb hbox hg) | ((with_reducible refine gate_dst (N := 3) rfl ?_); refine box_event ?hg (N := 3) ?hd (cs := #[.int .u64 0, .int .u64 0, .int .u64 0, .int .u64 0, .int .u64 0, .int .u64 0, .int .u64 0, .int .u64 0, .int .u64 0, .int .u64 0, .int .u64 0, .int .u64 0, .int .u64 0, .int .u64 0, .int .u64 0, .int .u64 0]) (t := 104) ?hr ?_; (case hd => rfl); (case hg => rfl); (case hr => first | (go_simp; done) | (go_simp; rfl)); intro g247 hg w11 hbox hb; have n0_ := Aside0.mk (blk_below (g := g246) (o := .cells #[.int .u64 0, .int .u64 0, .int .u64 0, .int .u64 0] 80 (0, 0)) (by exact B246.out) hb); have n1_ := Aside0.mk (below_step (by repeat (first | (with_reducible first | exact HB.out | apply below_alloc | apply pw_below_drewN | apply below_drew1 | refine below_set ?_ GE246.out) | exact HB.out)) hb); have n2_ := Aside0.mk (hbox); have n3_ := Aside0.mk ((by rw [hg]; exact (below_size (by repeat (first | (with_reducible first | exact HB.out | apply below_alloc | apply pw_below_drewN | apply below_drew1 | refine below_set ?_ GE246.out) | exact HB.out))) : w.heap.size ≤ g247)); have n4_ := Aside0.mk ((by rw [hg]; exact (below_size (by repeat (first | (with_reducible first | exact HB.out | apply below_alloc | apply pw_below_drewN | apply below_drew1 | refine below_set ?_ GE246.out) | exact HB.out))) : w.heap.size ≤ g247)); have n5_ := Aside0.mk ((by rw [hg]; exact Nat.ne_of_lt (blk_lt (g := g246) (o := .cells #[.int .u64 0, .int .u64 0, .int .u64 0, .int .u64 0] 80 (0, 0)) (by exact B246.out)) : g246 ≠ g247)); have n6_ := Aside0.mk ((by rw [hg]; exact Nat.ne_of_gt (blk_lt (g := g246) (o := .cells #[.int .u64 0, .int .u64 0, .int .u64 0, .int .u64 0] 80 (0, 0)) (by exact B246.out)) : g247 ≠ g246)); clear B246; clear HB; have B246 := n0_; have HB := n1_; have B247 := n2_; have GW247 := n3_; have GE247 := n4_; have NB246_247 := n5_; have NB247_246 := n6_; clear n0_ n1_ n2_ n3_ n4_ n5_ n6_; clear hb hbox hg; have hnb12 := NB247_246.out; have hnc12 := NB246_247.out; have hcz13_0 : w11.cell? ⟨g247, 0, none⟩ = some (.int .u64 0) := bq_ B247 0; have hcz13_1 : w11.cell? ⟨g247, 1, none⟩ = some (.int .u64 0) := bq_ B247 1; have hcz13_2 : w11.cell? ⟨g247, 2, none⟩ = some (.int .u64 0) := bq_ B247 2; have hcz13_3 : w11.cell? ⟨g247, 3, none⟩ = some (.int .u64 0) := bq_ B247 3; have hcz13_4 : w11.cell? ⟨g247, 4, none⟩ = some (.int .u64 0) := bq_ B247 4; have hcz13_5 : w11.cell? ⟨g247, 5, none⟩ = some (.int .u64 0) := bq_ B247 5; have hcz13_6 : w11.cell? ⟨g247, 6, none⟩ = some (.int .u64 0) := bq_ B247 6; have hcz13_7 : w11.cell? ⟨g247, 7, none⟩ = some (.int .u64 0) := bq_ B247 7; have hcz13_8 : w11.cell? ⟨g247, 8, none⟩ = some (.int .u64 0) := bq_ B247 8; have hcz13_9 : w11.cell? ⟨g247, 9, none⟩ = some (.int .u64 0) := bq_ B247 9; have hcz13_10 : w11.cell? ⟨g247, 10, none⟩ = some (.int .u64 0) := bq_ B247 10; have hcz13_11 : w11.cell? ⟨g247, 11, none⟩ = some (.int .u64 0) := bq_ B247 11; have hcz13_12 : w11.cell? ⟨g247, 12, none⟩ = some (.int .u64 0) := bq_ B247 12; have hcz13_13 : w11.cell? ⟨g247, 13, none⟩ = some (.int .u64 0) := bq_ B247 13; have hcz13_14 : w11.cell? ⟨g247, 14, none⟩ = some (.int .u64 0) := bq_ B247 14; have hcz13_15 : w11.cell? ⟨g247, 15, none⟩ = some (.int .u64 0) := bq_ B247 15; have hfz13_0 := blk_frozen B247.out 0; have hfz13_1 := blk_frozen B247.out 1; have hfz13_2 := blk_frozen B247.out 2; have hfz13_3 := blk_frozen B247.out 3; have hfz13_4 := blk_frozen B247.out 4; have hfz13_5 := blk_frozen B247.out 5; have hfz13_6 := blk_frozen B247.out 6; have hfz13_7 := blk_frozen B247.out 7; have hfz13_8 := blk_frozen B247.out 8; have hfz13_9 := blk_frozen B247.out 9; have hfz13_10 := blk_frozen B247.out 10; have hfz13_11 := blk_frozen B247.out 11; have hfz13_12 := blk_frozen B247.out 12; have hfz13_13 := blk_frozen B247.out 13; have hfz13_14 := blk_frozen B247.out 14; have hfz13_15 := blk_frozen B247.out 15; have hcz14_0 : w11.cell? ⟨g246, 0, none⟩ = some (.int .u64 0) := bq_ B246 0; have hcz14_1 : w11.cell? ⟨g246, 1, none⟩ = some (.int .u64 0) := bq_ B246 1; have hcz14_2 : w11.cell? ⟨g246, 2, none⟩ = some (.int .u64 0) := bq_ B246 2; have hcz14_3 : w11.cell? ⟨g246, 3, none⟩ = some (.int .u64 0) := bq_ B246 3; have hfz14_0 := blk_frozen B246.out 0; have hfz14_1 := blk_frozen B246.out 1; have hfz14_2 := blk_frozen B246.out 2; have hfz14_3 := blk_frozen B246.out 3))
    refine bodyPost_ret (results_cell_row rfl _ _ g246 80 #[.int .u64 1, .int .u64 2, .int .u64 3, .int .u64 1] (0, 0) _ rfl (by refine blk_put (cs := #[.int .u64 1, .int .u64 2, .int .u64 3, .int .u64 0]) ?_ 3 _ rfl; refine blk_put (cs := #[.int .u64 1, .int .u64 2, .int .u64 0, .int .u64 0]) ?_ 2 _ rfl; refine blk_put (cs := #[.int .u64 1, .int .u64 0, .int .u64 0, .int .u64 0]) ?_ 1 _ rfl; refine blk_put (cs := #[.int .u64 0, .int .u64 0, .int .u64 0, .int .u64 0]) ?_ 0 _ rfl; refine blk_far ?_ NB246_247.out _; refine blk_far ?_ NB246_247.out _; refine blk_far ?_ NB246_247.out _; refine blk_far ?_ NB246_247.out _; refine blk_far ?_ NB246_247.out _; refine blk_far ?_ NB246_247.out _; refine blk_far ?_ NB246_247.out _; refine blk_far ?_ NB246_247.out _; refine blk_far ?_ NB246_247.out _; refine blk_far ?_ NB246_247.out _; refine blk_far ?_ NB246_247.out _; refine blk_far ?_ NB246_247.out _; refine blk_far ?_ NB246_247.out _; refine blk_far ?_ NB246_247.out _; refine blk_far ?_ NB246_247.out _; refine blk_far ?_ NB246_247.out _; exact B246.out) Tryd.underlying80 rfl (by kernel_rfl)) rfl ?_
    exact ⟨by first | rfl | (simp [errW_none, errW_some] <;> rfl) | (simp [*, errW_none, errW_some] <;> rfl), by repeat (first | (with_reducible first | exact HB.out | apply below_alloc | apply pw_below_drewN | apply below_drew1 | refine below_set ?_ GE246.out | refine below_set ?_ GE247.out) | exact HB.out)⟩
   ·rw [if_neg c9] at H
    by_cases c15 : a0 = 2
    ·rw [if_pos c15] at H
     subst c15
     simp only [Option.some.injEq, Prod.mk.injEq] at H
     obtain ⟨rfl, rfl, rfl, rfl⟩ := H
     go_enter Tryd.func77, Tryd.ntmps77
     go_wp2_with (first | ((with_reducible refine gate_dst (N := 2) rfl ?_); refine box_event ?hg (N := 2) ?hd (cs := #[.int .u64 0, .int .u64 0, .int .u64 0, .int .u64 0]) (t := 80) ?hr ?_; (case hd => rfl); (case hg => rfl); (case hr => first | (go_simp; done) | (go_simp; rfl)); intro g246 hg w16 hbox hb; have n0_ := Aside0.mk (below_step (by repeat (first | (with_reducible first | exact HB.out | apply below_alloc | apply pw_below_drewN | apply below_drew1) | exact HB.out)) hb); have n1_ := Aside0.mk (hbox); have n2_ := Aside0.mk ((by rw [hg]; exact (below_size (by repeat (first | (with_reducible first | exact HB.out | apply below_alloc | apply pw_below_drewN | apply below_drew1) | exact HB.out))) : w.heap.size ≤ g246)); have n3_ := Aside0.mk ((by rw [hg]; exact (below_size (by repeat (first | (with_reducible first | exact HB.out | apply below_alloc | apply pw_below_drewN | apply below_drew1) | exact HB.out))) : w.heap.size ≤ g246)); clear HB; have HB := n0_; have B246 := n1_; have GW246 := n2_; have GE246 := n3_; clear n0_ n1_ n2_ n3_; clear hb hbox hg) | ((with_reducible refine gate_dst (N := 3) rfl ?_); refine box_event ?hg (N := 3) ?hd (cs := #[.int .u64 0, .int .u64 0, .int .u64 0, .int .u64 0, .int .u64 0, .int .u64 0, .int .u64 0, .int .u64 0, .int .u64 0, .int .u64 0, .int .u64 0, .int .u64 0, .int .u64 0, .int .u64 0, .int .u64 0, .int .u64 0]) (t := 104) ?hr ?_; (case hd => rfl); (case hg => rfl); (case hr => first | (go_simp; done) | (go_simp; rfl)); intro g247 hg w17 hbox hb; have n0_ := Aside0.mk (blk_below (g := g246) (o := .cells #[.int .u64 0, .int .u64 0, .int .u64 0, .int .u64 0] 80 (0, 0)) (by exact B246.out) hb); have n1_ := Aside0.mk (below_step (by repeat (first | (with_reducible first | exact HB.out | apply below_alloc | apply pw_below_drewN | apply below_drew1 | refine below_set ?_ GE246.out) | exact HB.out)) hb); have n2_ := Aside0.mk (hbox); have n3_ := Aside0.mk ((by rw [hg]; exact (below_size (by repeat (first | (with_reducible first | exact HB.out | apply below_alloc | apply pw_below_drewN | apply below_drew1 | refine below_set ?_ GE246.out) | exact HB.out))) : w.heap.size ≤ g247)); have n4_ := Aside0.mk ((by rw [hg]; exact (below_size (by repeat (first | (with_reducible first | exact HB.out | apply below_alloc | apply pw_below_drewN | apply below_drew1 | refine below_set ?_ GE246.out) | exact HB.out))) : w.heap.size ≤ g247)); have n5_ := Aside0.mk ((by rw [hg]; exact Nat.ne_of_lt (blk_lt (g := g246) (o := .cells #[.int .u64 0, .int .u64 0, .int .u64 0, .int .u64 0] 80 (0, 0)) (by exact B246.out)) : g246 ≠ g247)); have n6_ := Aside0.mk ((by rw [hg]; exact Nat.ne_of_gt (blk_lt (g := g246) (o := .cells #[.int .u64 0, .int .u64 0, .int .u64 0, .int .u64 0] 80 (0, 0)) (by exact B246.out)) : g247 ≠ g246)); clear B246; clear HB; have B246 := n0_; have HB := n1_; have B247 := n2_; have GW247 := n3_; have GE247 := n4_; have NB246_247 := n5_; have NB247_246 := n6_; clear n0_ n1_ n2_ n3_ n4_ n5_ n6_; clear hb hbox hg; have hnb18 := NB247_246.out; have hnc18 := NB246_247.out; have hcz19_0 : w17.cell? ⟨g247, 0, none⟩ = some (.int .u64 0) := bq_ B247 0; have hcz19_1 : w17.cell? ⟨g247, 1, none⟩ = some (.int .u64 0) := bq_ B247 1; have hcz19_2 : w17.cell? ⟨g247, 2, none⟩ = some (.int .u64 0) := bq_ B247 2; have hcz19_3 : w17.cell? ⟨g247, 3, none⟩ = some (.int .u64 0) := bq_ B247 3; have hcz19_4 : w17.cell? ⟨g247, 4, none⟩ = some (.int .u64 0) := bq_ B247 4; have hcz19_5 : w17.cell? ⟨g247, 5, none⟩ = some (.int .u64 0) := bq_ B247 5; have hcz19_6 : w17.cell? ⟨g247, 6, none⟩ = some (.int .u64 0) := bq_ B247 6; have hcz19_7 : w17.cell? ⟨g247, 7, none⟩ = some (.int .u64 0) := bq_ B247 7; have hcz19_8 : w17.cell? ⟨g247, 8, none⟩ = some (.int .u64 0) := bq_ B247 8; have hcz19_9 : w17.cell? ⟨g247, 9, none⟩ = some (.int .u64 0) := bq_ B247 9; have hcz19_10 : w17.cell? ⟨g247, 10, none⟩ = some (.int .u64 0) := bq_ B247 10; have hcz19_11 : w17.cell? ⟨g247, 11, none⟩ = some (.int .u64 0) := bq_ B247 11; have hcz19_12 : w17.cell? ⟨g247, 12, none⟩ = some (.int .u64 0) := bq_ B247 12; have hcz19_13 : w17.cell? ⟨g247, 13, none⟩ = some (.int .u64 0) := bq_ B247 13; have hcz19_14 : w17.cell? ⟨g247, 14, none⟩ = some (.int .u64 0) := bq_ B247 14; have hcz19_15 : w17.cell? ⟨g247, 15, none⟩ = some (.int .u64 0) := bq_ B247 15; have hfz19_0 := blk_frozen B247.out 0; have hfz19_1 := blk_frozen B247.out 1; have hfz19_2 := blk_frozen B247.out 2; have hfz19_3 := blk_frozen B247.out 3; have hfz19_4 := blk_frozen B247.out 4; have hfz19_5 := blk_frozen B247.out 5; have hfz19_6 := blk_frozen B247.out 6; have hfz19_7 := blk_frozen B247.out 7; have hfz19_8 := blk_frozen B247.out 8; have hfz19_9 := blk_frozen B247.out 9; have hfz19_10 := blk_frozen B247.out 10; have hfz19_11 := blk_frozen B247.out 11; have hfz19_12 := blk_frozen B247.out 12; have hfz19_13 := blk_frozen B247.out 13; have hfz19_14 := blk_frozen B247.out 14; have hfz19_15 := blk_frozen B247.out 15; have hcz20_0 : w17.cell? ⟨g246, 0, none⟩ = some (.int .u64 0) := bq_ B246 0; have hcz20_1 : w17.cell? ⟨g246, 1, none⟩ = some (.int .u64 0) := bq_ B246 1; have hcz20_2 : w17.cell? ⟨g246, 2, none⟩ = some (.int .u64 0) := bq_ B246 2; have hcz20_3 : w17.cell? ⟨g246, 3, none⟩ = some (.int .u64 0) := bq_ B246 3; have hfz20_0 := blk_frozen B246.out 0; have hfz20_1 := blk_frozen B246.out 1; have hfz20_2 := blk_frozen B246.out 2; have hfz20_3 := blk_frozen B246.out 3))
     refine bodyPost_ret (results_cell_row rfl _ _ g246 80 #[.int .u64 1, .int .u64 1, .int .u64 2, .int .u64 3] (0, 0) _ rfl (by refine blk_put (cs := #[.int .u64 1, .int .u64 1, .int .u64 2, .int .u64 0]) ?_ 3 _ rfl; refine blk_put (cs := #[.int .u64 1, .int .u64 1, .int .u64 0, .int .u64 0]) ?_ 2 _ rfl; refine blk_put (cs := #[.int .u64 1, .int .u64 0, .int .u64 0, .int .u64 0]) ?_ 1 _ rfl; refine blk_put (cs := #[.int .u64 0, .int .u64 0, .int .u64 0, .int .u64 0]) ?_ 0 _ rfl; refine blk_far ?_ NB246_247.out _; refine blk_far ?_ NB246_247.out _; refine blk_far ?_ NB246_247.out _; refine blk_far ?_ NB246_247.out _; refine blk_far ?_ NB246_247.out _; refine blk_far ?_ NB246_247.out _; refine blk_far ?_ NB246_247.out _; refine blk_far ?_ NB246_247.out _; refine blk_far ?_ NB246_247.out _; refine blk_far ?_ NB246_247.out _; refine blk_far ?_ NB246_247.out _; refine blk_far ?_ NB246_247.out _; refine blk_far ?_ NB246_247.out _; refine blk_far ?_ NB246_247.out _; refine blk_far ?_ NB246_247.out _; refine blk_far ?_ NB246_247.out _; exact B246.out) Tryd.underlying80 rfl (by kernel_rfl)) rfl ?_
     exact ⟨by first | rfl | (simp [errW_none, errW_some] <;> rfl) | (simp [*, errW_none, errW_some] <;> rfl), by repeat (first | (with_reducible first | exact HB.out | apply below_alloc | apply pw_below_drewN | apply below_drew1 | refine below_set ?_ GE246.out | refine below_set ?_ GE247.out) | exact HB.out)⟩
    ·rw [if_neg c15] at H
     by_cases c21 : a0 = 3
     ·rw [if_pos c21] at H
      subst c21
      simp only [Option.some.injEq, Prod.mk.injEq] at H
      obtain ⟨rfl, rfl, rfl, rfl⟩ := H
      go_enter Tryd.func77, Tryd.ntmps77
      go_wp2_with (first | ((with_reducible refine gate_dst (N := 2) rfl ?_); refine box_event ?hg (N := 2) ?hd (cs := #[.int .u64 0, .int .u64 0, .int .u64 0, .int .u64 0]) (t := 80) ?hr ?_; (case hd => rfl); (case hg => rfl); (case hr => first | (go_simp; done) | (go_simp; rfl)); intro g246 hg w22 hbox hb; have n0_ := Aside0.mk (below_step (by repeat (first | (with_reducible first | exact HB.out | apply below_alloc | apply pw_below_drewN | apply below_drew1) | exact HB.out)) hb); have n1_ := Aside0.mk (hbox); have n2_ := Aside0.mk ((by rw [hg]; exact (below_size (by repeat (first | (with_reducible first | exact HB.out | apply below_alloc | apply pw_below_drewN | apply below_drew1) | exact HB.out))) : w.heap.size ≤ g246)); have n3_ := Aside0.mk ((by rw [hg]; exact (below_size (by repeat (first | (with_reducible first | exact HB.out | apply below_alloc | apply pw_below_drewN | apply below_drew1) | exact HB.out))) : w.heap.size ≤ g246)); clear HB; have HB := n0_; have B246 := n1_; have GW246 := n2_; have GE246 := n3_; clear n0_ n1_ n2_ n3_; clear hb hbox hg) | ((with_reducible refine gate_dst (N := 3) rfl ?_); refine box_event ?hg (N := 3) ?hd (cs := #[.int .u64 0, .int .u64 0, .int .u64 0, .int .u64 0, .int .u64 0, .int .u64 0, .int .u64 0, .int .u64 0, .int .u64 0, .int .u64 0, .int .u64 0, .int .u64 0, .int .u64 0, .int .u64 0, .int .u64 0, .int .u64 0]) (t := 104) ?hr ?_; (case hd => rfl); (case hg => rfl); (case hr => first | (go_simp; done) | (go_simp; rfl)); intro g247 hg w23 hbox hb; have n0_ := Aside0.mk (blk_below (g := g246) (o := .cells #[.int .u64 0, .int .u64 0, .int .u64 0, .int .u64 0] 80 (0, 0)) (by exact B246.out) hb); have n1_ := Aside0.mk (below_step (by repeat (first | (with_reducible first | exact HB.out | apply below_alloc | apply pw_below_drewN | apply below_drew1 | refine below_set ?_ GE246.out) | exact HB.out)) hb); have n2_ := Aside0.mk (hbox); have n3_ := Aside0.mk ((by rw [hg]; exact (below_size (by repeat (first | (with_reducible first | exact HB.out | apply below_alloc | apply pw_below_drewN | apply below_drew1 | refine below_set ?_ GE246.out) | exact HB.out))) : w.heap.size ≤ g247)); have n4_ := Aside0.mk ((by rw [hg]; exact (below_size (by repeat (first | (with_reducible first | exact HB.out | apply below_alloc | apply pw_below_drewN | apply below_drew1 | refine below_set ?_ GE246.out) | exact HB.out))) : w.heap.size ≤ g247)); have n5_ := Aside0.mk ((by rw [hg]; exact Nat.ne_of_lt (blk_lt (g := g246) (o := .cells #[.int .u64 0, .int .u64 0, .int .u64 0, .int .u64 0] 80 (0, 0)) (by exact B246.out)) : g246 ≠ g247)); have n6_ := Aside0.mk ((by rw [hg]; exact Nat.ne_of_gt (blk_lt (g := g246) (o := .cells #[.int .u64 0, .int .u64 0, .int .u64 0, .int .u64 0] 80 (0, 0)) (by exact B246.out)) : g247 ≠ g246)); clear B246; clear HB; have B246 := n0_; have HB := n1_; have B247 := n2_; have GW247 := n3_; have GE247 := n4_; have NB246_247 := n5_; have NB247_246 := n6_; clear n0_ n1_ n2_ n3_ n4_ n5_ n6_; clear hb hbox hg; have hnb24 := NB247_246.out; have hnc24 := NB246_247.out; have hcz25_0 : w23.cell? ⟨g247, 0, none⟩ = some (.int .u64 0) := bq_ B247 0; have hcz25_1 : w23.cell? ⟨g247, 1, none⟩ = some (.int .u64 0) := bq_ B247 1; have hcz25_2 : w23.cell? ⟨g247, 2, none⟩ = some (.int .u64 0) := bq_ B247 2; have hcz25_3 : w23.cell? ⟨g247, 3, none⟩ = some (.int .u64 0) := bq_ B247 3; have hcz25_4 : w23.cell? ⟨g247, 4, none⟩ = some (.int .u64 0) := bq_ B247 4; have hcz25_5 : w23.cell? ⟨g247, 5, none⟩ = some (.int .u64 0) := bq_ B247 5; have hcz25_6 : w23.cell? ⟨g247, 6, none⟩ = some (.int .u64 0) := bq_ B247 6; have hcz25_7 : w23.cell? ⟨g247, 7, none⟩ = some (.int .u64 0) := bq_ B247 7; have hcz25_8 : w23.cell? ⟨g247, 8, none⟩ = some (.int .u64 0) := bq_ B247 8; have hcz25_9 : w23.cell? ⟨g247, 9, none⟩ = some (.int .u64 0) := bq_ B247 9; have hcz25_10 : w23.cell? ⟨g247, 10, none⟩ = some (.int .u64 0) := bq_ B247 10; have hcz25_11 : w23.cell? ⟨g247, 11, none⟩ = some (.int .u64 0) := bq_ B247 11; have hcz25_12 : w23.cell? ⟨g247, 12, none⟩ = some (.int .u64 0) := bq_ B247 12; have hcz25_13 : w23.cell? ⟨g247, 13, none⟩ = some (.int .u64 0) := bq_ B247 13; have hcz25_14 : w23.cell? ⟨g247, 14, none⟩ = some (.int .u64 0) := bq_ B247 14; have hcz25_15 : w23.cell? ⟨g247, 15, none⟩ = some (.int .u64 0) := bq_ B247 15; have hfz25_0 := blk_frozen B247.out 0; have hfz25_1 := blk_frozen B247.out 1; have hfz25_2 := blk_frozen B247.out 2; have hfz25_3 := blk_frozen B247.out 3; have hfz25_4 := blk_frozen B247.out 4; have hfz25_5 := blk_frozen B247.out 5; have hfz25_6 := blk_frozen B247.out 6; have hfz25_7 := blk_frozen B247.out 7; have hfz25_8 := blk_frozen B247.out 8; have hfz25_9 := blk_frozen B247.out 9; have hfz25_10 := blk_frozen B247.out 10; have hfz25_11 := blk_frozen B247.out 11; have hfz25_12 := blk_frozen B247.out 12; have hfz25_13 := blk_frozen B247.out 13; have hfz25_14 := blk_frozen B247.out 14; have hfz25_15 := blk_frozen B247.out 15; have hcz26_0 : w23.cell? ⟨g246, 0, none⟩ = some (.int .u64 0) := bq_ B246 0; have hcz26_1 : w23.cell? ⟨g246, 1, none⟩ = some (.int .u64 0) := bq_ B246 1; have hcz26_2 : w23.cell? ⟨g246, 2, none⟩ = some (.int .u64 0) := bq_ B246 2; have hcz26_3 : w23.cell? ⟨g246, 3, none⟩ = some (.int .u64 0) := bq_ B246 3; have hfz26_0 := blk_frozen B246.out 0; have hfz26_1 := blk_frozen B246.out 1; have hfz26_2 := blk_frozen B246.out 2; have hfz26_3 := blk_frozen B246.out 3))
      refine bodyPost_ret (results_cell_row rfl _ _ g246 80 #[.int .u64 3, .int .u64 1, .int .u64 1, .int .u64 2] (0, 0) _ rfl (by refine blk_put (cs := #[.int .u64 3, .int .u64 1, .int .u64 1, .int .u64 0]) ?_ 3 _ rfl; refine blk_put (cs := #[.int .u64 3, .int .u64 1, .int .u64 0, .int .u64 0]) ?_ 2 _ rfl; refine blk_put (cs := #[.int .u64 3, .int .u64 0, .int .u64 0, .int .u64 0]) ?_ 1 _ rfl; refine blk_put (cs := #[.int .u64 0, .int .u64 0, .int .u64 0, .int .u64 0]) ?_ 0 _ rfl; refine blk_far ?_ NB246_247.out _; refine blk_far ?_ NB246_247.out _; refine blk_far ?_ NB246_247.out _; refine blk_far ?_ NB246_247.out _; refine blk_far ?_ NB246_247.out _; refine blk_far ?_ NB246_247.out _; refine blk_far ?_ NB246_247.out _; refine blk_far ?_ NB246_247.out _; refine blk_far ?_ NB246_247.out _; refine blk_far ?_ NB246_247.out _; refine blk_far ?_ NB246_247.out _; refine blk_far ?_ NB246_247.out _; refine blk_far ?_ NB246_247.out _; refine blk_far ?_ NB246_247.out _; refine blk_far ?_ NB246_247.out _; refine blk_far ?_ NB246_247.out _; exact B246.out) Tryd.underlying80 rfl (by kernel_rfl)) rfl ?_
      exact ⟨by first | rfl | (simp [errW_none, errW_some] <;> rfl) | (simp [*, errW_none, errW_some] <;> rfl), by repeat (first | (with_reducible first | exact HB.out | apply below_alloc | apply pw_below_drewN | apply below_drew1 | refine below_set ?_ GE246.out | refine below_set ?_ GE247.out) | exact HB.out)⟩
     ·rw [if_neg c21] at H
      exact absurd H (by simp)
 ·rw [if_neg c2] at H
  exact absurd H (by simp)

end Go.Proofs.YtpnpmeogffodgaaDoor.Q
end
