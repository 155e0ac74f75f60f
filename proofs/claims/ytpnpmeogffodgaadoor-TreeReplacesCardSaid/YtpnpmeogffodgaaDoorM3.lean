/- Several texts in one, in build order. What they prove, each by its own first remark:
tree.climb by hand (tree.climber hands back a closure that keeps its place and its digest): what it computes, and its contract.
tree.proper by hand (its closure takes the field's P by reference; slices.ContainsFunc and IndexFunc at digests): what it computes, and its contract.
tree.height by hand (with math/bits.TrailingZeros of a power of two): what it computes, and its contract.
'==' of arrays as one Bool.
Written by our own copy of a printing program (a twelfth state) out of the translation. Not trusted: Lean checks it.
The contract of an instance of slices.Clone: what it hands back reads as what came in, and is memory of its own. -/
import Derived.Test.YtpnpmeogffodgaaDoorM2
import Derived.ChangeKeysEq
import Derived.WalkSpells
section
namespace Go.Proofs.YtpnpmeogffodgaaDoor.Q
open Go.RowKit Go.Proofs.YtpnpmeogffodgaaDoorW.PrintWords Go.Proofs.YtpnpmeogffodgaaDoorW.PrintLast Go.Proofs.YtpnpmeogffodgaaDoorW.PrintMore
set_option linter.unusedVariables false
set_option linter.unusedSimpArgs false
/-- A walk's state: the memory that lay when the caller began lies as it lay; of what lay when the call began all but the blocks of S lies as it lay. -/
def Stp (w0 w : World) (S : Nat → Prop) (W : World) : Prop := Below w0.heap.size w0 W ∧ Kept w W S
theorem stp_b {w0 w W : World} {S : Nat → Prop} (h : Stp w0 w S W) : Below w0.heap.size w0 W := h.1
theorem stp_k {w0 w W : World} {S : Nat → Prop} (h : Stp w0 w S W) : Kept w W S := h.2
theorem stp_below {w0 w W W1 : World} {S : Nat → Prop} (h : Stp w0 w S W) (hb : Below W.heap.size W W1) : Stp w0 w S W1 := ⟨below_step h.1 hb, h.2.below hb⟩
theorem new_ne {W : World} {h g : Nat} {o : Obj} (hb : W.heap[h]? = some o) (hg : g = W.heap.size) : h ≠ g := by
  have := blk_lt hb
  omega
theorem below_ne {W : World} {h g : Nat} {o : Obj} (hb : W.heap[h]? = some o) (hg : W.heap.size ≤ g) : h ≠ g := by
  have := blk_lt hb
  omega
theorem stp_new {w0 w W : World} {S : Nat → Prop} {g : Nat} (h : Stp w0 w S W) (hg : g = W.heap.size) : w0.heap.size ≤ g ∧ (S g ∨ w.heap.size ≤ g) := by
  subst hg
  exact ⟨h.1.size, .inr h.2.1⟩
theorem stp_set {w0 w W : World} {S : Nat → Prop} {g : Nat} (h : Stp w0 w S W) (hg : w0.heap.size ≤ g ∧ (S g ∨ w.heap.size ≤ g)) (j : Nat) (u : Value) : Stp w0 w S (W.setCell ⟨g, j, none⟩ u) := ⟨below_set h.1 hg.1, h.2.setCell (p := ⟨g, j, none⟩) hg.2 u⟩
theorem stp_drewN {w0 w W : World} {S : Nat → Prop} (h : Stp w0 w S W) (n : Nat) : Stp w0 w S (W.drewN n) := ⟨pw_below_drewN h.1 n, h.2⟩
theorem stp_drew {w0 w W : World} {S : Nat → Prop} (h : Stp w0 w S W) : Stp w0 w S W.drew := ⟨h.1.drew, h.2⟩
theorem stp_trans {w0 w W W1 : World} {S S2 : Nat → Prop} (h : Stp w0 w S W) (k : Stp w0 W S2 W1) (hs : ∀ g, S2 g → S g ∨ w.heap.size ≤ g) : Stp w0 w S W1 := ⟨k.1, h.2.then_ k.2 hs⟩
set_option maxHeartbeats 2000000 in
set_option maxRecDepth 100000 in
/-- The closure, at an even place. -/
theorem climber1_even (f i x0 x1 p0 p1 n0 n1 : Int) (gf gi gx : Nat) (w0 w : World) (hG : GL w0) (hS : Below w0.heap.size w0 w) (bf : w.heap[gf]? = some (.cells #[.int .i64 f] 3 (0, 0))) (bi : w.heap[gi]? = some (.cells #[.int .i64 i] 3 (0, 0))) (bx : w.heap[gx]? = some (.cells #[.int .u64 x0, .int .u64 x1] 36 (0, 0)))
    (nfi : gf ≠ gi) (hgf : w0.heap.size ≤ gf) (hgi : w0.heap.size ≤ gi) (hgx : w0.heap.size ≤ gx) (ho : (Go.bits .and .i64 i 1 == 1) = false) (h : sponge_Node.f 200 f x0 x1 p0 p1 = some (n0, n1)) :
    Calls Tryd.prog 64 #[.agg #[.int .u64 p0, .int .u64 p1], .pointer (some ⟨gx, 0, none⟩), .pointer (some ⟨gi, 0, none⟩), .pointer (some ⟨gf, 0, none⟩)] w fun e w' => e = .returned (.tuple #[.agg #[.int .u64 x0, .int .u64 x1, .int .u64 p0, .int .u64 p1], .agg #[.int .u64 n0, .int .u64 n1]]) ∧ Stp w0 w (fun k => k = gi ∨ k = gx) w'
      ∧ w'.heap[gf]? = some (.cells #[.int .i64 f] 3 (0, 0)) ∧ w'.heap[gi]? = some (.cells #[.int .i64 (i / 2)] 3 (0, 0)) ∧ w'.heap[gx]? = some (.cells #[.int .u64 n0, .int .u64 n1] 36 (0, 0)) := by
  have hu36 := Tryd.underlying36
  have hu48 := Tryd.underlying48
  have HRG := Aside0.mk hG
  have A := Aside0.mk h
  have B_gf := Aside0.mk bf
  have B_gi := Aside0.mk bi
  have B_gx := Aside0.mk bx
  have nfx : gf ≠ gx := blk_ne bf bx (by decide)
  have nix : gi ≠ gx := blk_ne bi bx (by decide)
  have N_gf_gi := Aside0.mk nfi
  have N_gi_gf := Aside0.mk nfi.symm
  have N_gf_gx := Aside0.mk nfx
  have N_gx_gf := Aside0.mk nfx.symm
  have N_gi_gx := Aside0.mk nix
  have N_gx_gi := Aside0.mk nix.symm
  generalize hSS : (fun k : Nat => k = gi ∨ k = gx) = S
  have G_gi : Aside0 (w0.heap.size ≤ gi ∧ (S gi ∨ w.heap.size ≤ gi)) := ⟨hgi, .inl (hSS ▸ .inl rfl)⟩
  have G_gx : Aside0 (w0.heap.size ≤ gx ∧ (S gx ∨ w.heap.size ≤ gx)) := ⟨hgx, .inl (hSS ▸ .inr rfl)⟩
  have HS : Aside0 (Stp w0 w S w) := ⟨hS, Kept.refl _ _⟩
  clear h hG hS bf bi bx nfi nfx nix hgf hgi hgx hSS
  have c_gf_0 : w.cell? ⟨gf, 0, none⟩ = some (.int .i64 f) := (blk_cell B_gf.out 0).trans rfl
  have f_gf_0 := blk_frozen B_gf.out 0
  have c_gi_0 : w.cell? ⟨gi, 0, none⟩ = some (.int .i64 i) := (blk_cell B_gi.out 0).trans rfl
  have f_gi_0 := blk_frozen B_gi.out 0
  have c_gx_0 : w.cell? ⟨gx, 0, none⟩ = some (.int .u64 x0) := (blk_cell B_gx.out 0).trans rfl
  have f_gx_0 := blk_frozen B_gx.out 0
  have c_gx_1 : w.cell? ⟨gx, 1, none⟩ = some (.int .u64 x1) := (blk_cell B_gx.out 1).trans rfl
  have f_gx_1 := blk_frozen B_gx.out 1
  have n_gf_gi := N_gf_gi.out
  have n_gf_gx := N_gf_gx.out
  have n_gi_gf := N_gi_gf.out
  have n_gi_gx := N_gi_gx.out
  have n_gx_gf := N_gx_gf.out
  have n_gx_gi := N_gx_gi.out
  go_enter Tryd.func64, Tryd.ntmps64
  go_wp2_with (first
    | ((with_reducible refine gate_dst (N := 4) rfl ?_); refine box_event ?hg (N := 4) ?hd (cs := #[.int .u64 p0, .int .u64 p1]) (t := 36) ?hr ?_; (case hd => rfl); (case hg => rfl); (case hr => first | (go_simp; done) | (go_simp; rfl)); intro gp xg w1 y_ hb; clear c_gf_0 f_gf_0 c_gi_0 f_gi_0 c_gx_0 f_gx_0 c_gx_1 f_gx_1; have N_gf_gp := Aside0.mk (new_ne B_gf.out xg); have N_gp_gf := Aside0.mk N_gf_gp.out.symm; have N_gi_gp := Aside0.mk (new_ne B_gi.out xg); have N_gp_gi := Aside0.mk N_gi_gp.out.symm; have N_gx_gp := Aside0.mk (new_ne B_gx.out xg); have N_gp_gx := Aside0.mk N_gx_gp.out.symm; have G_gp := Aside0.mk (stp_new HS.out xg); replace B_gf := Aside0.mk (show w1.heap[gf]? = some (.cells #[.int .i64 f] 3 (0, 0)) from blk_below B_gf.out hb); replace B_gi := Aside0.mk (show w1.heap[gi]? = some (.cells #[.int .i64 i] 3 (0, 0)) from blk_below B_gi.out hb); replace B_gx := Aside0.mk (show w1.heap[gx]? = some (.cells #[.int .u64 x0, .int .u64 x1] 36 (0, 0)) from blk_below B_gx.out hb); replace HS := Aside0.mk (show Stp w0 w S w1 from stp_below HS.out hb); have B_gp := Aside0.mk y_; clear xg y_ hb; skip)
    | ((with_reducible refine gate_dst (N := 5) rfl ?_); refine box_event ?hg (N := 5) ?hd (cs := #[.int .u64 0, .int .u64 0, .int .u64 0, .int .u64 0]) (t := 48) ?hr ?_; (case hd => rfl); (case hg => rfl); (case hr => first | (go_simp; done) | (go_simp; rfl)); intro g5 xg w2 y_ hb; skip; have N_gf_g5 := Aside0.mk (new_ne B_gf.out xg); have N_g5_gf := Aside0.mk N_gf_g5.out.symm; have N_gi_g5 := Aside0.mk (new_ne B_gi.out xg); have N_g5_gi := Aside0.mk N_gi_g5.out.symm; have N_gx_g5 := Aside0.mk (new_ne B_gx.out xg); have N_g5_gx := Aside0.mk N_gx_g5.out.symm; have N_gp_g5 := Aside0.mk (new_ne B_gp.out xg); have N_g5_gp := Aside0.mk N_gp_g5.out.symm; have G_g5 := Aside0.mk (stp_new HS.out xg); replace B_gf := Aside0.mk (show w2.heap[gf]? = some (.cells #[.int .i64 f] 3 (0, 0)) from blk_below B_gf.out hb); replace B_gi := Aside0.mk (show w2.heap[gi]? = some (.cells #[.int .i64 i] 3 (0, 0)) from blk_below B_gi.out hb); replace B_gx := Aside0.mk (show w2.heap[gx]? = some (.cells #[.int .u64 x0, .int .u64 x1] 36 (0, 0)) from blk_below B_gx.out hb); replace B_gp := Aside0.mk (show w2.heap[gp]? = some (.cells #[.int .u64 p0, .int .u64 p1] 36 (0, 0)) from blk_below B_gp.out hb); replace HS := Aside0.mk (show Stp w0 w S w2 from stp_below HS.out hb); have B_g5 := Aside0.mk y_; clear xg y_ hb; skip)
    | ((with_reducible refine gate_dst (N := 6) rfl ?_); refine box_event ?hg (N := 6) ?hd (cs := #[.int .u64 0, .int .u64 0]) (t := 36) ?hr ?_; (case hd => rfl); (case hg => rfl); (case hr => first | (go_simp; done) | (go_simp; rfl)); intro g6 xg w3 y_ hb; skip; have N_gf_g6 := Aside0.mk (new_ne B_gf.out xg); have N_g6_gf := Aside0.mk N_gf_g6.out.symm; have N_gi_g6 := Aside0.mk (new_ne B_gi.out xg); have N_g6_gi := Aside0.mk N_gi_g6.out.symm; have N_gx_g6 := Aside0.mk (new_ne B_gx.out xg); have N_g6_gx := Aside0.mk N_gx_g6.out.symm; have N_gp_g6 := Aside0.mk (new_ne B_gp.out xg); have N_g6_gp := Aside0.mk N_gp_g6.out.symm; have N_g5_g6 := Aside0.mk (new_ne B_g5.out xg); have N_g6_g5 := Aside0.mk N_g5_g6.out.symm; have G_g6 := Aside0.mk (stp_new HS.out xg); replace B_gf := Aside0.mk (show w3.heap[gf]? = some (.cells #[.int .i64 f] 3 (0, 0)) from blk_below B_gf.out hb); replace B_gi := Aside0.mk (show w3.heap[gi]? = some (.cells #[.int .i64 i] 3 (0, 0)) from blk_below B_gi.out hb); replace B_gx := Aside0.mk (show w3.heap[gx]? = some (.cells #[.int .u64 x0, .int .u64 x1] 36 (0, 0)) from blk_below B_gx.out hb); replace B_gp := Aside0.mk (show w3.heap[gp]? = some (.cells #[.int .u64 p0, .int .u64 p1] 36 (0, 0)) from blk_below B_gp.out hb); replace B_g5 := Aside0.mk (show w3.heap[g5]? = some (.cells #[.int .u64 0, .int .u64 0, .int .u64 0, .int .u64 0] 48 (0, 0)) from blk_below B_g5.out hb); replace HS := Aside0.mk (show Stp w0 w S w3 from stp_below HS.out hb); have B_g6 := Aside0.mk y_; clear xg y_ hb; have c_gx_0 : w3.cell? ⟨gx, 0, none⟩ = some (.int .u64 x0) := (blk_cell B_gx.out 0).trans rfl; have f_gx_0 := blk_frozen B_gx.out 0; have c_gx_1 : w3.cell? ⟨gx, 1, none⟩ = some (.int .u64 x1) := (blk_cell B_gx.out 1).trans rfl; have f_gx_1 := blk_frozen B_gx.out 1; have c_gp_0 : w3.cell? ⟨gp, 0, none⟩ = some (.int .u64 p0) := (blk_cell B_gp.out 0).trans rfl; have f_gp_0 := blk_frozen B_gp.out 0; have c_gp_1 : w3.cell? ⟨gp, 1, none⟩ = some (.int .u64 p1) := (blk_cell B_gp.out 1).trans rfl; have f_gp_1 := blk_frozen B_gp.out 1)
    | ((with_reducible refine gate_dst (N := 7) rfl ?_); refine box_event ?hg (N := 7) ?hd (cs := #[.int .u64 0, .int .u64 0, .int .u64 0, .int .u64 0]) (t := 48) ?hr ?_; (case hd => rfl); (case hg => rfl); (case hr => first | (go_simp; done) | (go_simp; rfl)); intro g7 xg w4 y_ hb; clear c_gx_0 f_gx_0 c_gx_1 f_gx_1 c_gp_0 f_gp_0 c_gp_1 f_gp_1; have N_gf_g7 := Aside0.mk (new_ne B_gf.out xg); have N_g7_gf := Aside0.mk N_gf_g7.out.symm; have N_gi_g7 := Aside0.mk (new_ne B_gi.out xg); have N_g7_gi := Aside0.mk N_gi_g7.out.symm; have N_gx_g7 := Aside0.mk (new_ne B_gx.out xg); have N_g7_gx := Aside0.mk N_gx_g7.out.symm; have N_gp_g7 := Aside0.mk (new_ne B_gp.out xg); have N_g7_gp := Aside0.mk N_gp_g7.out.symm; have N_g5_g7 := Aside0.mk (new_ne B_g5.out xg); have N_g7_g5 := Aside0.mk N_g5_g7.out.symm; have N_g6_g7 := Aside0.mk (new_ne B_g6.out xg); have N_g7_g6 := Aside0.mk N_g6_g7.out.symm; have G_g7 := Aside0.mk (stp_new HS.out xg); replace B_gf := Aside0.mk (show w4.heap[gf]? = some (.cells #[.int .i64 f] 3 (0, 0)) from blk_below B_gf.out hb); replace B_gi := Aside0.mk (show w4.heap[gi]? = some (.cells #[.int .i64 i] 3 (0, 0)) from blk_below B_gi.out hb); replace B_gx := Aside0.mk (show w4.heap[gx]? = some (.cells #[.int .u64 x0, .int .u64 x1] 36 (0, 0)) from blk_below B_gx.out hb); replace B_gp := Aside0.mk (show w4.heap[gp]? = some (.cells #[.int .u64 p0, .int .u64 p1] 36 (0, 0)) from blk_below B_gp.out hb); replace B_g5 := Aside0.mk (show w4.heap[g5]? = some (.cells #[.int .u64 0, .int .u64 0, .int .u64 0, .int .u64 0] 48 (0, 0)) from blk_below B_g5.out hb); replace B_g6 := Aside0.mk (show w4.heap[g6]? = some (.cells #[.int .u64 0, .int .u64 0] 36 (0, 0)) from blk_below B_g6.out hb); replace HS := Aside0.mk (show Stp w0 w S w4 from stp_below HS.out hb); have B_g7 := Aside0.mk y_; clear xg y_ hb; have c_g7_0 : w4.cell? ⟨g7, 0, none⟩ = some (.int .u64 0) := (blk_cell B_g7.out 0).trans rfl; have f_g7_0 := blk_frozen B_g7.out 0; have c_g7_1 : w4.cell? ⟨g7, 1, none⟩ = some (.int .u64 0) := (blk_cell B_g7.out 1).trans rfl; have f_g7_1 := blk_frozen B_g7.out 1; have c_g7_2 : w4.cell? ⟨g7, 2, none⟩ = some (.int .u64 0) := (blk_cell B_g7.out 2).trans rfl; have f_g7_2 := blk_frozen B_g7.out 2; have c_g7_3 : w4.cell? ⟨g7, 3, none⟩ = some (.int .u64 0) := (blk_cell B_g7.out 3).trans rfl; have f_g7_3 := blk_frozen B_g7.out 3)
    | ((with_reducible refine gate_store (t := 48) (p := 7) rfl ?_); refine store_event (t := 48) (p := 7) (v := .tmp 10) (w1 := ((((w4.setCell ⟨g7, 0, none⟩ (.int .u64 x0)).setCell ⟨g7, 1, none⟩ (.int .u64 x1)).setCell ⟨g7, 2, none⟩ (.int .u64 p0)).setCell ⟨g7, 3, none⟩ (.int .u64 p1))) ?hg ?ho ?hn ?hr ?_; (case ho => rfl); (case hg => rfl); (case hn => rfl); (case hr => first | (go_simp; done) | (go_simp; rfl)); intro w5 hw; clear c_g7_0 f_g7_0 c_g7_1 f_g7_1 c_g7_2 f_g7_2 c_g7_3 f_g7_3; replace B_gf := Aside0.mk (show w5.heap[gf]? = some (.cells #[.int .i64 f] 3 (0, 0)) from (by rw [hw]; (repeat (refine blk_far ?_ N_gf_g7.out _)); exact B_gf.out)); replace B_gi := Aside0.mk (show w5.heap[gi]? = some (.cells #[.int .i64 i] 3 (0, 0)) from (by rw [hw]; (repeat (refine blk_far ?_ N_gi_g7.out _)); exact B_gi.out)); replace B_gx := Aside0.mk (show w5.heap[gx]? = some (.cells #[.int .u64 x0, .int .u64 x1] 36 (0, 0)) from (by rw [hw]; (repeat (refine blk_far ?_ N_gx_g7.out _)); exact B_gx.out)); replace B_gp := Aside0.mk (show w5.heap[gp]? = some (.cells #[.int .u64 p0, .int .u64 p1] 36 (0, 0)) from (by rw [hw]; (repeat (refine blk_far ?_ N_gp_g7.out _)); exact B_gp.out)); replace B_g5 := Aside0.mk (show w5.heap[g5]? = some (.cells #[.int .u64 0, .int .u64 0, .int .u64 0, .int .u64 0] 48 (0, 0)) from (by rw [hw]; (repeat (refine blk_far ?_ N_g5_g7.out _)); exact B_g5.out)); replace B_g6 := Aside0.mk (show w5.heap[g6]? = some (.cells #[.int .u64 0, .int .u64 0] 36 (0, 0)) from (by rw [hw]; (repeat (refine blk_far ?_ N_g6_g7.out _)); exact B_g6.out)); replace B_g7 := Aside0.mk (show w5.heap[g7]? = some (.cells #[.int .u64 x0, .int .u64 x1, .int .u64 p0, .int .u64 p1] 48 (0, 0)) from (by rw [hw]; exact (blk_put (cs := #[.int .u64 x0, .int .u64 x1, .int .u64 p0, .int .u64 0]) (blk_put (cs := #[.int .u64 x0, .int .u64 x1, .int .u64 0, .int .u64 0]) (blk_put (cs := #[.int .u64 x0, .int .u64 0, .int .u64 0, .int .u64 0]) (blk_put (cs := #[.int .u64 0, .int .u64 0, .int .u64 0, .int .u64 0]) B_g7.out 0 (.int .u64 x0) rfl) 1 (.int .u64 x1) rfl) 2 (.int .u64 p0) rfl) 3 (.int .u64 p1) rfl))); replace HS := Aside0.mk (show Stp w0 w S w5 from (by rw [hw]; exact (stp_set (stp_set (stp_set (stp_set HS.out G_g7.out 0 (.int .u64 x0)) G_g7.out 1 (.int .u64 x1)) G_g7.out 2 (.int .u64 p0)) G_g7.out 3 (.int .u64 p1)))); clear hw; have c_gi_0 : w5.cell? ⟨gi, 0, none⟩ = some (.int .i64 i) := (blk_cell B_gi.out 0).trans rfl; have f_gi_0 := blk_frozen B_gi.out 0)
    | ((with_reducible refine gate_store (t := 3) (p := 2) rfl ?_); refine store_event (t := 3) (p := 2) (v := .tmp 18) (w1 := (w5.setCell ⟨gi, 0, none⟩ (.int .i64 (i / 2)))) ?hg ?ho ?hn ?hr ?_; (case ho => rfl); (case hg => rfl); (case hn => rfl); (case hr => first | (go_simp; done) | (go_simp; rfl)); intro w7 hw; clear c_gi_0 f_gi_0; replace B_gf := Aside0.mk (show w7.heap[gf]? = some (.cells #[.int .i64 f] 3 (0, 0)) from (by rw [hw]; (repeat (refine blk_far ?_ N_gf_gi.out _)); exact B_gf.out)); replace B_gi := Aside0.mk (show w7.heap[gi]? = some (.cells #[.int .i64 (i / 2)] 3 (0, 0)) from (by rw [hw]; exact (blk_put (cs := #[.int .i64 i]) B_gi.out 0 (.int .i64 (i / 2)) rfl))); replace B_gx := Aside0.mk (show w7.heap[gx]? = some (.cells #[.int .u64 x0, .int .u64 x1] 36 (0, 0)) from (by rw [hw]; (repeat (refine blk_far ?_ N_gx_gi.out _)); exact B_gx.out)); replace B_gp := Aside0.mk (show w7.heap[gp]? = some (.cells #[.int .u64 p0, .int .u64 p1] 36 (0, 0)) from (by rw [hw]; (repeat (refine blk_far ?_ N_gp_gi.out _)); exact B_gp.out)); replace B_g5 := Aside0.mk (show w7.heap[g5]? = some (.cells #[.int .u64 0, .int .u64 0, .int .u64 0, .int .u64 0] 48 (0, 0)) from (by rw [hw]; (repeat (refine blk_far ?_ N_g5_gi.out _)); exact B_g5.out)); replace B_g6 := Aside0.mk (show w7.heap[g6]? = some (.cells #[.int .u64 0, .int .u64 0] 36 (0, 0)) from (by rw [hw]; (repeat (refine blk_far ?_ N_g6_gi.out _)); exact B_g6.out)); replace B_g7 := Aside0.mk (show w7.heap[g7]? = some (.cells #[.int .u64 x0, .int .u64 x1, .int .u64 p0, .int .u64 p1] 48 (0, 0)) from (by rw [hw]; (repeat (refine blk_far ?_ N_g7_gi.out _)); exact B_g7.out)); replace HS := Aside0.mk (show Stp w0 w S w7 from (by rw [hw]; exact (stp_set HS.out G_gi.out 0 (.int .i64 (i / 2))))); clear hw; have c_gf_0 : w7.cell? ⟨gf, 0, none⟩ = some (.int .i64 f) := (blk_cell B_gf.out 0).trans rfl; have f_gf_0 := blk_frozen B_gf.out 0; have c_g7_0 : w7.cell? ⟨g7, 0, none⟩ = some (.int .u64 x0) := (blk_cell B_g7.out 0).trans rfl; have f_g7_0 := blk_frozen B_g7.out 0; have c_g7_1 : w7.cell? ⟨g7, 1, none⟩ = some (.int .u64 x1) := (blk_cell B_g7.out 1).trans rfl; have f_g7_1 := blk_frozen B_g7.out 1; have c_g7_2 : w7.cell? ⟨g7, 2, none⟩ = some (.int .u64 p0) := (blk_cell B_g7.out 2).trans rfl; have f_g7_2 := blk_frozen B_g7.out 2; have c_g7_3 : w7.cell? ⟨g7, 3, none⟩ = some (.int .u64 p1) := (blk_cell B_g7.out 3).trans rfl; have f_g7_3 := blk_frozen B_g7.out 3)
    | (go_at_call 36; (with_reducible refine (sponge_Node.calls 200 f x0 x1 p0 p1 n0 n1 _ (GL.below HRG.out (stp_b HS.out)) A.out).mono ?_); rintro e w8 ⟨rfl, hb⟩; clear c_gf_0 f_gf_0 c_g7_0 f_g7_0 c_g7_1 f_g7_1 c_g7_2 f_g7_2 c_g7_3 f_g7_3; replace B_gf := Aside0.mk (show w8.heap[gf]? = some (.cells #[.int .i64 f] 3 (0, 0)) from blk_below B_gf.out hb); replace B_gi := Aside0.mk (show w8.heap[gi]? = some (.cells #[.int .i64 (i / 2)] 3 (0, 0)) from blk_below B_gi.out hb); replace B_gx := Aside0.mk (show w8.heap[gx]? = some (.cells #[.int .u64 x0, .int .u64 x1] 36 (0, 0)) from blk_below B_gx.out hb); replace B_gp := Aside0.mk (show w8.heap[gp]? = some (.cells #[.int .u64 p0, .int .u64 p1] 36 (0, 0)) from blk_below B_gp.out hb); replace B_g5 := Aside0.mk (show w8.heap[g5]? = some (.cells #[.int .u64 0, .int .u64 0, .int .u64 0, .int .u64 0] 48 (0, 0)) from blk_below B_g5.out hb); replace B_g6 := Aside0.mk (show w8.heap[g6]? = some (.cells #[.int .u64 0, .int .u64 0] 36 (0, 0)) from blk_below B_g6.out hb); replace B_g7 := Aside0.mk (show w8.heap[g7]? = some (.cells #[.int .u64 x0, .int .u64 x1, .int .u64 p0, .int .u64 p1] 48 (0, 0)) from blk_below B_g7.out hb); replace HS := Aside0.mk (show Stp w0 w S w8 from stp_below HS.out hb); clear hb; have c_gx_0 : w8.cell? ⟨gx, 0, none⟩ = some (.int .u64 x0) := (blk_cell B_gx.out 0).trans rfl; have f_gx_0 := blk_frozen B_gx.out 0; have c_gx_1 : w8.cell? ⟨gx, 1, none⟩ = some (.int .u64 x1) := (blk_cell B_gx.out 1).trans rfl; have f_gx_1 := blk_frozen B_gx.out 1)
    | ((with_reducible refine gate_store (t := 36) (p := 1) rfl ?_); refine store_event (t := 36) (p := 1) (v := .tmp 24) (w1 := ((w8.setCell ⟨gx, 0, none⟩ (.int .u64 n0)).setCell ⟨gx, 1, none⟩ (.int .u64 n1))) ?hg ?ho ?hn ?hr ?_; (case ho => rfl); (case hg => rfl); (case hn => rfl); (case hr => first | (go_simp; done) | (go_simp; rfl)); intro w9 hw; clear c_gx_0 f_gx_0 c_gx_1 f_gx_1; replace B_gf := Aside0.mk (show w9.heap[gf]? = some (.cells #[.int .i64 f] 3 (0, 0)) from (by rw [hw]; (repeat (refine blk_far ?_ N_gf_gx.out _)); exact B_gf.out)); replace B_gi := Aside0.mk (show w9.heap[gi]? = some (.cells #[.int .i64 (i / 2)] 3 (0, 0)) from (by rw [hw]; (repeat (refine blk_far ?_ N_gi_gx.out _)); exact B_gi.out)); replace B_gx := Aside0.mk (show w9.heap[gx]? = some (.cells #[.int .u64 n0, .int .u64 n1] 36 (0, 0)) from (by rw [hw]; exact (blk_put (cs := #[.int .u64 n0, .int .u64 x1]) (blk_put (cs := #[.int .u64 x0, .int .u64 x1]) B_gx.out 0 (.int .u64 n0) rfl) 1 (.int .u64 n1) rfl))); replace B_gp := Aside0.mk (show w9.heap[gp]? = some (.cells #[.int .u64 p0, .int .u64 p1] 36 (0, 0)) from (by rw [hw]; (repeat (refine blk_far ?_ N_gp_gx.out _)); exact B_gp.out)); replace B_g5 := Aside0.mk (show w9.heap[g5]? = some (.cells #[.int .u64 0, .int .u64 0, .int .u64 0, .int .u64 0] 48 (0, 0)) from (by rw [hw]; (repeat (refine blk_far ?_ N_g5_gx.out _)); exact B_g5.out)); replace B_g6 := Aside0.mk (show w9.heap[g6]? = some (.cells #[.int .u64 0, .int .u64 0] 36 (0, 0)) from (by rw [hw]; (repeat (refine blk_far ?_ N_g6_gx.out _)); exact B_g6.out)); replace B_g7 := Aside0.mk (show w9.heap[g7]? = some (.cells #[.int .u64 x0, .int .u64 x1, .int .u64 p0, .int .u64 p1] 48 (0, 0)) from (by rw [hw]; (repeat (refine blk_far ?_ N_g7_gx.out _)); exact B_g7.out)); replace HS := Aside0.mk (show Stp w0 w S w9 from (by rw [hw]; exact (stp_set (stp_set HS.out G_gx.out 0 (.int .u64 n0)) G_gx.out 1 (.int .u64 n1)))); clear hw; skip))
  skip
  replace B_gf : Aside0 (w9.drew.heap[gf]? = some (.cells #[.int .i64 f] 3 (0, 0))) := ⟨B_gf.out⟩
  replace B_gi : Aside0 (w9.drew.heap[gi]? = some (.cells #[.int .i64 (i / 2)] 3 (0, 0))) := ⟨B_gi.out⟩
  replace B_gx : Aside0 (w9.drew.heap[gx]? = some (.cells #[.int .u64 n0, .int .u64 n1] 36 (0, 0))) := ⟨B_gx.out⟩
  replace B_gp : Aside0 (w9.drew.heap[gp]? = some (.cells #[.int .u64 p0, .int .u64 p1] 36 (0, 0))) := ⟨B_gp.out⟩
  replace B_g5 : Aside0 (w9.drew.heap[g5]? = some (.cells #[.int .u64 0, .int .u64 0, .int .u64 0, .int .u64 0] 48 (0, 0))) := ⟨B_g5.out⟩
  replace B_g6 : Aside0 (w9.drew.heap[g6]? = some (.cells #[.int .u64 0, .int .u64 0] 36 (0, 0))) := ⟨B_g6.out⟩
  replace B_g7 : Aside0 (w9.drew.heap[g7]? = some (.cells #[.int .u64 x0, .int .u64 x1, .int .u64 p0, .int .u64 p1] 48 (0, 0))) := ⟨B_g7.out⟩
  replace HS : Aside0 (Stp w0 w S w9.drew) := ⟨stp_drew HS.out⟩
  refine start_ (n := 4) (S := fun w' => w'.cell? ⟨g7, 0, none⟩ = some (.int .u64 x0) ∧ w'.cell? ⟨g7, 1, none⟩ = some (.int .u64 x1) ∧ w'.cell? ⟨g7, 2, none⟩ = some (.int .u64 p0) ∧ w'.cell? ⟨g7, 3, none⟩ = some (.int .u64 p1) ∧ w'.cell? ⟨gx, 0, none⟩ = some (.int .u64 n0) ∧ w'.cell? ⟨gx, 1, none⟩ = some (.int .u64 n1)) (ds := []) #[false, false, false, false] (by kernel_rfl) rfl rfl ⟨(blk_cell B_g7.out 0).trans rfl, (blk_cell B_g7.out 1).trans rfl, (blk_cell B_g7.out 2).trans rfl, (blk_cell B_g7.out 3).trans rfl, (blk_cell B_gx.out 0).trans rfl, (blk_cell B_gx.out 1).trans rfl⟩ (fun hHeld => ?_)
  generalize w9.drew = w10 at B_gf B_gi B_gx B_gp B_g5 B_g6 B_g7 HS hHeld ⊢
  refine take_ (i := 0) (N := some 25) (v := ?_) (a' := ?_) #[true, false, false, false] rfl rfl (by kernel_rfl) (fun _ _ _ h => h) (Or.inl ⟨by rfl, ?_⟩) hHeld ?_ ?_
  rotate_left
  · rintro w' ⟨s0, s1, s2, s3, s4, s5⟩
    go_simp
    with_reducible rfl
  rotate_left
  · simp only [Act.put, List.setIfInBounds_toArray, List.set_cons_zero, List.set_cons_succ, i64_w, i32_w]
    rfl
  refine take_ (i := 1) (N := some 26) (v := ?_) (a' := ?_) #[true, true, false, false] rfl rfl (by kernel_rfl) (fun _ _ _ h => h) (Or.inl ⟨by rfl, ?_⟩) hHeld ?_ ?_
  rotate_left
  · rintro w' ⟨s0, s1, s2, s3, s4, s5⟩
    go_simp
    with_reducible rfl
  rotate_left
  · simp only [Act.put, List.setIfInBounds_toArray, List.set_cons_zero, List.set_cons_succ, i64_w, i32_w]
    rfl
  have n_gf_gi := N_gf_gi.out
  have n_gf_gx := N_gf_gx.out
  have n_gf_gp := N_gf_gp.out
  have n_gf_g5 := N_gf_g5.out
  have n_gf_g6 := N_gf_g6.out
  have n_gf_g7 := N_gf_g7.out
  have n_gi_gf := N_gi_gf.out
  have n_gi_gx := N_gi_gx.out
  have n_gi_gp := N_gi_gp.out
  have n_gi_g5 := N_gi_g5.out
  have n_gi_g6 := N_gi_g6.out
  have n_gi_g7 := N_gi_g7.out
  have n_gx_gf := N_gx_gf.out
  have n_gx_gi := N_gx_gi.out
  have n_gx_gp := N_gx_gp.out
  have n_gx_g5 := N_gx_g5.out
  have n_gx_g6 := N_gx_g6.out
  have n_gx_g7 := N_gx_g7.out
  have n_gp_gf := N_gp_gf.out
  have n_gp_gi := N_gp_gi.out
  have n_gp_gx := N_gp_gx.out
  have n_gp_g5 := N_gp_g5.out
  have n_gp_g6 := N_gp_g6.out
  have n_gp_g7 := N_gp_g7.out
  have n_g5_gf := N_g5_gf.out
  have n_g5_gi := N_g5_gi.out
  have n_g5_gx := N_g5_gx.out
  have n_g5_gp := N_g5_gp.out
  have n_g5_g6 := N_g5_g6.out
  have n_g5_g7 := N_g5_g7.out
  have n_g6_gf := N_g6_gf.out
  have n_g6_gi := N_g6_gi.out
  have n_g6_gx := N_g6_gx.out
  have n_g6_gp := N_g6_gp.out
  have n_g6_g5 := N_g6_g5.out
  have n_g6_g7 := N_g6_g7.out
  have n_g7_gf := N_g7_gf.out
  have n_g7_gi := N_g7_gi.out
  have n_g7_gx := N_g7_gx.out
  have n_g7_gp := N_g7_gp.out
  have n_g7_g5 := N_g7_g5.out
  have n_g7_g6 := N_g7_g6.out
  refine one_ (i := 2) (N := none) #[true, true, true, false] rfl rfl (by kernel_rfl) (by decide) (fun K hK => ?_)
  have c_g5_0 : w10.cell? ⟨g5, 0, none⟩ = some (.int .u64 0) := (blk_cell B_g5.out 0).trans rfl
  have f_g5_0 := blk_frozen B_g5.out 0
  have c_g5_1 : w10.cell? ⟨g5, 1, none⟩ = some (.int .u64 0) := (blk_cell B_g5.out 1).trans rfl
  have f_g5_1 := blk_frozen B_g5.out 1
  have c_g5_2 : w10.cell? ⟨g5, 2, none⟩ = some (.int .u64 0) := (blk_cell B_g5.out 2).trans rfl
  have f_g5_2 := blk_frozen B_g5.out 2
  have c_g5_3 : w10.cell? ⟨g5, 3, none⟩ = some (.int .u64 0) := (blk_cell B_g5.out 3).trans rfl
  have f_g5_3 := blk_frozen B_g5.out 3
  refine skip_ (w1 := ?_) (by rfl) rfl ?_ ?_
  rotate_left
  · go_simp
    rfl
  refine hK.out _ _ ⟨(cell_far (p := ⟨g5, _, none⟩) N_g7_g5.out _).trans ((cell_far (p := ⟨g5, _, none⟩) N_g7_g5.out _).trans ((cell_far (p := ⟨g5, _, none⟩) N_g7_g5.out _).trans ((cell_far (p := ⟨g5, _, none⟩) N_g7_g5.out _).trans (hHeld.1)))), (cell_far (p := ⟨g5, _, none⟩) N_g7_g5.out _).trans ((cell_far (p := ⟨g5, _, none⟩) N_g7_g5.out _).trans ((cell_far (p := ⟨g5, _, none⟩) N_g7_g5.out _).trans ((cell_far (p := ⟨g5, _, none⟩) N_g7_g5.out _).trans (hHeld.2.1)))), (cell_far (p := ⟨g5, _, none⟩) N_g7_g5.out _).trans ((cell_far (p := ⟨g5, _, none⟩) N_g7_g5.out _).trans ((cell_far (p := ⟨g5, _, none⟩) N_g7_g5.out _).trans ((cell_far (p := ⟨g5, _, none⟩) N_g7_g5.out _).trans (hHeld.2.2.1)))), (cell_far (p := ⟨g5, _, none⟩) N_g7_g5.out _).trans ((cell_far (p := ⟨g5, _, none⟩) N_g7_g5.out _).trans ((cell_far (p := ⟨g5, _, none⟩) N_g7_g5.out _).trans ((cell_far (p := ⟨g5, _, none⟩) N_g7_g5.out _).trans (hHeld.2.2.2.1)))), (cell_far (p := ⟨g5, _, none⟩) N_gx_g5.out _).trans ((cell_far (p := ⟨g5, _, none⟩) N_gx_g5.out _).trans ((cell_far (p := ⟨g5, _, none⟩) N_gx_g5.out _).trans ((cell_far (p := ⟨g5, _, none⟩) N_gx_g5.out _).trans (hHeld.2.2.2.2.1)))), (cell_far (p := ⟨g5, _, none⟩) N_gx_g5.out _).trans ((cell_far (p := ⟨g5, _, none⟩) N_gx_g5.out _).trans ((cell_far (p := ⟨g5, _, none⟩) N_gx_g5.out _).trans ((cell_far (p := ⟨g5, _, none⟩) N_gx_g5.out _).trans (hHeld.2.2.2.2.2))))⟩ (fun hHeld => ?_)
  refine one_ (i := 3) (N := none) #[true, true, true, true] rfl rfl (by kernel_rfl) (by decide) (fun K hK => ?_)
  have c_g6_0 : w10.cell? ⟨g6, 0, none⟩ = some (.int .u64 0) := (blk_cell B_g6.out 0).trans rfl
  have f_g6_0 := blk_frozen B_g6.out 0
  have c_g6_1 : w10.cell? ⟨g6, 1, none⟩ = some (.int .u64 0) := (blk_cell B_g6.out 1).trans rfl
  have f_g6_1 := blk_frozen B_g6.out 1
  refine skip_ (w1 := ?_) (by rfl) rfl ?_ ?_
  rotate_left
  · go_simp
    rfl
  refine hK.out _ _ ⟨(cell_far (p := ⟨g6, _, none⟩) N_g7_g6.out _).trans ((cell_far (p := ⟨g6, _, none⟩) N_g7_g6.out _).trans (hHeld.1)), (cell_far (p := ⟨g6, _, none⟩) N_g7_g6.out _).trans ((cell_far (p := ⟨g6, _, none⟩) N_g7_g6.out _).trans (hHeld.2.1)), (cell_far (p := ⟨g6, _, none⟩) N_g7_g6.out _).trans ((cell_far (p := ⟨g6, _, none⟩) N_g7_g6.out _).trans (hHeld.2.2.1)), (cell_far (p := ⟨g6, _, none⟩) N_g7_g6.out _).trans ((cell_far (p := ⟨g6, _, none⟩) N_g7_g6.out _).trans (hHeld.2.2.2.1)), (cell_far (p := ⟨g6, _, none⟩) N_gx_g6.out _).trans ((cell_far (p := ⟨g6, _, none⟩) N_gx_g6.out _).trans (hHeld.2.2.2.2.1)), (cell_far (p := ⟨g6, _, none⟩) N_gx_g6.out _).trans ((cell_far (p := ⟨g6, _, none⟩) N_gx_g6.out _).trans (hHeld.2.2.2.2.2))⟩ (fun hHeld => ?_)
  refine done_ (by kernel_rfl) ?_
  try go_wp2
  refine bodyPost_ret (results_list (rs := [.cell 5 48, .cell 6 36]) rfl (by simp) (.cell g5 48 #[.int .u64 x0, .int .u64 x1, .int .u64 p0, .int .u64 p1] (0, 0) _ rfl (blk_far (blk_far (blk_put (cs := #[.int .u64 x0, .int .u64 x1, .int .u64 p0, .int .u64 0]) (blk_put (cs := #[.int .u64 x0, .int .u64 x1, .int .u64 0, .int .u64 0]) (blk_put (cs := #[.int .u64 x0, .int .u64 0, .int .u64 0, .int .u64 0]) (blk_put (cs := #[.int .u64 0, .int .u64 0, .int .u64 0, .int .u64 0]) B_g5.out 0 (.int .u64 x0) rfl) 1 (.int .u64 x1) rfl) 2 (.int .u64 p0) rfl) 3 (.int .u64 p1) rfl) N_g5_g6.out _) N_g5_g6.out _) Tryd.underlying48 rfl (by kernel_rfl) (.cell g6 36 #[.int .u64 n0, .int .u64 n1] (0, 0) _ rfl (blk_put (cs := #[.int .u64 n0, .int .u64 0]) (blk_put (cs := #[.int .u64 0, .int .u64 0]) (blk_far (blk_far (blk_far (blk_far B_g6.out N_g6_g5.out _) N_g6_g5.out _) N_g6_g5.out _) N_g6_g5.out _) 0 (.int .u64 n0) rfl) 1 (.int .u64 n1) rfl) Tryd.underlying36 rfl (by kernel_rfl) .nil))) rfl ?_
  exact ⟨rfl, (stp_set (stp_set (stp_set (stp_set (stp_set (stp_set HS.out G_g5.out 0 (.int .u64 x0)) G_g5.out 1 (.int .u64 x1)) G_g5.out 2 (.int .u64 p0)) G_g5.out 3 (.int .u64 p1)) G_g6.out 0 (.int .u64 n0)) G_g6.out 1 (.int .u64 n1)), (blk_far (blk_far (blk_far (blk_far (blk_far (blk_far B_gf.out N_gf_g5.out _) N_gf_g5.out _) N_gf_g5.out _) N_gf_g5.out _) N_gf_g6.out _) N_gf_g6.out _), (blk_far (blk_far (blk_far (blk_far (blk_far (blk_far B_gi.out N_gi_g5.out _) N_gi_g5.out _) N_gi_g5.out _) N_gi_g5.out _) N_gi_g6.out _) N_gi_g6.out _), (blk_far (blk_far (blk_far (blk_far (blk_far (blk_far B_gx.out N_gx_g5.out _) N_gx_g5.out _) N_gx_g5.out _) N_gx_g5.out _) N_gx_g6.out _) N_gx_g6.out _)⟩
set_option maxHeartbeats 2000000 in
set_option maxRecDepth 100000 in
/-- The closure, at an odd place. -/
theorem climber1_odd (f i x0 x1 p0 p1 n0 n1 : Int) (gf gi gx : Nat) (w0 w : World) (hG : GL w0) (hS : Below w0.heap.size w0 w) (bf : w.heap[gf]? = some (.cells #[.int .i64 f] 3 (0, 0))) (bi : w.heap[gi]? = some (.cells #[.int .i64 i] 3 (0, 0))) (bx : w.heap[gx]? = some (.cells #[.int .u64 x0, .int .u64 x1] 36 (0, 0)))
    (nfi : gf ≠ gi) (hgf : w0.heap.size ≤ gf) (hgi : w0.heap.size ≤ gi) (hgx : w0.heap.size ≤ gx) (ho : (Go.bits .and .i64 i 1 == 1) = true) (h : sponge_Node.f 200 f p0 p1 x0 x1 = some (n0, n1)) :
    Calls Tryd.prog 64 #[.agg #[.int .u64 p0, .int .u64 p1], .pointer (some ⟨gx, 0, none⟩), .pointer (some ⟨gi, 0, none⟩), .pointer (some ⟨gf, 0, none⟩)] w fun e w' => e = .returned (.tuple #[.agg #[.int .u64 p0, .int .u64 p1, .int .u64 x0, .int .u64 x1], .agg #[.int .u64 n0, .int .u64 n1]]) ∧ Stp w0 w (fun k => k = gi ∨ k = gx) w'
      ∧ w'.heap[gf]? = some (.cells #[.int .i64 f] 3 (0, 0)) ∧ w'.heap[gi]? = some (.cells #[.int .i64 (i / 2)] 3 (0, 0)) ∧ w'.heap[gx]? = some (.cells #[.int .u64 n0, .int .u64 n1] 36 (0, 0)) := by
  have hu36 := Tryd.underlying36
  have hu48 := Tryd.underlying48
  have HRG := Aside0.mk hG
  have A := Aside0.mk h
  have B_gf := Aside0.mk bf
  have B_gi := Aside0.mk bi
  have B_gx := Aside0.mk bx
  have nfx : gf ≠ gx := blk_ne bf bx (by decide)
  have nix : gi ≠ gx := blk_ne bi bx (by decide)
  have N_gf_gi := Aside0.mk nfi
  have N_gi_gf := Aside0.mk nfi.symm
  have N_gf_gx := Aside0.mk nfx
  have N_gx_gf := Aside0.mk nfx.symm
  have N_gi_gx := Aside0.mk nix
  have N_gx_gi := Aside0.mk nix.symm
  generalize hSS : (fun k : Nat => k = gi ∨ k = gx) = S
  have G_gi : Aside0 (w0.heap.size ≤ gi ∧ (S gi ∨ w.heap.size ≤ gi)) := ⟨hgi, .inl (hSS ▸ .inl rfl)⟩
  have G_gx : Aside0 (w0.heap.size ≤ gx ∧ (S gx ∨ w.heap.size ≤ gx)) := ⟨hgx, .inl (hSS ▸ .inr rfl)⟩
  have HS : Aside0 (Stp w0 w S w) := ⟨hS, Kept.refl _ _⟩
  clear h hG hS bf bi bx nfi nfx nix hgf hgi hgx hSS
  have c_gf_0 : w.cell? ⟨gf, 0, none⟩ = some (.int .i64 f) := (blk_cell B_gf.out 0).trans rfl
  have f_gf_0 := blk_frozen B_gf.out 0
  have c_gi_0 : w.cell? ⟨gi, 0, none⟩ = some (.int .i64 i) := (blk_cell B_gi.out 0).trans rfl
  have f_gi_0 := blk_frozen B_gi.out 0
  have c_gx_0 : w.cell? ⟨gx, 0, none⟩ = some (.int .u64 x0) := (blk_cell B_gx.out 0).trans rfl
  have f_gx_0 := blk_frozen B_gx.out 0
  have c_gx_1 : w.cell? ⟨gx, 1, none⟩ = some (.int .u64 x1) := (blk_cell B_gx.out 1).trans rfl
  have f_gx_1 := blk_frozen B_gx.out 1
  have n_gf_gi := N_gf_gi.out
  have n_gf_gx := N_gf_gx.out
  have n_gi_gf := N_gi_gf.out
  have n_gi_gx := N_gi_gx.out
  have n_gx_gf := N_gx_gf.out
  have n_gx_gi := N_gx_gi.out
  go_enter Tryd.func64, Tryd.ntmps64
  go_wp2_with (first
    | ((with_reducible refine gate_dst (N := 4) rfl ?_); refine box_event ?hg (N := 4) ?hd (cs := #[.int .u64 p0, .int .u64 p1]) (t := 36) ?hr ?_; (case hd => rfl); (case hg => rfl); (case hr => first | (go_simp; done) | (go_simp; rfl)); intro gp xg w1 y_ hb; clear c_gf_0 f_gf_0 c_gi_0 f_gi_0 c_gx_0 f_gx_0 c_gx_1 f_gx_1; have N_gf_gp := Aside0.mk (new_ne B_gf.out xg); have N_gp_gf := Aside0.mk N_gf_gp.out.symm; have N_gi_gp := Aside0.mk (new_ne B_gi.out xg); have N_gp_gi := Aside0.mk N_gi_gp.out.symm; have N_gx_gp := Aside0.mk (new_ne B_gx.out xg); have N_gp_gx := Aside0.mk N_gx_gp.out.symm; have G_gp := Aside0.mk (stp_new HS.out xg); replace B_gf := Aside0.mk (show w1.heap[gf]? = some (.cells #[.int .i64 f] 3 (0, 0)) from blk_below B_gf.out hb); replace B_gi := Aside0.mk (show w1.heap[gi]? = some (.cells #[.int .i64 i] 3 (0, 0)) from blk_below B_gi.out hb); replace B_gx := Aside0.mk (show w1.heap[gx]? = some (.cells #[.int .u64 x0, .int .u64 x1] 36 (0, 0)) from blk_below B_gx.out hb); replace HS := Aside0.mk (show Stp w0 w S w1 from stp_below HS.out hb); have B_gp := Aside0.mk y_; clear xg y_ hb; skip)
    | ((with_reducible refine gate_dst (N := 5) rfl ?_); refine box_event ?hg (N := 5) ?hd (cs := #[.int .u64 0, .int .u64 0, .int .u64 0, .int .u64 0]) (t := 48) ?hr ?_; (case hd => rfl); (case hg => rfl); (case hr => first | (go_simp; done) | (go_simp; rfl)); intro g5 xg w2 y_ hb; skip; have N_gf_g5 := Aside0.mk (new_ne B_gf.out xg); have N_g5_gf := Aside0.mk N_gf_g5.out.symm; have N_gi_g5 := Aside0.mk (new_ne B_gi.out xg); have N_g5_gi := Aside0.mk N_gi_g5.out.symm; have N_gx_g5 := Aside0.mk (new_ne B_gx.out xg); have N_g5_gx := Aside0.mk N_gx_g5.out.symm; have N_gp_g5 := Aside0.mk (new_ne B_gp.out xg); have N_g5_gp := Aside0.mk N_gp_g5.out.symm; have G_g5 := Aside0.mk (stp_new HS.out xg); replace B_gf := Aside0.mk (show w2.heap[gf]? = some (.cells #[.int .i64 f] 3 (0, 0)) from blk_below B_gf.out hb); replace B_gi := Aside0.mk (show w2.heap[gi]? = some (.cells #[.int .i64 i] 3 (0, 0)) from blk_below B_gi.out hb); replace B_gx := Aside0.mk (show w2.heap[gx]? = some (.cells #[.int .u64 x0, .int .u64 x1] 36 (0, 0)) from blk_below B_gx.out hb); replace B_gp := Aside0.mk (show w2.heap[gp]? = some (.cells #[.int .u64 p0, .int .u64 p1] 36 (0, 0)) from blk_below B_gp.out hb); replace HS := Aside0.mk (show Stp w0 w S w2 from stp_below HS.out hb); have B_g5 := Aside0.mk y_; clear xg y_ hb; skip)
    | ((with_reducible refine gate_dst (N := 6) rfl ?_); refine box_event ?hg (N := 6) ?hd (cs := #[.int .u64 0, .int .u64 0]) (t := 36) ?hr ?_; (case hd => rfl); (case hg => rfl); (case hr => first | (go_simp; done) | (go_simp; rfl)); intro g6 xg w3 y_ hb; skip; have N_gf_g6 := Aside0.mk (new_ne B_gf.out xg); have N_g6_gf := Aside0.mk N_gf_g6.out.symm; have N_gi_g6 := Aside0.mk (new_ne B_gi.out xg); have N_g6_gi := Aside0.mk N_gi_g6.out.symm; have N_gx_g6 := Aside0.mk (new_ne B_gx.out xg); have N_g6_gx := Aside0.mk N_gx_g6.out.symm; have N_gp_g6 := Aside0.mk (new_ne B_gp.out xg); have N_g6_gp := Aside0.mk N_gp_g6.out.symm; have N_g5_g6 := Aside0.mk (new_ne B_g5.out xg); have N_g6_g5 := Aside0.mk N_g5_g6.out.symm; have G_g6 := Aside0.mk (stp_new HS.out xg); replace B_gf := Aside0.mk (show w3.heap[gf]? = some (.cells #[.int .i64 f] 3 (0, 0)) from blk_below B_gf.out hb); replace B_gi := Aside0.mk (show w3.heap[gi]? = some (.cells #[.int .i64 i] 3 (0, 0)) from blk_below B_gi.out hb); replace B_gx := Aside0.mk (show w3.heap[gx]? = some (.cells #[.int .u64 x0, .int .u64 x1] 36 (0, 0)) from blk_below B_gx.out hb); replace B_gp := Aside0.mk (show w3.heap[gp]? = some (.cells #[.int .u64 p0, .int .u64 p1] 36 (0, 0)) from blk_below B_gp.out hb); replace B_g5 := Aside0.mk (show w3.heap[g5]? = some (.cells #[.int .u64 0, .int .u64 0, .int .u64 0, .int .u64 0] 48 (0, 0)) from blk_below B_g5.out hb); replace HS := Aside0.mk (show Stp w0 w S w3 from stp_below HS.out hb); have B_g6 := Aside0.mk y_; clear xg y_ hb; have c_gx_0 : w3.cell? ⟨gx, 0, none⟩ = some (.int .u64 x0) := (blk_cell B_gx.out 0).trans rfl; have f_gx_0 := blk_frozen B_gx.out 0; have c_gx_1 : w3.cell? ⟨gx, 1, none⟩ = some (.int .u64 x1) := (blk_cell B_gx.out 1).trans rfl; have f_gx_1 := blk_frozen B_gx.out 1; have c_gp_0 : w3.cell? ⟨gp, 0, none⟩ = some (.int .u64 p0) := (blk_cell B_gp.out 0).trans rfl; have f_gp_0 := blk_frozen B_gp.out 0; have c_gp_1 : w3.cell? ⟨gp, 1, none⟩ = some (.int .u64 p1) := (blk_cell B_gp.out 1).trans rfl; have f_gp_1 := blk_frozen B_gp.out 1)
    | ((with_reducible refine gate_dst (N := 7) rfl ?_); refine box_event ?hg (N := 7) ?hd (cs := #[.int .u64 0, .int .u64 0, .int .u64 0, .int .u64 0]) (t := 48) ?hr ?_; (case hd => rfl); (case hg => rfl); (case hr => first | (go_simp; done) | (go_simp; rfl)); intro g7 xg w4 y_ hb; clear c_gx_0 f_gx_0 c_gx_1 f_gx_1 c_gp_0 f_gp_0 c_gp_1 f_gp_1; have N_gf_g7 := Aside0.mk (new_ne B_gf.out xg); have N_g7_gf := Aside0.mk N_gf_g7.out.symm; have N_gi_g7 := Aside0.mk (new_ne B_gi.out xg); have N_g7_gi := Aside0.mk N_gi_g7.out.symm; have N_gx_g7 := Aside0.mk (new_ne B_gx.out xg); have N_g7_gx := Aside0.mk N_gx_g7.out.symm; have N_gp_g7 := Aside0.mk (new_ne B_gp.out xg); have N_g7_gp := Aside0.mk N_gp_g7.out.symm; have N_g5_g7 := Aside0.mk (new_ne B_g5.out xg); have N_g7_g5 := Aside0.mk N_g5_g7.out.symm; have N_g6_g7 := Aside0.mk (new_ne B_g6.out xg); have N_g7_g6 := Aside0.mk N_g6_g7.out.symm; have G_g7 := Aside0.mk (stp_new HS.out xg); replace B_gf := Aside0.mk (show w4.heap[gf]? = some (.cells #[.int .i64 f] 3 (0, 0)) from blk_below B_gf.out hb); replace B_gi := Aside0.mk (show w4.heap[gi]? = some (.cells #[.int .i64 i] 3 (0, 0)) from blk_below B_gi.out hb); replace B_gx := Aside0.mk (show w4.heap[gx]? = some (.cells #[.int .u64 x0, .int .u64 x1] 36 (0, 0)) from blk_below B_gx.out hb); replace B_gp := Aside0.mk (show w4.heap[gp]? = some (.cells #[.int .u64 p0, .int .u64 p1] 36 (0, 0)) from blk_below B_gp.out hb); replace B_g5 := Aside0.mk (show w4.heap[g5]? = some (.cells #[.int .u64 0, .int .u64 0, .int .u64 0, .int .u64 0] 48 (0, 0)) from blk_below B_g5.out hb); replace B_g6 := Aside0.mk (show w4.heap[g6]? = some (.cells #[.int .u64 0, .int .u64 0] 36 (0, 0)) from blk_below B_g6.out hb); replace HS := Aside0.mk (show Stp w0 w S w4 from stp_below HS.out hb); have B_g7 := Aside0.mk y_; clear xg y_ hb; have c_g7_0 : w4.cell? ⟨g7, 0, none⟩ = some (.int .u64 0) := (blk_cell B_g7.out 0).trans rfl; have f_g7_0 := blk_frozen B_g7.out 0; have c_g7_1 : w4.cell? ⟨g7, 1, none⟩ = some (.int .u64 0) := (blk_cell B_g7.out 1).trans rfl; have f_g7_1 := blk_frozen B_g7.out 1; have c_g7_2 : w4.cell? ⟨g7, 2, none⟩ = some (.int .u64 0) := (blk_cell B_g7.out 2).trans rfl; have f_g7_2 := blk_frozen B_g7.out 2; have c_g7_3 : w4.cell? ⟨g7, 3, none⟩ = some (.int .u64 0) := (blk_cell B_g7.out 3).trans rfl; have f_g7_3 := blk_frozen B_g7.out 3)
    | ((with_reducible refine gate_store (t := 48) (p := 7) rfl ?_); refine store_event (t := 48) (p := 7) (v := .tmp 10) (w1 := ((((w4.setCell ⟨g7, 0, none⟩ (.int .u64 x0)).setCell ⟨g7, 1, none⟩ (.int .u64 x1)).setCell ⟨g7, 2, none⟩ (.int .u64 p0)).setCell ⟨g7, 3, none⟩ (.int .u64 p1))) ?hg ?ho ?hn ?hr ?_; (case ho => rfl); (case hg => rfl); (case hn => rfl); (case hr => first | (go_simp; done) | (go_simp; rfl)); intro w5 hw; clear c_g7_0 f_g7_0 c_g7_1 f_g7_1 c_g7_2 f_g7_2 c_g7_3 f_g7_3; replace B_gf := Aside0.mk (show w5.heap[gf]? = some (.cells #[.int .i64 f] 3 (0, 0)) from (by rw [hw]; (repeat (refine blk_far ?_ N_gf_g7.out _)); exact B_gf.out)); replace B_gi := Aside0.mk (show w5.heap[gi]? = some (.cells #[.int .i64 i] 3 (0, 0)) from (by rw [hw]; (repeat (refine blk_far ?_ N_gi_g7.out _)); exact B_gi.out)); replace B_gx := Aside0.mk (show w5.heap[gx]? = some (.cells #[.int .u64 x0, .int .u64 x1] 36 (0, 0)) from (by rw [hw]; (repeat (refine blk_far ?_ N_gx_g7.out _)); exact B_gx.out)); replace B_gp := Aside0.mk (show w5.heap[gp]? = some (.cells #[.int .u64 p0, .int .u64 p1] 36 (0, 0)) from (by rw [hw]; (repeat (refine blk_far ?_ N_gp_g7.out _)); exact B_gp.out)); replace B_g5 := Aside0.mk (show w5.heap[g5]? = some (.cells #[.int .u64 0, .int .u64 0, .int .u64 0, .int .u64 0] 48 (0, 0)) from (by rw [hw]; (repeat (refine blk_far ?_ N_g5_g7.out _)); exact B_g5.out)); replace B_g6 := Aside0.mk (show w5.heap[g6]? = some (.cells #[.int .u64 0, .int .u64 0] 36 (0, 0)) from (by rw [hw]; (repeat (refine blk_far ?_ N_g6_g7.out _)); exact B_g6.out)); replace B_g7 := Aside0.mk (show w5.heap[g7]? = some (.cells #[.int .u64 x0, .int .u64 x1, .int .u64 p0, .int .u64 p1] 48 (0, 0)) from (by rw [hw]; exact (blk_put (cs := #[.int .u64 x0, .int .u64 x1, .int .u64 p0, .int .u64 0]) (blk_put (cs := #[.int .u64 x0, .int .u64 x1, .int .u64 0, .int .u64 0]) (blk_put (cs := #[.int .u64 x0, .int .u64 0, .int .u64 0, .int .u64 0]) (blk_put (cs := #[.int .u64 0, .int .u64 0, .int .u64 0, .int .u64 0]) B_g7.out 0 (.int .u64 x0) rfl) 1 (.int .u64 x1) rfl) 2 (.int .u64 p0) rfl) 3 (.int .u64 p1) rfl))); replace HS := Aside0.mk (show Stp w0 w S w5 from (by rw [hw]; exact (stp_set (stp_set (stp_set (stp_set HS.out G_g7.out 0 (.int .u64 x0)) G_g7.out 1 (.int .u64 x1)) G_g7.out 2 (.int .u64 p0)) G_g7.out 3 (.int .u64 p1)))); clear hw; have c_gi_0 : w5.cell? ⟨gi, 0, none⟩ = some (.int .i64 i) := (blk_cell B_gi.out 0).trans rfl; have f_gi_0 := blk_frozen B_gi.out 0; have c_gx_0 : w5.cell? ⟨gx, 0, none⟩ = some (.int .u64 x0) := (blk_cell B_gx.out 0).trans rfl; have f_gx_0 := blk_frozen B_gx.out 0; have c_gx_1 : w5.cell? ⟨gx, 1, none⟩ = some (.int .u64 x1) := (blk_cell B_gx.out 1).trans rfl; have f_gx_1 := blk_frozen B_gx.out 1; have c_gp_0 : w5.cell? ⟨gp, 0, none⟩ = some (.int .u64 p0) := (blk_cell B_gp.out 0).trans rfl; have f_gp_0 := blk_frozen B_gp.out 0; have c_gp_1 : w5.cell? ⟨gp, 1, none⟩ = some (.int .u64 p1) := (blk_cell B_gp.out 1).trans rfl; have f_gp_1 := blk_frozen B_gp.out 1; have c_g7_0 : w5.cell? ⟨g7, 0, none⟩ = some (.int .u64 x0) := (blk_cell B_g7.out 0).trans rfl; have f_g7_0 := blk_frozen B_g7.out 0; have c_g7_1 : w5.cell? ⟨g7, 1, none⟩ = some (.int .u64 x1) := (blk_cell B_g7.out 1).trans rfl; have f_g7_1 := blk_frozen B_g7.out 1; have c_g7_2 : w5.cell? ⟨g7, 2, none⟩ = some (.int .u64 p0) := (blk_cell B_g7.out 2).trans rfl; have f_g7_2 := blk_frozen B_g7.out 2; have c_g7_3 : w5.cell? ⟨g7, 3, none⟩ = some (.int .u64 p1) := (blk_cell B_g7.out 3).trans rfl; have f_g7_3 := blk_frozen B_g7.out 3)
    | ((with_reducible refine gate_store (t := 48) (p := 7) rfl ?_); refine store_event (t := 48) (p := 7) (v := .tmp 16) (w1 := ((((w5.setCell ⟨g7, 0, none⟩ (.int .u64 p0)).setCell ⟨g7, 1, none⟩ (.int .u64 p1)).setCell ⟨g7, 2, none⟩ (.int .u64 x0)).setCell ⟨g7, 3, none⟩ (.int .u64 x1))) ?hg ?ho ?hn ?hr ?_; (case ho => rfl); (case hg => rfl); (case hn => rfl); (case hr => first | (go_simp; done) | (go_simp; rfl)); intro w6 hw; clear c_gi_0 f_gi_0 c_gx_0 f_gx_0 c_gx_1 f_gx_1 c_gp_0 f_gp_0 c_gp_1 f_gp_1 c_g7_0 f_g7_0 c_g7_1 f_g7_1 c_g7_2 f_g7_2 c_g7_3 f_g7_3; replace B_gf := Aside0.mk (show w6.heap[gf]? = some (.cells #[.int .i64 f] 3 (0, 0)) from (by rw [hw]; (repeat (refine blk_far ?_ N_gf_g7.out _)); exact B_gf.out)); replace B_gi := Aside0.mk (show w6.heap[gi]? = some (.cells #[.int .i64 i] 3 (0, 0)) from (by rw [hw]; (repeat (refine blk_far ?_ N_gi_g7.out _)); exact B_gi.out)); replace B_gx := Aside0.mk (show w6.heap[gx]? = some (.cells #[.int .u64 x0, .int .u64 x1] 36 (0, 0)) from (by rw [hw]; (repeat (refine blk_far ?_ N_gx_g7.out _)); exact B_gx.out)); replace B_gp := Aside0.mk (show w6.heap[gp]? = some (.cells #[.int .u64 p0, .int .u64 p1] 36 (0, 0)) from (by rw [hw]; (repeat (refine blk_far ?_ N_gp_g7.out _)); exact B_gp.out)); replace B_g5 := Aside0.mk (show w6.heap[g5]? = some (.cells #[.int .u64 0, .int .u64 0, .int .u64 0, .int .u64 0] 48 (0, 0)) from (by rw [hw]; (repeat (refine blk_far ?_ N_g5_g7.out _)); exact B_g5.out)); replace B_g6 := Aside0.mk (show w6.heap[g6]? = some (.cells #[.int .u64 0, .int .u64 0] 36 (0, 0)) from (by rw [hw]; (repeat (refine blk_far ?_ N_g6_g7.out _)); exact B_g6.out)); replace B_g7 := Aside0.mk (show w6.heap[g7]? = some (.cells #[.int .u64 p0, .int .u64 p1, .int .u64 x0, .int .u64 x1] 48 (0, 0)) from (by rw [hw]; exact (blk_put (cs := #[.int .u64 p0, .int .u64 p1, .int .u64 x0, .int .u64 p1]) (blk_put (cs := #[.int .u64 p0, .int .u64 p1, .int .u64 p0, .int .u64 p1]) (blk_put (cs := #[.int .u64 p0, .int .u64 x1, .int .u64 p0, .int .u64 p1]) (blk_put (cs := #[.int .u64 x0, .int .u64 x1, .int .u64 p0, .int .u64 p1]) B_g7.out 0 (.int .u64 p0) rfl) 1 (.int .u64 p1) rfl) 2 (.int .u64 x0) rfl) 3 (.int .u64 x1) rfl))); replace HS := Aside0.mk (show Stp w0 w S w6 from (by rw [hw]; exact (stp_set (stp_set (stp_set (stp_set HS.out G_g7.out 0 (.int .u64 p0)) G_g7.out 1 (.int .u64 p1)) G_g7.out 2 (.int .u64 x0)) G_g7.out 3 (.int .u64 x1)))); clear hw; have c_gi_0 : w6.cell? ⟨gi, 0, none⟩ = some (.int .i64 i) := (blk_cell B_gi.out 0).trans rfl; have f_gi_0 := blk_frozen B_gi.out 0)
    | ((with_reducible refine gate_store (t := 3) (p := 2) rfl ?_); refine store_event (t := 3) (p := 2) (v := .tmp 18) (w1 := (w6.setCell ⟨gi, 0, none⟩ (.int .i64 (i / 2)))) ?hg ?ho ?hn ?hr ?_; (case ho => rfl); (case hg => rfl); (case hn => rfl); (case hr => first | (go_simp; done) | (go_simp; rfl)); intro w7 hw; clear c_gi_0 f_gi_0; replace B_gf := Aside0.mk (show w7.heap[gf]? = some (.cells #[.int .i64 f] 3 (0, 0)) from (by rw [hw]; (repeat (refine blk_far ?_ N_gf_gi.out _)); exact B_gf.out)); replace B_gi := Aside0.mk (show w7.heap[gi]? = some (.cells #[.int .i64 (i / 2)] 3 (0, 0)) from (by rw [hw]; exact (blk_put (cs := #[.int .i64 i]) B_gi.out 0 (.int .i64 (i / 2)) rfl))); replace B_gx := Aside0.mk (show w7.heap[gx]? = some (.cells #[.int .u64 x0, .int .u64 x1] 36 (0, 0)) from (by rw [hw]; (repeat (refine blk_far ?_ N_gx_gi.out _)); exact B_gx.out)); replace B_gp := Aside0.mk (show w7.heap[gp]? = some (.cells #[.int .u64 p0, .int .u64 p1] 36 (0, 0)) from (by rw [hw]; (repeat (refine blk_far ?_ N_gp_gi.out _)); exact B_gp.out)); replace B_g5 := Aside0.mk (show w7.heap[g5]? = some (.cells #[.int .u64 0, .int .u64 0, .int .u64 0, .int .u64 0] 48 (0, 0)) from (by rw [hw]; (repeat (refine blk_far ?_ N_g5_gi.out _)); exact B_g5.out)); replace B_g6 := Aside0.mk (show w7.heap[g6]? = some (.cells #[.int .u64 0, .int .u64 0] 36 (0, 0)) from (by rw [hw]; (repeat (refine blk_far ?_ N_g6_gi.out _)); exact B_g6.out)); replace B_g7 := Aside0.mk (show w7.heap[g7]? = some (.cells #[.int .u64 p0, .int .u64 p1, .int .u64 x0, .int .u64 x1] 48 (0, 0)) from (by rw [hw]; (repeat (refine blk_far ?_ N_g7_gi.out _)); exact B_g7.out)); replace HS := Aside0.mk (show Stp w0 w S w7 from (by rw [hw]; exact (stp_set HS.out G_gi.out 0 (.int .i64 (i / 2))))); clear hw; have c_gf_0 : w7.cell? ⟨gf, 0, none⟩ = some (.int .i64 f) := (blk_cell B_gf.out 0).trans rfl; have f_gf_0 := blk_frozen B_gf.out 0; have c_g7_0 : w7.cell? ⟨g7, 0, none⟩ = some (.int .u64 p0) := (blk_cell B_g7.out 0).trans rfl; have f_g7_0 := blk_frozen B_g7.out 0; have c_g7_1 : w7.cell? ⟨g7, 1, none⟩ = some (.int .u64 p1) := (blk_cell B_g7.out 1).trans rfl; have f_g7_1 := blk_frozen B_g7.out 1; have c_g7_2 : w7.cell? ⟨g7, 2, none⟩ = some (.int .u64 x0) := (blk_cell B_g7.out 2).trans rfl; have f_g7_2 := blk_frozen B_g7.out 2; have c_g7_3 : w7.cell? ⟨g7, 3, none⟩ = some (.int .u64 x1) := (blk_cell B_g7.out 3).trans rfl; have f_g7_3 := blk_frozen B_g7.out 3)
    | (go_at_call 36; (with_reducible refine (sponge_Node.calls 200 f p0 p1 x0 x1 n0 n1 _ (GL.below HRG.out (stp_b HS.out)) A.out).mono ?_); rintro e w8 ⟨rfl, hb⟩; clear c_gf_0 f_gf_0 c_g7_0 f_g7_0 c_g7_1 f_g7_1 c_g7_2 f_g7_2 c_g7_3 f_g7_3; replace B_gf := Aside0.mk (show w8.heap[gf]? = some (.cells #[.int .i64 f] 3 (0, 0)) from blk_below B_gf.out hb); replace B_gi := Aside0.mk (show w8.heap[gi]? = some (.cells #[.int .i64 (i / 2)] 3 (0, 0)) from blk_below B_gi.out hb); replace B_gx := Aside0.mk (show w8.heap[gx]? = some (.cells #[.int .u64 x0, .int .u64 x1] 36 (0, 0)) from blk_below B_gx.out hb); replace B_gp := Aside0.mk (show w8.heap[gp]? = some (.cells #[.int .u64 p0, .int .u64 p1] 36 (0, 0)) from blk_below B_gp.out hb); replace B_g5 := Aside0.mk (show w8.heap[g5]? = some (.cells #[.int .u64 0, .int .u64 0, .int .u64 0, .int .u64 0] 48 (0, 0)) from blk_below B_g5.out hb); replace B_g6 := Aside0.mk (show w8.heap[g6]? = some (.cells #[.int .u64 0, .int .u64 0] 36 (0, 0)) from blk_below B_g6.out hb); replace B_g7 := Aside0.mk (show w8.heap[g7]? = some (.cells #[.int .u64 p0, .int .u64 p1, .int .u64 x0, .int .u64 x1] 48 (0, 0)) from blk_below B_g7.out hb); replace HS := Aside0.mk (show Stp w0 w S w8 from stp_below HS.out hb); clear hb; have c_gx_0 : w8.cell? ⟨gx, 0, none⟩ = some (.int .u64 x0) := (blk_cell B_gx.out 0).trans rfl; have f_gx_0 := blk_frozen B_gx.out 0; have c_gx_1 : w8.cell? ⟨gx, 1, none⟩ = some (.int .u64 x1) := (blk_cell B_gx.out 1).trans rfl; have f_gx_1 := blk_frozen B_gx.out 1)
    | ((with_reducible refine gate_store (t := 36) (p := 1) rfl ?_); refine store_event (t := 36) (p := 1) (v := .tmp 24) (w1 := ((w8.setCell ⟨gx, 0, none⟩ (.int .u64 n0)).setCell ⟨gx, 1, none⟩ (.int .u64 n1))) ?hg ?ho ?hn ?hr ?_; (case ho => rfl); (case hg => rfl); (case hn => rfl); (case hr => first | (go_simp; done) | (go_simp; rfl)); intro w9 hw; clear c_gx_0 f_gx_0 c_gx_1 f_gx_1; replace B_gf := Aside0.mk (show w9.heap[gf]? = some (.cells #[.int .i64 f] 3 (0, 0)) from (by rw [hw]; (repeat (refine blk_far ?_ N_gf_gx.out _)); exact B_gf.out)); replace B_gi := Aside0.mk (show w9.heap[gi]? = some (.cells #[.int .i64 (i / 2)] 3 (0, 0)) from (by rw [hw]; (repeat (refine blk_far ?_ N_gi_gx.out _)); exact B_gi.out)); replace B_gx := Aside0.mk (show w9.heap[gx]? = some (.cells #[.int .u64 n0, .int .u64 n1] 36 (0, 0)) from (by rw [hw]; exact (blk_put (cs := #[.int .u64 n0, .int .u64 x1]) (blk_put (cs := #[.int .u64 x0, .int .u64 x1]) B_gx.out 0 (.int .u64 n0) rfl) 1 (.int .u64 n1) rfl))); replace B_gp := Aside0.mk (show w9.heap[gp]? = some (.cells #[.int .u64 p0, .int .u64 p1] 36 (0, 0)) from (by rw [hw]; (repeat (refine blk_far ?_ N_gp_gx.out _)); exact B_gp.out)); replace B_g5 := Aside0.mk (show w9.heap[g5]? = some (.cells #[.int .u64 0, .int .u64 0, .int .u64 0, .int .u64 0] 48 (0, 0)) from (by rw [hw]; (repeat (refine blk_far ?_ N_g5_gx.out _)); exact B_g5.out)); replace B_g6 := Aside0.mk (show w9.heap[g6]? = some (.cells #[.int .u64 0, .int .u64 0] 36 (0, 0)) from (by rw [hw]; (repeat (refine blk_far ?_ N_g6_gx.out _)); exact B_g6.out)); replace B_g7 := Aside0.mk (show w9.heap[g7]? = some (.cells #[.int .u64 p0, .int .u64 p1, .int .u64 x0, .int .u64 x1] 48 (0, 0)) from (by rw [hw]; (repeat (refine blk_far ?_ N_g7_gx.out _)); exact B_g7.out)); replace HS := Aside0.mk (show Stp w0 w S w9 from (by rw [hw]; exact (stp_set (stp_set HS.out G_gx.out 0 (.int .u64 n0)) G_gx.out 1 (.int .u64 n1)))); clear hw; skip))
  skip
  replace B_gf : Aside0 (w9.drew.heap[gf]? = some (.cells #[.int .i64 f] 3 (0, 0))) := ⟨B_gf.out⟩
  replace B_gi : Aside0 (w9.drew.heap[gi]? = some (.cells #[.int .i64 (i / 2)] 3 (0, 0))) := ⟨B_gi.out⟩
  replace B_gx : Aside0 (w9.drew.heap[gx]? = some (.cells #[.int .u64 n0, .int .u64 n1] 36 (0, 0))) := ⟨B_gx.out⟩
  replace B_gp : Aside0 (w9.drew.heap[gp]? = some (.cells #[.int .u64 p0, .int .u64 p1] 36 (0, 0))) := ⟨B_gp.out⟩
  replace B_g5 : Aside0 (w9.drew.heap[g5]? = some (.cells #[.int .u64 0, .int .u64 0, .int .u64 0, .int .u64 0] 48 (0, 0))) := ⟨B_g5.out⟩
  replace B_g6 : Aside0 (w9.drew.heap[g6]? = some (.cells #[.int .u64 0, .int .u64 0] 36 (0, 0))) := ⟨B_g6.out⟩
  replace B_g7 : Aside0 (w9.drew.heap[g7]? = some (.cells #[.int .u64 p0, .int .u64 p1, .int .u64 x0, .int .u64 x1] 48 (0, 0))) := ⟨B_g7.out⟩
  replace HS : Aside0 (Stp w0 w S w9.drew) := ⟨stp_drew HS.out⟩
  refine start_ (n := 4) (S := fun w' => w'.cell? ⟨g7, 0, none⟩ = some (.int .u64 p0) ∧ w'.cell? ⟨g7, 1, none⟩ = some (.int .u64 p1) ∧ w'.cell? ⟨g7, 2, none⟩ = some (.int .u64 x0) ∧ w'.cell? ⟨g7, 3, none⟩ = some (.int .u64 x1) ∧ w'.cell? ⟨gx, 0, none⟩ = some (.int .u64 n0) ∧ w'.cell? ⟨gx, 1, none⟩ = some (.int .u64 n1)) (ds := []) #[false, false, false, false] (by kernel_rfl) rfl rfl ⟨(blk_cell B_g7.out 0).trans rfl, (blk_cell B_g7.out 1).trans rfl, (blk_cell B_g7.out 2).trans rfl, (blk_cell B_g7.out 3).trans rfl, (blk_cell B_gx.out 0).trans rfl, (blk_cell B_gx.out 1).trans rfl⟩ (fun hHeld => ?_)
  generalize w9.drew = w10 at B_gf B_gi B_gx B_gp B_g5 B_g6 B_g7 HS hHeld ⊢
  refine take_ (i := 0) (N := some 25) (v := ?_) (a' := ?_) #[true, false, false, false] rfl rfl (by kernel_rfl) (fun _ _ _ h => h) (Or.inl ⟨by rfl, ?_⟩) hHeld ?_ ?_
  rotate_left
  · rintro w' ⟨s0, s1, s2, s3, s4, s5⟩
    go_simp
    with_reducible rfl
  rotate_left
  · simp only [Act.put, List.setIfInBounds_toArray, List.set_cons_zero, List.set_cons_succ, i64_w, i32_w]
    rfl
  refine take_ (i := 1) (N := some 26) (v := ?_) (a' := ?_) #[true, true, false, false] rfl rfl (by kernel_rfl) (fun _ _ _ h => h) (Or.inl ⟨by rfl, ?_⟩) hHeld ?_ ?_
  rotate_left
  · rintro w' ⟨s0, s1, s2, s3, s4, s5⟩
    go_simp
    with_reducible rfl
  rotate_left
  · simp only [Act.put, List.setIfInBounds_toArray, List.set_cons_zero, List.set_cons_succ, i64_w, i32_w]
    rfl
  have n_gf_gi := N_gf_gi.out
  have n_gf_gx := N_gf_gx.out
  have n_gf_gp := N_gf_gp.out
  have n_gf_g5 := N_gf_g5.out
  have n_gf_g6 := N_gf_g6.out
  have n_gf_g7 := N_gf_g7.out
  have n_gi_gf := N_gi_gf.out
  have n_gi_gx := N_gi_gx.out
  have n_gi_gp := N_gi_gp.out
  have n_gi_g5 := N_gi_g5.out
  have n_gi_g6 := N_gi_g6.out
  have n_gi_g7 := N_gi_g7.out
  have n_gx_gf := N_gx_gf.out
  have n_gx_gi := N_gx_gi.out
  have n_gx_gp := N_gx_gp.out
  have n_gx_g5 := N_gx_g5.out
  have n_gx_g6 := N_gx_g6.out
  have n_gx_g7 := N_gx_g7.out
  have n_gp_gf := N_gp_gf.out
  have n_gp_gi := N_gp_gi.out
  have n_gp_gx := N_gp_gx.out
  have n_gp_g5 := N_gp_g5.out
  have n_gp_g6 := N_gp_g6.out
  have n_gp_g7 := N_gp_g7.out
  have n_g5_gf := N_g5_gf.out
  have n_g5_gi := N_g5_gi.out
  have n_g5_gx := N_g5_gx.out
  have n_g5_gp := N_g5_gp.out
  have n_g5_g6 := N_g5_g6.out
  have n_g5_g7 := N_g5_g7.out
  have n_g6_gf := N_g6_gf.out
  have n_g6_gi := N_g6_gi.out
  have n_g6_gx := N_g6_gx.out
  have n_g6_gp := N_g6_gp.out
  have n_g6_g5 := N_g6_g5.out
  have n_g6_g7 := N_g6_g7.out
  have n_g7_gf := N_g7_gf.out
  have n_g7_gi := N_g7_gi.out
  have n_g7_gx := N_g7_gx.out
  have n_g7_gp := N_g7_gp.out
  have n_g7_g5 := N_g7_g5.out
  have n_g7_g6 := N_g7_g6.out
  refine one_ (i := 2) (N := none) #[true, true, true, false] rfl rfl (by kernel_rfl) (by decide) (fun K hK => ?_)
  have c_g5_0 : w10.cell? ⟨g5, 0, none⟩ = some (.int .u64 0) := (blk_cell B_g5.out 0).trans rfl
  have f_g5_0 := blk_frozen B_g5.out 0
  have c_g5_1 : w10.cell? ⟨g5, 1, none⟩ = some (.int .u64 0) := (blk_cell B_g5.out 1).trans rfl
  have f_g5_1 := blk_frozen B_g5.out 1
  have c_g5_2 : w10.cell? ⟨g5, 2, none⟩ = some (.int .u64 0) := (blk_cell B_g5.out 2).trans rfl
  have f_g5_2 := blk_frozen B_g5.out 2
  have c_g5_3 : w10.cell? ⟨g5, 3, none⟩ = some (.int .u64 0) := (blk_cell B_g5.out 3).trans rfl
  have f_g5_3 := blk_frozen B_g5.out 3
  refine skip_ (w1 := ?_) (by rfl) rfl ?_ ?_
  rotate_left
  · go_simp
    rfl
  refine hK.out _ _ ⟨(cell_far (p := ⟨g5, _, none⟩) N_g7_g5.out _).trans ((cell_far (p := ⟨g5, _, none⟩) N_g7_g5.out _).trans ((cell_far (p := ⟨g5, _, none⟩) N_g7_g5.out _).trans ((cell_far (p := ⟨g5, _, none⟩) N_g7_g5.out _).trans (hHeld.1)))), (cell_far (p := ⟨g5, _, none⟩) N_g7_g5.out _).trans ((cell_far (p := ⟨g5, _, none⟩) N_g7_g5.out _).trans ((cell_far (p := ⟨g5, _, none⟩) N_g7_g5.out _).trans ((cell_far (p := ⟨g5, _, none⟩) N_g7_g5.out _).trans (hHeld.2.1)))), (cell_far (p := ⟨g5, _, none⟩) N_g7_g5.out _).trans ((cell_far (p := ⟨g5, _, none⟩) N_g7_g5.out _).trans ((cell_far (p := ⟨g5, _, none⟩) N_g7_g5.out _).trans ((cell_far (p := ⟨g5, _, none⟩) N_g7_g5.out _).trans (hHeld.2.2.1)))), (cell_far (p := ⟨g5, _, none⟩) N_g7_g5.out _).trans ((cell_far (p := ⟨g5, _, none⟩) N_g7_g5.out _).trans ((cell_far (p := ⟨g5, _, none⟩) N_g7_g5.out _).trans ((cell_far (p := ⟨g5, _, none⟩) N_g7_g5.out _).trans (hHeld.2.2.2.1)))), (cell_far (p := ⟨g5, _, none⟩) N_gx_g5.out _).trans ((cell_far (p := ⟨g5, _, none⟩) N_gx_g5.out _).trans ((cell_far (p := ⟨g5, _, none⟩) N_gx_g5.out _).trans ((cell_far (p := ⟨g5, _, none⟩) N_gx_g5.out _).trans (hHeld.2.2.2.2.1)))), (cell_far (p := ⟨g5, _, none⟩) N_gx_g5.out _).trans ((cell_far (p := ⟨g5, _, none⟩) N_gx_g5.out _).trans ((cell_far (p := ⟨g5, _, none⟩) N_gx_g5.out _).trans ((cell_far (p := ⟨g5, _, none⟩) N_gx_g5.out _).trans (hHeld.2.2.2.2.2))))⟩ (fun hHeld => ?_)
  refine one_ (i := 3) (N := none) #[true, true, true, true] rfl rfl (by kernel_rfl) (by decide) (fun K hK => ?_)
  have c_g6_0 : w10.cell? ⟨g6, 0, none⟩ = some (.int .u64 0) := (blk_cell B_g6.out 0).trans rfl
  have f_g6_0 := blk_frozen B_g6.out 0
  have c_g6_1 : w10.cell? ⟨g6, 1, none⟩ = some (.int .u64 0) := (blk_cell B_g6.out 1).trans rfl
  have f_g6_1 := blk_frozen B_g6.out 1
  refine skip_ (w1 := ?_) (by rfl) rfl ?_ ?_
  rotate_left
  · go_simp
    rfl
  refine hK.out _ _ ⟨(cell_far (p := ⟨g6, _, none⟩) N_g7_g6.out _).trans ((cell_far (p := ⟨g6, _, none⟩) N_g7_g6.out _).trans (hHeld.1)), (cell_far (p := ⟨g6, _, none⟩) N_g7_g6.out _).trans ((cell_far (p := ⟨g6, _, none⟩) N_g7_g6.out _).trans (hHeld.2.1)), (cell_far (p := ⟨g6, _, none⟩) N_g7_g6.out _).trans ((cell_far (p := ⟨g6, _, none⟩) N_g7_g6.out _).trans (hHeld.2.2.1)), (cell_far (p := ⟨g6, _, none⟩) N_g7_g6.out _).trans ((cell_far (p := ⟨g6, _, none⟩) N_g7_g6.out _).trans (hHeld.2.2.2.1)), (cell_far (p := ⟨g6, _, none⟩) N_gx_g6.out _).trans ((cell_far (p := ⟨g6, _, none⟩) N_gx_g6.out _).trans (hHeld.2.2.2.2.1)), (cell_far (p := ⟨g6, _, none⟩) N_gx_g6.out _).trans ((cell_far (p := ⟨g6, _, none⟩) N_gx_g6.out _).trans (hHeld.2.2.2.2.2))⟩ (fun hHeld => ?_)
  refine done_ (by kernel_rfl) ?_
  try go_wp2
  refine bodyPost_ret (results_list (rs := [.cell 5 48, .cell 6 36]) rfl (by simp) (.cell g5 48 #[.int .u64 p0, .int .u64 p1, .int .u64 x0, .int .u64 x1] (0, 0) _ rfl (blk_far (blk_far (blk_put (cs := #[.int .u64 p0, .int .u64 p1, .int .u64 x0, .int .u64 0]) (blk_put (cs := #[.int .u64 p0, .int .u64 p1, .int .u64 0, .int .u64 0]) (blk_put (cs := #[.int .u64 p0, .int .u64 0, .int .u64 0, .int .u64 0]) (blk_put (cs := #[.int .u64 0, .int .u64 0, .int .u64 0, .int .u64 0]) B_g5.out 0 (.int .u64 p0) rfl) 1 (.int .u64 p1) rfl) 2 (.int .u64 x0) rfl) 3 (.int .u64 x1) rfl) N_g5_g6.out _) N_g5_g6.out _) Tryd.underlying48 rfl (by kernel_rfl) (.cell g6 36 #[.int .u64 n0, .int .u64 n1] (0, 0) _ rfl (blk_put (cs := #[.int .u64 n0, .int .u64 0]) (blk_put (cs := #[.int .u64 0, .int .u64 0]) (blk_far (blk_far (blk_far (blk_far B_g6.out N_g6_g5.out _) N_g6_g5.out _) N_g6_g5.out _) N_g6_g5.out _) 0 (.int .u64 n0) rfl) 1 (.int .u64 n1) rfl) Tryd.underlying36 rfl (by kernel_rfl) .nil))) rfl ?_
  exact ⟨rfl, (stp_set (stp_set (stp_set (stp_set (stp_set (stp_set HS.out G_g5.out 0 (.int .u64 p0)) G_g5.out 1 (.int .u64 p1)) G_g5.out 2 (.int .u64 x0)) G_g5.out 3 (.int .u64 x1)) G_g6.out 0 (.int .u64 n0)) G_g6.out 1 (.int .u64 n1)), (blk_far (blk_far (blk_far (blk_far (blk_far (blk_far B_gf.out N_gf_g5.out _) N_gf_g5.out _) N_gf_g5.out _) N_gf_g5.out _) N_gf_g6.out _) N_gf_g6.out _), (blk_far (blk_far (blk_far (blk_far (blk_far (blk_far B_gi.out N_gi_g5.out _) N_gi_g5.out _) N_gi_g5.out _) N_gi_g5.out _) N_gi_g6.out _) N_gi_g6.out _), (blk_far (blk_far (blk_far (blk_far (blk_far (blk_far B_gx.out N_gx_g5.out _) N_gx_g5.out _) N_gx_g5.out _) N_gx_g5.out _) N_gx_g6.out _) N_gx_g6.out _)⟩
set_option maxHeartbeats 2000000 in
theorem climber_calls (f i x0 x1 : Int) (w : World) : Calls Tryd.prog 51 #[.int .i64 f, .int .i64 i, .agg #[.int .u64 x0, .int .u64 x1]] w fun e w' => ∃ gf gi gx : Nat, e = .returned (.func (.func 64) #[] #[.pointer (some ⟨gx, 0, none⟩), .pointer (some ⟨gi, 0, none⟩), .pointer (some ⟨gf, 0, none⟩)]) ∧ w.heap.size ≤ gf ∧ w.heap.size ≤ gi ∧ w.heap.size ≤ gx ∧ gf ≠ gi
    ∧ w'.heap[gf]? = some (.cells #[.int .i64 f] 3 (0, 0)) ∧ w'.heap[gi]? = some (.cells #[.int .i64 i] 3 (0, 0)) ∧ w'.heap[gx]? = some (.cells #[.int .u64 x0, .int .u64 x1] 36 (0, 0)) ∧ Below w.heap.size w w' := by
  have hmf : ∀ (fn : Fn) (first cap : Array Value) (w : World), (Instr.makeFunc fn first cap).run Tryd.prog w = .ok (.func fn first cap) w := fun _ _ _ _ => rfl
  obtain ⟨w0, hw0⟩ : ∃ w0, w0 = w := ⟨_, rfl⟩
  generalize hSS : (fun _ : Nat => False) = S
  have HS : Aside0 (Stp w0 w S w) := ⟨by rw [hw0]; exact Below.refl _ _, Kept.refl _ _⟩
  have HW := Aside0.mk hw0
  clear hSS hw0
  go_enter Tryd.func51, Tryd.ntmps51
  go_wp2_with (first
    | ((with_reducible refine gate_dst (N := 3) rfl ?_); refine box_event ?hg (N := 3) ?hd (cs := #[.int .i64 f]) (t := 3) ?hr ?_; (case hd => rfl); (case hg => rfl); (case hr => first | (go_simp; done) | (go_simp; rfl)); intro gf xg w1 y_ hb; skip; have G_gf := Aside0.mk (stp_new HS.out xg); replace HS := Aside0.mk (show Stp w0 w S w1 from stp_below HS.out hb); have B_gf := Aside0.mk y_; clear xg y_ hb; skip)
    | ((with_reducible refine gate_dst (N := 4) rfl ?_); refine box_event ?hg (N := 4) ?hd (cs := #[.int .i64 i]) (t := 3) ?hr ?_; (case hd => rfl); (case hg => rfl); (case hr => first | (go_simp; done) | (go_simp; rfl)); intro gi xg w2 y_ hb; skip; have N_gf_gi := Aside0.mk (new_ne B_gf.out xg); have N_gi_gf := Aside0.mk N_gf_gi.out.symm; have G_gi := Aside0.mk (stp_new HS.out xg); replace B_gf := Aside0.mk (show w2.heap[gf]? = some (.cells #[.int .i64 f] 3 (0, 0)) from blk_below B_gf.out hb); replace HS := Aside0.mk (show Stp w0 w S w2 from stp_below HS.out hb); have B_gi := Aside0.mk y_; clear xg y_ hb; skip)
    | ((with_reducible refine gate_dst (N := 5) rfl ?_); refine box_event ?hg (N := 5) ?hd (cs := #[.int .u64 x0, .int .u64 x1]) (t := 36) ?hr ?_; (case hd => rfl); (case hg => rfl); (case hr => first | (go_simp; done) | (go_simp; rfl)); intro gx xg w3 y_ hb; skip; have N_gf_gx := Aside0.mk (new_ne B_gf.out xg); have N_gx_gf := Aside0.mk N_gf_gx.out.symm; have N_gi_gx := Aside0.mk (new_ne B_gi.out xg); have N_gx_gi := Aside0.mk N_gi_gx.out.symm; have G_gx := Aside0.mk (stp_new HS.out xg); replace B_gf := Aside0.mk (show w3.heap[gf]? = some (.cells #[.int .i64 f] 3 (0, 0)) from blk_below B_gf.out hb); replace B_gi := Aside0.mk (show w3.heap[gi]? = some (.cells #[.int .i64 i] 3 (0, 0)) from blk_below B_gi.out hb); replace HS := Aside0.mk (show Stp w0 w S w3 from stp_below HS.out hb); have B_gx := Aside0.mk y_; clear xg y_ hb; skip))
  obtain rfl := HW.out
  go_ret
  exact ⟨gf, gi, gx, rfl, G_gf.out.1, G_gi.out.1, G_gx.out.1, N_gf_gi.out, B_gf.out, B_gi.out, B_gx.out, stp_b HS.out⟩
/-- What a climb comes to. -/
def climbL (f : Int) : Int → Int → Int → List S36 → Option (Int × Int)
  | _, x0, x1, [] => some (x0, x1)
  | i, x0, x1, d :: l => (if (Go.bits .and .i64 i 1 == 1) = true then sponge_Node.f 200 f d.f0 d.f1 x0 x1 else sponge_Node.f 200 f x0 x1 d.f0 d.f1).bind fun n => climbL f (i / 2) n.1 n.2 l
def tree_climb.f (f i x0 x1 : Int) (l : List S36) : Option (Int × Int) := climbL f i x0 x1 l
theorem drop_rd (l : List S36) (j : Nat) (h : j < l.length) : l.drop j = rd_T36 l (j : Int) :: l.drop (j + 1) := by
  rw [List.drop_eq_getElem_cons h]
  simp [rd_T36, List.getD, h]
theorem stp_ge {w0 w W : World} {S : Nat → Prop} {g : Nat} (h : Stp w0 w S W) (hg : W.heap.size ≤ g) : w0.heap.size ≤ g ∧ (S g ∨ w.heap.size ≤ g) := ⟨Nat.le_trans h.1.size hg, .inr (Nat.le_trans h.2.1 hg)⟩
set_option maxHeartbeats 8000000 in
set_option maxRecDepth 100000 in
theorem tree_climb.calls (a0 a1 a2_0 a2_1 : Int) (A3 : Option Addr) (c3 : Nat) (l3 : List (S36)) (r1 r2 : Int) (w : World) (hr3 : Kd.C k36 w A3 l3.length l3) (hc3 : l3.length ≤ c3) (hrG : GL w) (h : tree_climb.f a0 a1 a2_0 a2_1 l3 = some (r1, r2)) :
    Calls Tryd.prog 48 #[.int .i64 a0, .int .i64 a1, .agg #[.int .u64 a2_0, .int .u64 a2_1], .slice A3 l3.length c3] w fun e w' => e = .returned (.agg #[.int .u64 r1, .int .u64 r2]) ∧ Below w.heap.size w w' := by
  have hu36 := Tryd.underlying36
  have HRG := Aside0.mk hrG
  have HR3 := Aside0.mk hr3
  have HC3 := Aside0.mk hc3
  have HL := Aside0.mk (Kd.C_max hr3)
  have H' : Aside0 (climbL a0 a1 a2_0 a2_1 (l3.drop 0) = some (r1, r2)) := ⟨h⟩
  clear hr3 hc3 hrG h
  obtain ⟨w0, hw0⟩ : ∃ w0, w0 = w := ⟨_, rfl⟩
  generalize hSS : (fun _ : Nat => False) = S
  have HS : Aside0 (Stp w0 w S w) := ⟨by rw [hw0]; exact Below.refl _ _, Kept.refl _ _⟩
  have HW := Aside0.mk hw0
  clear hSS hw0
  go_enter Tryd.func48, Tryd.ntmps48
  go_wp2_with (first
    | ((with_reducible refine gate_dst (N := 6) rfl ?_); refine box_event ?hg (N := 6) ?hd (cs := #[.int .u64 a2_0, .int .u64 a2_1]) (t := 36) ?hr ?_; (case hd => rfl); (case hg => rfl); (case hr => first | (go_simp; done) | (go_simp; rfl)); intro g6 xg w1 y_ hb; skip; have G_g6 := Aside0.mk (stp_new HS.out xg); replace HS := Aside0.mk (show Stp w0 w S w1 from stp_below HS.out hb); have B_g6 := Aside0.mk y_; clear xg y_ hb; skip)
    | ((with_reducible refine gate_dst (N := 8) rfl ?_); refine box_event ?hg (N := 8) ?hd (cs := #[.int .u64 0, .int .u64 0]) (t := 36) ?hr ?_; (case hd => rfl); (case hg => rfl); (case hr => first | (go_simp; done) | (go_simp; rfl)); intro g8 xg w2 y_ hb; skip; have N_g6_g8 := Aside0.mk (new_ne B_g6.out xg); have N_g8_g6 := Aside0.mk N_g6_g8.out.symm; have G_g8 := Aside0.mk (stp_new HS.out xg); replace B_g6 := Aside0.mk (show w2.heap[g6]? = some (.cells #[.int .u64 a2_0, .int .u64 a2_1] 36 (0, 0)) from blk_below B_g6.out hb); replace HS := Aside0.mk (show Stp w0 w S w2 from stp_below HS.out hb); have B_g8 := Aside0.mk y_; clear xg y_ hb; have c_g6_0 : w2.cell? ⟨g6, 0, none⟩ = some (.int .u64 a2_0) := (blk_cell B_g6.out 0).trans rfl; have f_g6_0 := blk_frozen B_g6.out 0; have c_g6_1 : w2.cell? ⟨g6, 1, none⟩ = some (.int .u64 a2_1) := (blk_cell B_g6.out 1).trans rfl; have f_g6_1 := blk_frozen B_g6.out 1)
    | (go_at_call 51; (with_reducible refine (climber_calls a0 a1 a2_0 a2_1 _).mono ?_); rintro e w3 ⟨gf, gi, gx, rfl, lf, li, lx, nfi, bf, bi, bx, hb⟩; clear c_g6_0 f_g6_0 c_g6_1 f_g6_1; have N_g6_gf := Aside0.mk (below_ne B_g6.out lf); have N_gf_g6 := Aside0.mk N_g6_gf.out.symm; have N_g8_gf := Aside0.mk (below_ne B_g8.out lf); have N_gf_g8 := Aside0.mk N_g8_gf.out.symm; have G_gf := Aside0.mk (stp_ge HS.out lf); have N_g6_gi := Aside0.mk (below_ne B_g6.out li); have N_gi_g6 := Aside0.mk N_g6_gi.out.symm; have N_g8_gi := Aside0.mk (below_ne B_g8.out li); have N_gi_g8 := Aside0.mk N_g8_gi.out.symm; have G_gi := Aside0.mk (stp_ge HS.out li); have N_g6_gx := Aside0.mk (below_ne B_g6.out lx); have N_gx_g6 := Aside0.mk N_g6_gx.out.symm; have N_g8_gx := Aside0.mk (below_ne B_g8.out lx); have N_gx_g8 := Aside0.mk N_g8_gx.out.symm; have G_gx := Aside0.mk (stp_ge HS.out lx); have N_gf_gi := Aside0.mk nfi; have N_gi_gf := Aside0.mk nfi.symm; have N_gf_gx := Aside0.mk (blk_ne bf bx (by decide)); have N_gx_gf := Aside0.mk (blk_ne bf bx (by decide)).symm; have N_gi_gx := Aside0.mk (blk_ne bi bx (by decide)); have N_gx_gi := Aside0.mk (blk_ne bi bx (by decide)).symm; replace B_g6 := Aside0.mk (show w3.heap[g6]? = some (.cells #[.int .u64 a2_0, .int .u64 a2_1] 36 (0, 0)) from blk_below B_g6.out hb); replace B_g8 := Aside0.mk (show w3.heap[g8]? = some (.cells #[.int .u64 0, .int .u64 0] 36 (0, 0)) from blk_below B_g8.out hb); replace HS := Aside0.mk (show Stp w0 w S w3 from stp_below HS.out hb); have B_gf := Aside0.mk bf; have B_gi := Aside0.mk bi; have B_gx := Aside0.mk bx; clear hb bf bi bx lf li lx nfi))
  go_loopg [18] (l3.length + 1) (fun kq v18 w' => ∃ (j : Nat) (i x0 x1 : Int), v18 = .int .i64 (j : Int) ∧ Aside0 (climbL a0 i x0 x1 (l3.drop j) = some (r1, r2)) ∧ Aside0 (kq + j = l3.length + 1) ∧ Aside0 (w'.heap[gf]? = some (.cells #[.int .i64 a0] 3 (0, 0))) ∧ Aside0 (w'.heap[gi]? = some (.cells #[.int .i64 i] 3 (0, 0))) ∧ Aside0 (w'.heap[gx]? = some (.cells #[.int .u64 x0, .int .u64 x1] 36 (0, 0))) ∧ Aside0 (w'.heap[g6]? = some (.cells #[.int .u64 x0, .int .u64 x1] 36 (0, 0))) ∧ Aside0 (w'.heap[g8]? = some (.cells #[.int .u64 0, .int .u64 0] 36 (0, 0))) ∧ Aside0 (Stp w0 w S w'))
  case atStart => exact ⟨0, a1, a2_0, a2_1, rfl, H', ⟨rfl⟩, B_gf, B_gi, B_gx, B_g6, B_g8, HS⟩
  case round =>
    clear H' HS B_gf B_gi B_gx B_g6 B_g8
    obtain ⟨j, i, x0, x1, rfl, HA, HK, B_gf, B_gi, B_gx, B_g6, B_g8, HS⟩ := hrel
    cases gk with
    | zero =>
      have hk := HK.out
      have hj : l3.length < j := by omega
      have c3b : decide (j < l3.length) = false := decide_eq_false (by omega)
      obtain ⟨rfl, rfl⟩ : x0 = r1 ∧ x1 = r2 := by have h1 := HA.out; rw [List.drop_eq_nil_of_le (by omega)] at h1; simpa [climbL] using h1
      clear HA
      have c_g6_0 : wr.cell? ⟨g6, 0, none⟩ = some (.int .u64 x0) := (blk_cell B_g6.out 0).trans rfl
      have f_g6_0 := blk_frozen B_g6.out 0
      have c_g6_1 : wr.cell? ⟨g6, 1, none⟩ = some (.int .u64 x1) := (blk_cell B_g6.out 1).trans rfl
      have f_g6_1 := blk_frozen B_g6.out 1
      have c_g8_0 : wr.cell? ⟨g8, 0, none⟩ = some (.int .u64 0) := (blk_cell B_g8.out 0).trans rfl
      have f_g8_0 := blk_frozen B_g8.out 0
      have c_g8_1 : wr.cell? ⟨g8, 1, none⟩ = some (.int .u64 0) := (blk_cell B_g8.out 1).trans rfl
      have f_g8_1 := blk_frozen B_g8.out 1
      go_wp2_with ((with_reducible refine gate_store (t := 36) (p := 8) rfl ?_); refine store_event (t := 36) (p := 8) (v := .tmp 29) (w1 := ((wr.setCell ⟨g8, 0, none⟩ (.int .u64 x0)).setCell ⟨g8, 1, none⟩ (.int .u64 x1))) ?hg ?ho ?hn ?hr ?_; (case ho => rfl); (case hg => rfl); (case hn => rfl); (case hr => first | (go_simp; done) | (go_simp; rfl)); intro w9 hw; clear c_g6_0 f_g6_0 c_g6_1 f_g6_1 c_g8_0 f_g8_0 c_g8_1 f_g8_1; replace B_gf := Aside0.mk (show w9.heap[gf]? = some (.cells #[.int .i64 a0] 3 (0, 0)) from (by rw [hw]; (repeat (refine blk_far ?_ N_gf_g8.out _)); exact B_gf.out)); replace B_gi := Aside0.mk (show w9.heap[gi]? = some (.cells #[.int .i64 i] 3 (0, 0)) from (by rw [hw]; (repeat (refine blk_far ?_ N_gi_g8.out _)); exact B_gi.out)); replace B_gx := Aside0.mk (show w9.heap[gx]? = some (.cells #[.int .u64 x0, .int .u64 x1] 36 (0, 0)) from (by rw [hw]; (repeat (refine blk_far ?_ N_gx_g8.out _)); exact B_gx.out)); replace B_g6 := Aside0.mk (show w9.heap[g6]? = some (.cells #[.int .u64 x0, .int .u64 x1] 36 (0, 0)) from (by rw [hw]; (repeat (refine blk_far ?_ N_g6_g8.out _)); exact B_g6.out)); replace B_g8 := Aside0.mk (show w9.heap[g8]? = some (.cells #[.int .u64 x0, .int .u64 x1] 36 (0, 0)) from (by rw [hw]; exact (blk_put (cs := #[.int .u64 x0, .int .u64 0]) (blk_put (cs := #[.int .u64 0, .int .u64 0]) B_g8.out 0 (.int .u64 x0) rfl) 1 (.int .u64 x1) rfl))); replace HS := Aside0.mk (show Stp w0 w S w9 from (by rw [hw]; exact (stp_set (stp_set HS.out G_g8.out 0 (.int .u64 x0)) G_g8.out 1 (.int .u64 x1)))); clear hw; skip)
      refine bodyPost_ret (results_cell_row rfl _ _ g8 36 #[.int .u64 x0, .int .u64 x1] (0, 0) _ rfl B_g8.out Tryd.underlying36 rfl (by kernel_rfl)) rfl ?_
      obtain rfl := HW.out
      exact ⟨rfl, stp_b HS.out⟩
    | succ k1 =>
      by_cases c3 : j < l3.length
      · have c3b : decide (j < l3.length) = true := decide_eq_true c3
        have H := HA.out
        clear HA
        rw [drop_rd l3 j c3] at H
        simp only [climbL] at H
        obtain ⟨⟨n0, n1⟩, A0, H⟩ := Option.bind_eq_some_iff.mp H
        have H' := Aside0.mk H
        clear H
        have p2 : 0 ≤ (j : Int) := by omega
        have q2 : (j : Int) < (l3.length : Int) := by omega
        have hadd : wrap64 ((j : Int) + 1) = ((j + 1 : Nat) : Int) := by have := HL.out; unfold wrap64; omega
        clear c3
        obtain ⟨ad, ea, hx0, hx1⟩ := at_T36 HR3.out (j : Int) p2 q2
        cases ea
        simp only [Int.toNat_natCast] at hx0 hx1
        have hw0 := HW.out
        replace hx0 := ((hw0 ▸ stp_b HS.out : Below w.heap.size w wr).cell (World.block_lt_of_cell? w _ hx0)).trans hx0
        replace hx1 := ((hw0 ▸ stp_b HS.out : Below w.heap.size w wr).cell (World.block_lt_of_cell? w _ hx1)).trans hx1
        clear hw0
        replace p2 := eq_true p2
        replace q2 := eq_true q2
        generalize rd_T36 l3 (j : Int) = dd at *
        cases ho : (Go.bits .and .i64 i 1 == 1) with
        | true =>
          rw [if_pos ho] at A0
          have A := Aside0.mk A0
          have HO := Aside0.mk ho
          clear A0 ho
          go_wp2_with (first
            | ((with_reducible refine gate_dst (N := 11) rfl ?_); refine box_event ?hg (N := 11) ?hd (cs := #[.int .u64 0, .int .u64 0]) (t := 36) ?hr ?_; (case hd => rfl); (case hg => rfl); (case hr => first | (go_simp; done) | (go_simp; rfl)); intro gq xg w4 y_ hb; skip; have N_gf_gq := Aside0.mk (new_ne B_gf.out xg); have N_gq_gf := Aside0.mk N_gf_gq.out.symm; have N_gi_gq := Aside0.mk (new_ne B_gi.out xg); have N_gq_gi := Aside0.mk N_gi_gq.out.symm; have N_gx_gq := Aside0.mk (new_ne B_gx.out xg); have N_gq_gx := Aside0.mk N_gx_gq.out.symm; have N_g6_gq := Aside0.mk (new_ne B_g6.out xg); have N_gq_g6 := Aside0.mk N_g6_gq.out.symm; have N_g8_gq := Aside0.mk (new_ne B_g8.out xg); have N_gq_g8 := Aside0.mk N_g8_gq.out.symm; have G_gq := Aside0.mk (stp_new HS.out xg); replace B_gf := Aside0.mk (show w4.heap[gf]? = some (.cells #[.int .i64 a0] 3 (0, 0)) from blk_below B_gf.out hb); replace B_gi := Aside0.mk (show w4.heap[gi]? = some (.cells #[.int .i64 i] 3 (0, 0)) from blk_below B_gi.out hb); replace B_gx := Aside0.mk (show w4.heap[gx]? = some (.cells #[.int .u64 x0, .int .u64 x1] 36 (0, 0)) from blk_below B_gx.out hb); replace B_g6 := Aside0.mk (show w4.heap[g6]? = some (.cells #[.int .u64 x0, .int .u64 x1] 36 (0, 0)) from blk_below B_g6.out hb); replace B_g8 := Aside0.mk (show w4.heap[g8]? = some (.cells #[.int .u64 0, .int .u64 0] 36 (0, 0)) from blk_below B_g8.out hb); replace HS := Aside0.mk (show Stp w0 w S w4 from stp_below HS.out hb); have B_gq := Aside0.mk y_; clear xg y_ hb; have c_gq_0 : w4.cell? ⟨gq, 0, none⟩ = some (.int .u64 0) := (blk_cell B_gq.out 0).trans rfl; have f_gq_0 := blk_frozen B_gq.out 0; have c_gq_1 : w4.cell? ⟨gq, 1, none⟩ = some (.int .u64 0) := (blk_cell B_gq.out 1).trans rfl; have f_gq_1 := blk_frozen B_gq.out 1)
            | ((with_reducible refine gate_store (t := 36) (p := 11) rfl ?_); refine store_event (t := 36) (p := 11) (v := .tmp 21) (w1 := ((w4.setCell ⟨gq, 0, none⟩ (.int .u64 dd.f0)).setCell ⟨gq, 1, none⟩ (.int .u64 dd.f1))) ?hg ?ho ?hn ?hr ?_; (case ho => rfl); (case hg => rfl); (case hn => rfl); (case hr => first | (go_simp; done) | (go_simp; rfl)); intro w5 hw; clear c_gq_0 f_gq_0 c_gq_1 f_gq_1; replace B_gf := Aside0.mk (show w5.heap[gf]? = some (.cells #[.int .i64 a0] 3 (0, 0)) from (by rw [hw]; (repeat (refine blk_far ?_ N_gf_gq.out _)); exact B_gf.out)); replace B_gi := Aside0.mk (show w5.heap[gi]? = some (.cells #[.int .i64 i] 3 (0, 0)) from (by rw [hw]; (repeat (refine blk_far ?_ N_gi_gq.out _)); exact B_gi.out)); replace B_gx := Aside0.mk (show w5.heap[gx]? = some (.cells #[.int .u64 x0, .int .u64 x1] 36 (0, 0)) from (by rw [hw]; (repeat (refine blk_far ?_ N_gx_gq.out _)); exact B_gx.out)); replace B_g6 := Aside0.mk (show w5.heap[g6]? = some (.cells #[.int .u64 x0, .int .u64 x1] 36 (0, 0)) from (by rw [hw]; (repeat (refine blk_far ?_ N_g6_gq.out _)); exact B_g6.out)); replace B_g8 := Aside0.mk (show w5.heap[g8]? = some (.cells #[.int .u64 0, .int .u64 0] 36 (0, 0)) from (by rw [hw]; (repeat (refine blk_far ?_ N_g8_gq.out _)); exact B_g8.out)); replace B_gq := Aside0.mk (show w5.heap[gq]? = some (.cells #[.int .u64 dd.f0, .int .u64 dd.f1] 36 (0, 0)) from (by rw [hw]; exact (blk_put (cs := #[.int .u64 dd.f0, .int .u64 0]) (blk_put (cs := #[.int .u64 0, .int .u64 0]) B_gq.out 0 (.int .u64 dd.f0) rfl) 1 (.int .u64 dd.f1) rfl))); replace HS := Aside0.mk (show Stp w0 w S w5 from (by rw [hw]; exact (stp_set (stp_set HS.out G_gq.out 0 (.int .u64 dd.f0)) G_gq.out 1 (.int .u64 dd.f1)))); clear hw; have c_gq_0 : w5.cell? ⟨gq, 0, none⟩ = some (.int .u64 dd.f0) := (blk_cell B_gq.out 0).trans rfl; have f_gq_0 := blk_frozen B_gq.out 0; have c_gq_1 : w5.cell? ⟨gq, 1, none⟩ = some (.int .u64 dd.f1) := (blk_cell B_gq.out 1).trans rfl; have f_gq_1 := blk_frozen B_gq.out 1)
            | (go_at_call 64; (with_reducible refine (climber1_odd a0 i x0 x1 dd.f0 dd.f1 n0 n1 gf gi gx w0 _ (HW.out ▸ HRG.out) (stp_b HS.out) B_gf.out B_gi.out B_gx.out N_gf_gi.out G_gf.out.1 G_gi.out.1 G_gx.out.1 HO.out A.out).mono ?_); rintro e w6 ⟨rfl, hs, bf, bi, bx⟩; clear c_gq_0 f_gq_0 c_gq_1 f_gq_1; replace B_gf := Aside0.mk (show w6.heap[gf]? = some (.cells #[.int .i64 a0] 3 (0, 0)) from bf); replace B_gi := Aside0.mk (show w6.heap[gi]? = some (.cells #[.int .i64 (i / 2)] 3 (0, 0)) from bi); replace B_gx := Aside0.mk (show w6.heap[gx]? = some (.cells #[.int .u64 n0, .int .u64 n1] 36 (0, 0)) from bx); replace B_g6 := Aside0.mk (show w6.heap[g6]? = some (.cells #[.int .u64 x0, .int .u64 x1] 36 (0, 0)) from blk_kept B_g6.out (stp_k hs) (fun h_ => h_.elim N_g6_gi.out N_g6_gx.out)); replace B_g8 := Aside0.mk (show w6.heap[g8]? = some (.cells #[.int .u64 0, .int .u64 0] 36 (0, 0)) from blk_kept B_g8.out (stp_k hs) (fun h_ => h_.elim N_g8_gi.out N_g8_gx.out)); replace B_gq := Aside0.mk (show w6.heap[gq]? = some (.cells #[.int .u64 dd.f0, .int .u64 dd.f1] 36 (0, 0)) from blk_kept B_gq.out (stp_k hs) (fun h_ => h_.elim N_gq_gi.out N_gq_gx.out)); replace HS := Aside0.mk (show Stp w0 w S w6 from stp_trans HS.out hs (fun g_ h_ => h_.elim (fun e_ => e_ ▸ G_gi.out.2) (fun e_ => e_ ▸ G_gx.out.2))); clear hs bf bi bx; have c_g6_0 : w6.cell? ⟨g6, 0, none⟩ = some (.int .u64 x0) := (blk_cell B_g6.out 0).trans rfl; have f_g6_0 := blk_frozen B_g6.out 0; have c_g6_1 : w6.cell? ⟨g6, 1, none⟩ = some (.int .u64 x1) := (blk_cell B_g6.out 1).trans rfl; have f_g6_1 := blk_frozen B_g6.out 1)
            | ((with_reducible refine gate_store (t := 36) (p := 6) rfl ?_); refine store_event (t := 36) (p := 6) (v := .tmp 27) (w1 := ((w6.setCell ⟨g6, 0, none⟩ (.int .u64 n0)).setCell ⟨g6, 1, none⟩ (.int .u64 n1))) ?hg ?ho ?hn ?hr ?_; (case ho => rfl); (case hg => rfl); (case hn => rfl); (case hr => first | (go_simp; done) | (go_simp; rfl)); intro w7 hw; clear c_g6_0 f_g6_0 c_g6_1 f_g6_1; replace B_gf := Aside0.mk (show w7.heap[gf]? = some (.cells #[.int .i64 a0] 3 (0, 0)) from (by rw [hw]; (repeat (refine blk_far ?_ N_gf_g6.out _)); exact B_gf.out)); replace B_gi := Aside0.mk (show w7.heap[gi]? = some (.cells #[.int .i64 (i / 2)] 3 (0, 0)) from (by rw [hw]; (repeat (refine blk_far ?_ N_gi_g6.out _)); exact B_gi.out)); replace B_gx := Aside0.mk (show w7.heap[gx]? = some (.cells #[.int .u64 n0, .int .u64 n1] 36 (0, 0)) from (by rw [hw]; (repeat (refine blk_far ?_ N_gx_g6.out _)); exact B_gx.out)); replace B_g6 := Aside0.mk (show w7.heap[g6]? = some (.cells #[.int .u64 n0, .int .u64 n1] 36 (0, 0)) from (by rw [hw]; exact (blk_put (cs := #[.int .u64 n0, .int .u64 x1]) (blk_put (cs := #[.int .u64 x0, .int .u64 x1]) B_g6.out 0 (.int .u64 n0) rfl) 1 (.int .u64 n1) rfl))); replace B_g8 := Aside0.mk (show w7.heap[g8]? = some (.cells #[.int .u64 0, .int .u64 0] 36 (0, 0)) from (by rw [hw]; (repeat (refine blk_far ?_ N_g8_g6.out _)); exact B_g8.out)); replace B_gq := Aside0.mk (show w7.heap[gq]? = some (.cells #[.int .u64 dd.f0, .int .u64 dd.f1] 36 (0, 0)) from (by rw [hw]; (repeat (refine blk_far ?_ N_gq_g6.out _)); exact B_gq.out)); replace HS := Aside0.mk (show Stp w0 w S w7 from (by rw [hw]; exact (stp_set (stp_set HS.out G_g6.out 0 (.int .u64 n0)) G_g6.out 1 (.int .u64 n1)))); clear hw; skip))
          go_roundg k1
          case measure => omega
          case rel => exact ⟨j + 1, i / 2, n0, n1, by rw [hadd], H', ⟨by have := HK.out; omega⟩, B_gf, B_gi, B_gx, B_g6, B_g8, HS⟩
        | false =>
          rw [if_neg (by rw [ho]; decide)] at A0
          have A := Aside0.mk A0
          have HO := Aside0.mk ho
          clear A0 ho
          go_wp2_with (first
            | ((with_reducible refine gate_dst (N := 11) rfl ?_); refine box_event ?hg (N := 11) ?hd (cs := #[.int .u64 0, .int .u64 0]) (t := 36) ?hr ?_; (case hd => rfl); (case hg => rfl); (case hr => first | (go_simp; done) | (go_simp; rfl)); intro gq xg w4 y_ hb; skip; have N_gf_gq := Aside0.mk (new_ne B_gf.out xg); have N_gq_gf := Aside0.mk N_gf_gq.out.symm; have N_gi_gq := Aside0.mk (new_ne B_gi.out xg); have N_gq_gi := Aside0.mk N_gi_gq.out.symm; have N_gx_gq := Aside0.mk (new_ne B_gx.out xg); have N_gq_gx := Aside0.mk N_gx_gq.out.symm; have N_g6_gq := Aside0.mk (new_ne B_g6.out xg); have N_gq_g6 := Aside0.mk N_g6_gq.out.symm; have N_g8_gq := Aside0.mk (new_ne B_g8.out xg); have N_gq_g8 := Aside0.mk N_g8_gq.out.symm; have G_gq := Aside0.mk (stp_new HS.out xg); replace B_gf := Aside0.mk (show w4.heap[gf]? = some (.cells #[.int .i64 a0] 3 (0, 0)) from blk_below B_gf.out hb); replace B_gi := Aside0.mk (show w4.heap[gi]? = some (.cells #[.int .i64 i] 3 (0, 0)) from blk_below B_gi.out hb); replace B_gx := Aside0.mk (show w4.heap[gx]? = some (.cells #[.int .u64 x0, .int .u64 x1] 36 (0, 0)) from blk_below B_gx.out hb); replace B_g6 := Aside0.mk (show w4.heap[g6]? = some (.cells #[.int .u64 x0, .int .u64 x1] 36 (0, 0)) from blk_below B_g6.out hb); replace B_g8 := Aside0.mk (show w4.heap[g8]? = some (.cells #[.int .u64 0, .int .u64 0] 36 (0, 0)) from blk_below B_g8.out hb); replace HS := Aside0.mk (show Stp w0 w S w4 from stp_below HS.out hb); have B_gq := Aside0.mk y_; clear xg y_ hb; have c_gq_0 : w4.cell? ⟨gq, 0, none⟩ = some (.int .u64 0) := (blk_cell B_gq.out 0).trans rfl; have f_gq_0 := blk_frozen B_gq.out 0; have c_gq_1 : w4.cell? ⟨gq, 1, none⟩ = some (.int .u64 0) := (blk_cell B_gq.out 1).trans rfl; have f_gq_1 := blk_frozen B_gq.out 1)
            | ((with_reducible refine gate_store (t := 36) (p := 11) rfl ?_); refine store_event (t := 36) (p := 11) (v := .tmp 21) (w1 := ((w4.setCell ⟨gq, 0, none⟩ (.int .u64 dd.f0)).setCell ⟨gq, 1, none⟩ (.int .u64 dd.f1))) ?hg ?ho ?hn ?hr ?_; (case ho => rfl); (case hg => rfl); (case hn => rfl); (case hr => first | (go_simp; done) | (go_simp; rfl)); intro w5 hw; clear c_gq_0 f_gq_0 c_gq_1 f_gq_1; replace B_gf := Aside0.mk (show w5.heap[gf]? = some (.cells #[.int .i64 a0] 3 (0, 0)) from (by rw [hw]; (repeat (refine blk_far ?_ N_gf_gq.out _)); exact B_gf.out)); replace B_gi := Aside0.mk (show w5.heap[gi]? = some (.cells #[.int .i64 i] 3 (0, 0)) from (by rw [hw]; (repeat (refine blk_far ?_ N_gi_gq.out _)); exact B_gi.out)); replace B_gx := Aside0.mk (show w5.heap[gx]? = some (.cells #[.int .u64 x0, .int .u64 x1] 36 (0, 0)) from (by rw [hw]; (repeat (refine blk_far ?_ N_gx_gq.out _)); exact B_gx.out)); replace B_g6 := Aside0.mk (show w5.heap[g6]? = some (.cells #[.int .u64 x0, .int .u64 x1] 36 (0, 0)) from (by rw [hw]; (repeat (refine blk_far ?_ N_g6_gq.out _)); exact B_g6.out)); replace B_g8 := Aside0.mk (show w5.heap[g8]? = some (.cells #[.int .u64 0, .int .u64 0] 36 (0, 0)) from (by rw [hw]; (repeat (refine blk_far ?_ N_g8_gq.out _)); exact B_g8.out)); replace B_gq := Aside0.mk (show w5.heap[gq]? = some (.cells #[.int .u64 dd.f0, .int .u64 dd.f1] 36 (0, 0)) from (by rw [hw]; exact (blk_put (cs := #[.int .u64 dd.f0, .int .u64 0]) (blk_put (cs := #[.int .u64 0, .int .u64 0]) B_gq.out 0 (.int .u64 dd.f0) rfl) 1 (.int .u64 dd.f1) rfl))); replace HS := Aside0.mk (show Stp w0 w S w5 from (by rw [hw]; exact (stp_set (stp_set HS.out G_gq.out 0 (.int .u64 dd.f0)) G_gq.out 1 (.int .u64 dd.f1)))); clear hw; have c_gq_0 : w5.cell? ⟨gq, 0, none⟩ = some (.int .u64 dd.f0) := (blk_cell B_gq.out 0).trans rfl; have f_gq_0 := blk_frozen B_gq.out 0; have c_gq_1 : w5.cell? ⟨gq, 1, none⟩ = some (.int .u64 dd.f1) := (blk_cell B_gq.out 1).trans rfl; have f_gq_1 := blk_frozen B_gq.out 1)
            | (go_at_call 64; (with_reducible refine (climber1_even a0 i x0 x1 dd.f0 dd.f1 n0 n1 gf gi gx w0 _ (HW.out ▸ HRG.out) (stp_b HS.out) B_gf.out B_gi.out B_gx.out N_gf_gi.out G_gf.out.1 G_gi.out.1 G_gx.out.1 HO.out A.out).mono ?_); rintro e w6 ⟨rfl, hs, bf, bi, bx⟩; clear c_gq_0 f_gq_0 c_gq_1 f_gq_1; replace B_gf := Aside0.mk (show w6.heap[gf]? = some (.cells #[.int .i64 a0] 3 (0, 0)) from bf); replace B_gi := Aside0.mk (show w6.heap[gi]? = some (.cells #[.int .i64 (i / 2)] 3 (0, 0)) from bi); replace B_gx := Aside0.mk (show w6.heap[gx]? = some (.cells #[.int .u64 n0, .int .u64 n1] 36 (0, 0)) from bx); replace B_g6 := Aside0.mk (show w6.heap[g6]? = some (.cells #[.int .u64 x0, .int .u64 x1] 36 (0, 0)) from blk_kept B_g6.out (stp_k hs) (fun h_ => h_.elim N_g6_gi.out N_g6_gx.out)); replace B_g8 := Aside0.mk (show w6.heap[g8]? = some (.cells #[.int .u64 0, .int .u64 0] 36 (0, 0)) from blk_kept B_g8.out (stp_k hs) (fun h_ => h_.elim N_g8_gi.out N_g8_gx.out)); replace B_gq := Aside0.mk (show w6.heap[gq]? = some (.cells #[.int .u64 dd.f0, .int .u64 dd.f1] 36 (0, 0)) from blk_kept B_gq.out (stp_k hs) (fun h_ => h_.elim N_gq_gi.out N_gq_gx.out)); replace HS := Aside0.mk (show Stp w0 w S w6 from stp_trans HS.out hs (fun g_ h_ => h_.elim (fun e_ => e_ ▸ G_gi.out.2) (fun e_ => e_ ▸ G_gx.out.2))); clear hs bf bi bx; have c_g6_0 : w6.cell? ⟨g6, 0, none⟩ = some (.int .u64 x0) := (blk_cell B_g6.out 0).trans rfl; have f_g6_0 := blk_frozen B_g6.out 0; have c_g6_1 : w6.cell? ⟨g6, 1, none⟩ = some (.int .u64 x1) := (blk_cell B_g6.out 1).trans rfl; have f_g6_1 := blk_frozen B_g6.out 1)
            | ((with_reducible refine gate_store (t := 36) (p := 6) rfl ?_); refine store_event (t := 36) (p := 6) (v := .tmp 27) (w1 := ((w6.setCell ⟨g6, 0, none⟩ (.int .u64 n0)).setCell ⟨g6, 1, none⟩ (.int .u64 n1))) ?hg ?ho ?hn ?hr ?_; (case ho => rfl); (case hg => rfl); (case hn => rfl); (case hr => first | (go_simp; done) | (go_simp; rfl)); intro w7 hw; clear c_g6_0 f_g6_0 c_g6_1 f_g6_1; replace B_gf := Aside0.mk (show w7.heap[gf]? = some (.cells #[.int .i64 a0] 3 (0, 0)) from (by rw [hw]; (repeat (refine blk_far ?_ N_gf_g6.out _)); exact B_gf.out)); replace B_gi := Aside0.mk (show w7.heap[gi]? = some (.cells #[.int .i64 (i / 2)] 3 (0, 0)) from (by rw [hw]; (repeat (refine blk_far ?_ N_gi_g6.out _)); exact B_gi.out)); replace B_gx := Aside0.mk (show w7.heap[gx]? = some (.cells #[.int .u64 n0, .int .u64 n1] 36 (0, 0)) from (by rw [hw]; (repeat (refine blk_far ?_ N_gx_g6.out _)); exact B_gx.out)); replace B_g6 := Aside0.mk (show w7.heap[g6]? = some (.cells #[.int .u64 n0, .int .u64 n1] 36 (0, 0)) from (by rw [hw]; exact (blk_put (cs := #[.int .u64 n0, .int .u64 x1]) (blk_put (cs := #[.int .u64 x0, .int .u64 x1]) B_g6.out 0 (.int .u64 n0) rfl) 1 (.int .u64 n1) rfl))); replace B_g8 := Aside0.mk (show w7.heap[g8]? = some (.cells #[.int .u64 0, .int .u64 0] 36 (0, 0)) from (by rw [hw]; (repeat (refine blk_far ?_ N_g8_g6.out _)); exact B_g8.out)); replace B_gq := Aside0.mk (show w7.heap[gq]? = some (.cells #[.int .u64 dd.f0, .int .u64 dd.f1] 36 (0, 0)) from (by rw [hw]; (repeat (refine blk_far ?_ N_gq_g6.out _)); exact B_gq.out)); replace HS := Aside0.mk (show Stp w0 w S w7 from (by rw [hw]; exact (stp_set (stp_set HS.out G_g6.out 0 (.int .u64 n0)) G_g6.out 1 (.int .u64 n1)))); clear hw; skip))
          go_roundg k1
          case measure => omega
          case rel => exact ⟨j + 1, i / 2, n0, n1, by rw [hadd], H', ⟨by have := HK.out; omega⟩, B_gf, B_gi, B_gx, B_g6, B_g8, HS⟩
      · have c3b : decide (j < l3.length) = false := decide_eq_false c3
        obtain ⟨rfl, rfl⟩ : x0 = r1 ∧ x1 = r2 := by have h1 := HA.out; rw [List.drop_eq_nil_of_le (by omega)] at h1; simpa [climbL] using h1
        clear HA
        have c_g6_0 : wr.cell? ⟨g6, 0, none⟩ = some (.int .u64 x0) := (blk_cell B_g6.out 0).trans rfl
        have f_g6_0 := blk_frozen B_g6.out 0
        have c_g6_1 : wr.cell? ⟨g6, 1, none⟩ = some (.int .u64 x1) := (blk_cell B_g6.out 1).trans rfl
        have f_g6_1 := blk_frozen B_g6.out 1
        have c_g8_0 : wr.cell? ⟨g8, 0, none⟩ = some (.int .u64 0) := (blk_cell B_g8.out 0).trans rfl
        have f_g8_0 := blk_frozen B_g8.out 0
        have c_g8_1 : wr.cell? ⟨g8, 1, none⟩ = some (.int .u64 0) := (blk_cell B_g8.out 1).trans rfl
        have f_g8_1 := blk_frozen B_g8.out 1
        go_wp2_with ((with_reducible refine gate_store (t := 36) (p := 8) rfl ?_); refine store_event (t := 36) (p := 8) (v := .tmp 29) (w1 := ((wr.setCell ⟨g8, 0, none⟩ (.int .u64 x0)).setCell ⟨g8, 1, none⟩ (.int .u64 x1))) ?hg ?ho ?hn ?hr ?_; (case ho => rfl); (case hg => rfl); (case hn => rfl); (case hr => first | (go_simp; done) | (go_simp; rfl)); intro w9 hw; clear c_g6_0 f_g6_0 c_g6_1 f_g6_1 c_g8_0 f_g8_0 c_g8_1 f_g8_1; replace B_gf := Aside0.mk (show w9.heap[gf]? = some (.cells #[.int .i64 a0] 3 (0, 0)) from (by rw [hw]; (repeat (refine blk_far ?_ N_gf_g8.out _)); exact B_gf.out)); replace B_gi := Aside0.mk (show w9.heap[gi]? = some (.cells #[.int .i64 i] 3 (0, 0)) from (by rw [hw]; (repeat (refine blk_far ?_ N_gi_g8.out _)); exact B_gi.out)); replace B_gx := Aside0.mk (show w9.heap[gx]? = some (.cells #[.int .u64 x0, .int .u64 x1] 36 (0, 0)) from (by rw [hw]; (repeat (refine blk_far ?_ N_gx_g8.out _)); exact B_gx.out)); replace B_g6 := Aside0.mk (show w9.heap[g6]? = some (.cells #[.int .u64 x0, .int .u64 x1] 36 (0, 0)) from (by rw [hw]; (repeat (refine blk_far ?_ N_g6_g8.out _)); exact B_g6.out)); replace B_g8 := Aside0.mk (show w9.heap[g8]? = some (.cells #[.int .u64 x0, .int .u64 x1] 36 (0, 0)) from (by rw [hw]; exact (blk_put (cs := #[.int .u64 x0, .int .u64 0]) (blk_put (cs := #[.int .u64 0, .int .u64 0]) B_g8.out 0 (.int .u64 x0) rfl) 1 (.int .u64 x1) rfl))); replace HS := Aside0.mk (show Stp w0 w S w9 from (by rw [hw]; exact (stp_set (stp_set HS.out G_g8.out 0 (.int .u64 x0)) G_g8.out 1 (.int .u64 x1)))); clear hw; skip)
        refine bodyPost_ret (results_cell_row rfl _ _ g8 36 #[.int .u64 x0, .int .u64 x1] (0, 0) _ rfl B_g8.out Tryd.underlying36 rfl (by kernel_rfl)) rfl ?_
        obtain rfl := HW.out
        exact ⟨rfl, stp_b HS.out⟩
end Go.Proofs.YtpnpmeogffodgaaDoor.Q
end
section
namespace Go.Proofs.YtpnpmeogffodgaaDoor.Q
open Go.RowKit Go.Proofs.YtpnpmeogffodgaaDoorW.PrintWords Go.Proofs.YtpnpmeogffodgaaDoorW.PrintLast Go.Proofs.YtpnpmeogffodgaaDoorW.PrintMore
set_option linter.unusedVariables false
set_option linter.unusedSimpArgs false
theorem proper1_calls (gp : Nat) (p d0 d1 : Int) (w : World) (hp : w.cell? ⟨gp, 0, none⟩ = some (.int .u64 p)) :
    Calls Tryd.prog 60 #[.agg #[.int .u64 d0, .int .u64 d1], .pointer (some ⟨gp, 0, none⟩)] w fun e w' => e = .returned (.bool (decide (p ≤ d0) || decide (p ≤ d1))) ∧ Below w.heap.size w w' := by
  have hu36 := Tryd.underlying36
  have g0 := fun O => pw_cell_below (below_alloc (Below.refl _ w) O) hp
  clear hp
  cases c0 : decide (p ≤ d0) with
  | true =>
    go_enter Tryd.func60, Tryd.ntmps60
    go_wp2
    go_ret
    exact ⟨rfl, below_alloc (Below.refl _ _) _⟩
  | false =>
    cases c1 : decide (p ≤ d1) with
    | true =>
      go_enter Tryd.func60, Tryd.ntmps60
      go_wp2
      go_ret
      exact ⟨rfl, below_alloc (Below.refl _ _) _⟩
    | false =>
      go_enter Tryd.func60, Tryd.ntmps60
      go_wp2
      go_ret
      exact ⟨rfl, below_alloc (Below.refl _ _) _⟩
/-- Is a digest not proper? -/
def badD (p : Int) (d : S36) : Bool := decide (p ≤ d.f0) || decide (p ≤ d.f1)
def idxD (p : Int) (l : List S36) : Nat → Nat → Int
  | 0, _ => -1
  | k + 1, i => if i < l.length then (if badD p (rd_T36 l (i : Int)) = true then (i : Int) else idxD p l k (i + 1)) else -1
set_option maxHeartbeats 2000000 in
set_option maxRecDepth 100000 in
theorem index_calls (gp : Nat) (p : Int) (A1 : Option Addr) (c1 : Nat) (l1 : List (S36)) (r : Int) (w : World) (hp : w.cell? ⟨gp, 0, none⟩ = some (.int .u64 p)) (hr1 : Kd.C k36 w A1 l1.length l1) (hc1 : l1.length ≤ c1) (h : idxD p l1 (l1.length + 1) 0 = r) :
    Calls Tryd.prog 71 #[.slice A1 l1.length c1, .func (.func 60) #[] #[.pointer (some ⟨gp, 0, none⟩)]] w fun e w' => e = .returned (.int .i64 r) ∧ Below w.heap.size w w' := by
  have hu36 := Tryd.underlying36
  have HR1 := Aside0.mk hr1
  have HP := Aside0.mk hp
  have HC1 := Aside0.mk hc1
  have H' := Aside0.mk h
  have hl : l1.length ≤ 9223372036854775807 := Kd.C_max hr1
  have HL := Aside0.mk hl
  clear hr1 hc1 hp h hl
  have HB := Aside0.mk (Below.refl w.heap.size w)
  go_enter Tryd.func71, Tryd.ntmps71
  go_wp2
  go_loopg [8] (l1.length + 1) (fun kq v8 w' => ∃ i : Nat, v8 = .int .i64 (i : Int) ∧ Aside0 (idxD p l1 kq i = r) ∧ Aside0 (kq + i = l1.length + 1) ∧ Aside0 (Below w.heap.size w w'))
  case atStart => exact ⟨0, rfl, H', ⟨rfl⟩, HB⟩
  case round =>
    clear H' HB
    obtain ⟨i, rfl, HA, HK, HB⟩ := hrel
    cases gk with
    | zero =>
      have c3b0 : decide (i < l1.length) = false := decide_eq_false (by have := HK.out; omega)
      obtain rfl : -1 = r := HA.out
      go_wp2
      go_ret
      exact ⟨rfl, HB.out⟩
    | succ k1 =>
      have H := HA.out
      clear HA
      simp only [idxD] at H
      by_cases c3 : i < l1.length
      · rw [if_pos c3] at H
        have c3b0 : decide (i < l1.length) = true := decide_eq_true c3
        have p271 : 0 ≤ (i : Int) := by omega
        have q271 : (i : Int) < (l1.length : Int) := by omega
        clear c3
        have hadd : wrap64 ((i : Int) + 1) = ((i + 1 : Nat) : Int) := by have := HL.out; unfold wrap64; omega
        obtain ⟨ad271, e271, hx271_0, hx271_1⟩ := at_T36 HR1.out (i : Int) p271 q271
        cases e271
        simp only [Int.toNat_natCast] at hx271_0 hx271_1
        replace hx271_0 := (HB.out.cell (World.block_lt_of_cell? w _ hx271_0)).trans hx271_0
        replace hx271_1 := (HB.out.cell (World.block_lt_of_cell? w _ hx271_1)).trans hx271_1
        replace p271 := eq_true p271
        replace q271 := eq_true q271
        have HC := Aside0.mk (fun W (hp : W.cell? ⟨gp, 0, none⟩ = some (.int .u64 p)) => proper1_calls gp p (rd_T36 l1 (i : Int)).f0 (rd_T36 l1 (i : Int)).f1 W hp)
        have HP2 := Aside0.mk (pw_cell_below HB.out HP.out)
        by_cases c6 : badD p (rd_T36 l1 (i : Int)) = true
        · rw [if_pos c6] at H
          obtain rfl := H
          have c6b : (decide (p ≤ (rd_T36 l1 (i : Int)).f0) || decide (p ≤ (rd_T36 l1 (i : Int)).f1)) = true := c6
          clear c6
          rw [c6b] at HC
          go_wp2_with (go_at_call 60; (with_reducible refine (HC.out _ HP2.out).mono ?_); rintro e w7 ⟨rfl, hb⟩; have HB7 := Aside0.mk (below_step HB.out hb); clear hb)
          go_ret
          exact ⟨rfl, HB7.out⟩
        · rw [if_neg c6] at H
          have c6b : (decide (p ≤ (rd_T36 l1 (i : Int)).f0) || decide (p ≤ (rd_T36 l1 (i : Int)).f1)) = false := Bool.eq_false_iff.mpr c6
          clear c6
          rw [c6b] at HC
          have H2 := Aside0.mk H
          clear H
          go_wp2_with (go_at_call 60; (with_reducible refine (HC.out _ HP2.out).mono ?_); rintro e w7 ⟨rfl, hb⟩; have HB7 := Aside0.mk (below_step HB.out hb); clear hb)
          go_roundg k1
          case measure => omega
          case rel => exact ⟨i + 1, by rw [hadd], H2, ⟨by have := HK.out; omega⟩, HB7⟩
      · rw [if_neg c3] at H
        have c3b0 : decide (i < l1.length) = false := decide_eq_false (by omega)
        obtain rfl : -1 = r := H
        clear c3
        go_wp2
        go_ret
        exact ⟨rfl, HB.out⟩
theorem idx_bad (p : Int) (l : List S36) : ∀ k i, k + i = l.length + 1 → decide (0 ≤ idxD p l k i) = (l.drop i).any (badD p)
  | 0, i, h => by
    rw [List.drop_eq_nil_of_le (by omega)]
    simp [idxD]
  | k + 1, i, h => by
    unfold idxD
    by_cases hi : i < l.length
    · rw [if_pos hi, List.drop_eq_getElem_cons hi, List.any_cons]
      have e : rd_T36 l (i : Int) = l[i] := by simp [rd_T36, List.getD, hi]
      rw [e]
      by_cases hb : badD p l[i] = true
      · rw [if_pos hb, hb, Bool.true_or]
        exact decide_eq_true (by omega)
      · rw [if_neg hb, Bool.eq_false_iff.mpr hb, Bool.false_or]
        exact idx_bad p l k (i + 1) (by omega)
    · rw [if_neg hi, List.drop_eq_nil_of_le (by omega)]
      simp
set_option maxHeartbeats 2000000 in
set_option maxRecDepth 100000 in
theorem contains_calls (gp : Nat) (p : Int) (A1 : Option Addr) (c1 : Nat) (l1 : List (S36)) (w : World) (hp : w.cell? ⟨gp, 0, none⟩ = some (.int .u64 p)) (hr1 : Kd.C k36 w A1 l1.length l1) (hc1 : l1.length ≤ c1) :
    Calls Tryd.prog 59 #[.slice A1 l1.length c1, .func (.func 60) #[] #[.pointer (some ⟨gp, 0, none⟩)]] w fun e w' => e = .returned (.bool (l1.any (badD p))) ∧ Below w.heap.size w w' := by
  have HC := Aside0.mk (index_calls gp p A1 c1 l1 _ w hp hr1 hc1 rfl)
  have hb : decide (0 ≤ idxD p l1 (l1.length + 1) 0) = l1.any (badD p) := by have := idx_bad p l1 (l1.length + 1) 0 rfl; rw [List.drop_zero] at this; exact this
  generalize idxD p l1 (l1.length + 1) 0 = r at *
  rw [← hb]
  clear hb hp hr1 hc1
  go_enter Tryd.func59, Tryd.ntmps59
  go_wp2_with (go_at_call 71; (with_reducible refine HC.out.mono ?_); rintro e w7 ⟨rfl, hb⟩; have HB7 := Aside0.mk hb; clear hb)
  go_ret
  exact ⟨rfl, HB7.out⟩
def tree_proper.f (f : Int) (l : List S36) : Option Bool := (field_P.f f).bind fun p => some (!(l.any (badD p)))
set_option maxHeartbeats 2000000 in
set_option maxRecDepth 100000 in
theorem tree_proper.calls (a0 : Int) (A1 : Option Addr) (c1 : Nat) (l1 : List (S36)) (r : Bool) (w : World) (hr1 : Kd.C k36 w A1 l1.length l1) (hc1 : l1.length ≤ c1) (hrG : GL w) (h : tree_proper.f a0 l1 = some r) :
    Calls Tryd.prog 39 #[.int .i64 a0, .slice A1 l1.length c1] w fun e w' => e = .returned (.bool r) ∧ Below w.heap.size w w' := by
  have HRG := Aside0.mk hrG
  have HR1 := Aside0.mk hr1
  obtain ⟨p, A0, H⟩ := Option.bind_eq_some_iff.mp h
  have HPC := Aside0.mk (field_P.calls a0 p w hrG A0)
  have hmf : ∀ (fn : Fn) (first cap : Array Value) (w : World), (Instr.makeFunc fn first cap).run Tryd.prog w = .ok (.func fn first cap) w := fun _ _ _ _ => rfl
  obtain rfl := Option.some.inj H
  clear h H A0 hrG hr1
  have HC := Aside0.mk (fun (gp : Nat) (W : World) (hb : Below w.heap.size w W) hp => contains_calls gp p A1 c1 l1 W hp (Kd.C_below HR1.out hb) hc1)
  generalize l1.any (badD p) = b at *
  go_enter Tryd.func39, Tryd.ntmps39
  go_wp2_with (first
    | (go_at_call 58; (with_reducible refine HPC.out.mono ?_); rintro e w3 ⟨rfl, hb⟩; have HB3 := Aside0.mk hb; clear hb)
    | ((with_reducible refine gate_dst (N := 5) rfl ?_); refine box_event ?hg (N := 5) ?hd (cs := #[.int .u64 0]) (t := 34) ?hr ?_; (case hd => rfl); (case hg => rfl); (case hr => first | (go_simp; done) | (go_simp; rfl)); intro gp xg w4 y4 hb; have HB4 := Aside0.mk (below_step HB3.out hb); have B4 := Aside0.mk y4; have HG := Aside0.mk (show w.heap.size ≤ gp from xg ▸ HB3.out.size); have hx4 : w4.cell? ⟨gp, 0, none⟩ = some (.int .u64 0) := (blk_cell y4 0).trans rfl; have hf4 := blk_frozen y4 0; clear xg y4 hb HB3)
    | ((with_reducible refine gate_store (t := 34) (p := 5) rfl ?_); refine store_event (t := 34) (p := 5) (v := .tmp 7) (w1 := (w4.setCell ⟨gp, 0, none⟩ (.int .u64 p))) ?hg ?ho ?hn ?hr ?_; (case ho => rfl); (case hg => rfl); (case hn => rfl); (case hr => first | (go_simp; done) | (go_simp; rfl)); intro w5 hw; have HB5 := Aside0.mk (show Below w.heap.size w w5 from by rw [hw]; exact below_set HB4.out HG.out); have C5 := Aside0.mk (show w5.cell? ⟨gp, 0, none⟩ = some (.int .u64 p) from by rw [hw]; exact (blk_cell (blk_put B4.out 0 _ rfl) 0).trans rfl); clear hw hx4 hf4)
    | (go_at_call 59; (with_reducible refine (HC.out _ _ HB5.out C5.out).mono ?_); rintro e w6 ⟨rfl, hb⟩; have HB6 := Aside0.mk (below_step HB5.out hb); clear hb))
  go_ret
  exact ⟨rfl, HB6.out⟩
end Go.Proofs.YtpnpmeogffodgaaDoor.Q
end
section
namespace Go.Proofs.YtpnpmeogffodgaaDoor.Q
open Go.RowKit Go.Proofs.YtpnpmeogffodgaaDoorW.PrintWords Go.Proofs.YtpnpmeogffodgaaDoorW.PrintLast Go.Proofs.YtpnpmeogffodgaaDoorW.PrintMore
set_option linter.unusedVariables false
set_option linter.unusedSimpArgs false
/-- The place of the one bit of a power of two. -/
def lgI (n : Int) : Int := if n = 1 then 0 else if n = 2 then 1 else if n = 4 then 2 else if n = 8 then 3 else if n = 16 then 4 else if n = 32 then 5 else if n = 64 then 6 else if n = 128 then 7 else if n = 256 then 8 else if n = 512 then 9 else if n = 1024 then 10 else if n = 2048 then 11 else if n = 4096 then 12 else if n = 8192 then 13 else if n = 16384 then 14 else if n = 32768 then 15 else if n = 65536 then 16 else if n = 131072 then 17 else if n = 262144 then 18 else -1
theorem and_nat (n : Nat) (h : n < 1000000) (h1 : 1 ≤ n) : Go.bits .and .i64 (n : Int) (wrap64 ((n : Int) - 1)) = ((n &&& (n - 1) : Nat) : Int) := by
  have e : wrap64 ((n : Int) - 1) = ((n - 1 : Nat) : Int) := by unfold wrap64; omega
  rw [e]
  have h3 : n &&& (n - 1) ≤ n := Nat.and_le_left
  have hh : ∀ m : Nat, m < 1000000 → (BitVec.ofInt 64 (m : Int)).toNat = m := fun m hm => by
    rw [BitVec.ofInt_natCast, BitVec.toNat_ofNat]; exact Nat.mod_eq_of_lt (by omega)
  show IntKind.i64.wrap ((BitVec.ofInt 64 (n : Int) &&& BitVec.ofInt 64 ((n - 1 : Nat) : Int)).toNat : Int) = _
  rw [BitVec.toNat_and, hh n h, hh (n - 1) (by omega), IntKind.wrap_i64]
  omega
theorem pow_of_and : ∀ n : Nat, 0 < n → n &&& (n - 1) = 0 → ∃ k, n = 2 ^ k := by
  intro n
  induction n using Nat.strongRecOn with
  | ind n ih =>
    intro h0 h
    have hd := congrArg (· / 2) h
    simp only [Nat.and_div_two] at hd
    rcases Nat.mod_two_eq_zero_or_one n with e | e
    · have e1 : (n - 1) / 2 = n / 2 - 1 := by omega
      rw [e1] at hd
      obtain ⟨k, hk⟩ := ih (n / 2) (by omega) (by omega) (by simpa using hd)
      exact ⟨k + 1, by rw [Nat.pow_succ, ← hk]; omega⟩
    · have e1 : (n - 1) / 2 = n / 2 := by omega
      rw [e1, Nat.and_self] at hd
      exact ⟨0, by omega⟩
theorem tz64_calls (n : Int) (k idx : Nat) (w : World) (hx0 : (n == 0) = false)
    (key : IntKind.u64.wrap (Go.bits BinOp.and IntKind.u64 n (IntKind.u64.wrap (-n)) * 285870213051353865) / 288230376151711744 = (idx : Int))
    (hi : idx < 64) (hk : k < 64) (hcell : w.cell? ⟨1, idx, none⟩ = some (.int .u8 (k : Int))) :
    Calls Tryd.prog 69 #[.int .u64 n] w fun e w' => e = .returned (.int .i64 (k : Int)) ∧ w' = w := by
  have hu := Tryd.underlying100
  have hi2 : ((idx : Int) < 64) = True := eq_true (by omega)
  have hi3 : (0 ≤ (idx : Int)) = True := eq_true (by omega)
  go_enter Tryd.func69, Tryd.ntmps69
  go_wp2_with (simp only [key])
  go_ret
  exact ⟨rfl, rfl⟩
theorem tz_calls (n : Int) (k idx : Nat) (w : World) (hx0 : (n == 0) = false)
    (key : IntKind.u64.wrap (Go.bits BinOp.and IntKind.u64 n (IntKind.u64.wrap (-n)) * 285870213051353865) / 288230376151711744 = (idx : Int))
    (hi : idx < 64) (hk : k < 64) (hcell : w.cell? ⟨1, idx, none⟩ = some (.int .u8 (k : Int))) :
    Calls Tryd.prog 57 #[.int .u64 n] w fun e w' => e = .returned (.int .i64 (k : Int)) ∧ w' = w := by
  have C := Aside0.mk (tz64_calls n k idx w hx0 key hi hk hcell)
  clear key hcell hx0
  go_enter Tryd.func57, Tryd.ntmps57
  go_wp2_with (go_at_call 69; refine C.out.mono ?_; rintro e w' ⟨rfl, hw'⟩; rw [hw'])
  go_ret
  exact ⟨rfl, rfl⟩
/-- The nineteen powers of two. -/
theorem keys : ∀ k : Fin 19, IntKind.u64.wrap (Go.bits BinOp.and IntKind.u64 (2 ^ (k : Nat) : Nat) (IntKind.u64.wrap (-((2 ^ (k : Nat) : Nat) : Int))) * 285870213051353865) / 288230376151711744 = (((2 ^ (k : Nat) * 285870213051353865 % 18446744073709551616) / 288230376151711744 : Nat) : Int) ∧ (2 ^ (k : Nat) * 285870213051353865 % 18446744073709551616) / 288230376151711744 < 64 ∧ db64.getD ((2 ^ (k : Nat) * 285870213051353865 % 18446744073709551616) / 288230376151711744) 0 = ((k : Nat) : Int) ∧ lgI (2 ^ (k : Nat) : Nat) = ((k : Nat) : Int) := by decide +kernel
theorem tz_pow (k : Nat) (hk : k < 19) (w : World) (hG : GL w) : Calls Tryd.prog 57 #[.int .u64 ((2 ^ k : Nat) : Int)] w fun e w' => e = .returned (.int .i64 (k : Int)) ∧ w' = w := by
  obtain ⟨h1, h2, h3, _⟩ := keys ⟨k, hk⟩
  refine tz_calls _ k _ w ?_ h1 h2 (by omega) ?_
  · have := Nat.pow_pos (n := k) (show 0 < 2 by decide)
    exact beq_eq_false_iff_ne.mpr (by omega)
  · rw [hG.d64 _ h2, h3]
def tree_height.f (n : Int) : Option Int := some (if n < 1 then -1 else lgI n)
theorem lgI_none (n : Int) (h : ∀ k : Nat, k < 19 → n ≠ ((2 ^ k : Nat) : Int)) : lgI n = -1 := by
  have a0 : n ≠ 1 := h 0 (by omega)
  have a1 : n ≠ 2 := h 1 (by omega)
  have a2 : n ≠ 4 := h 2 (by omega)
  have a3 : n ≠ 8 := h 3 (by omega)
  have a4 : n ≠ 16 := h 4 (by omega)
  have a5 : n ≠ 32 := h 5 (by omega)
  have a6 : n ≠ 64 := h 6 (by omega)
  have a7 : n ≠ 128 := h 7 (by omega)
  have a8 : n ≠ 256 := h 8 (by omega)
  have a9 : n ≠ 512 := h 9 (by omega)
  have a10 : n ≠ 1024 := h 10 (by omega)
  have a11 : n ≠ 2048 := h 11 (by omega)
  have a12 : n ≠ 4096 := h 12 (by omega)
  have a13 : n ≠ 8192 := h 13 (by omega)
  have a14 : n ≠ 16384 := h 14 (by omega)
  have a15 : n ≠ 32768 := h 15 (by omega)
  have a16 : n ≠ 65536 := h 16 (by omega)
  have a17 : n ≠ 131072 := h 17 (by omega)
  have a18 : n ≠ 262144 := h 18 (by omega)
  unfold lgI
  rw [if_neg a0, if_neg a1, if_neg a2, if_neg a3, if_neg a4, if_neg a5, if_neg a6, if_neg a7, if_neg a8, if_neg a9, if_neg a10, if_neg a11, if_neg a12, if_neg a13, if_neg a14, if_neg a15, if_neg a16, if_neg a17, if_neg a18]
theorem height_no (n : Int) (w : World) (h : n < 1 ∨ 262144 < n ∨ (1 ≤ n ∧ n ≤ 262144 ∧ Go.bits .and .i64 n (wrap64 (n - 1)) ≠ 0)) : Calls Tryd.prog 37 #[.int .i64 n] w fun e w' => e = .returned (.int .i64 (-1)) ∧ w' = w := by
  rcases h with h | h | ⟨h1, h2, h3⟩
  · have c0 : decide (n < 1) = true := decide_eq_true h
    clear h
    go_enter Tryd.func37, Tryd.ntmps37
    go_wp2
    go_ret
    exact ⟨rfl, rfl⟩
  · have c0 : decide (n < 1) = false := decide_eq_false (by omega)
    have c1 : decide (262144 < n) = true := decide_eq_true h
    clear h
    go_enter Tryd.func37, Tryd.ntmps37
    go_wp2
    go_ret
    exact ⟨rfl, rfl⟩
  · have c0 : decide (n < 1) = false := decide_eq_false (by omega)
    have c1 : decide (262144 < n) = false := decide_eq_false (by omega)
    have c2 : (Go.bits .and .i64 n (wrap64 (n - 1)) == 0) = false := beq_eq_false_iff_ne.mpr h3
    clear h1 h2 h3
    go_enter Tryd.func37, Tryd.ntmps37
    go_wp2
    go_ret
    exact ⟨rfl, rfl⟩
theorem height_yes (n : Int) (k : Nat) (w : World) (c0 : decide (n < 1) = false) (c1 : decide (262144 < n) = false) (c2 : (Go.bits .and .i64 n (wrap64 (n - 1)) == 0) = true) (hw : IntKind.u64.wrap n = n)
    (C : Aside0 (Calls Tryd.prog 57 #[.int .u64 n] w fun e w' => e = .returned (.int .i64 (k : Int)) ∧ w' = w)) : Calls Tryd.prog 37 #[.int .i64 n] w fun e w' => e = .returned (.int .i64 (k : Int)) ∧ w' = w := by
  go_enter Tryd.func37, Tryd.ntmps37
  go_wp2_with (first | (simp only [hw]; done) | (go_at_call 57; (try simp only [hw]); refine C.out.mono ?_; rintro e w' ⟨rfl, hw'⟩; rw [hw']))
  go_ret
  exact ⟨rfl, rfl⟩
theorem height_pow (k : Nat) (hk : k < 19) (w : World) (hG : GL w) : Calls Tryd.prog 37 #[.int .i64 ((2 ^ k : Nat) : Int)] w fun e w' => e = .returned (.int .i64 (k : Int)) ∧ w' = w := by
  have hp := Nat.pow_pos (n := k) (show 0 < 2 by decide)
  have hq : 2 ^ k ≤ 2 ^ 18 := Nat.pow_le_pow_right (by decide) (by omega)
  have e3 : ((2 ^ k : Nat) &&& (2 ^ k - 1)) = 0 := by rw [Nat.and_two_pow_sub_one_eq_mod, Nat.mod_self]
  have e4 := and_nat (2 ^ k) (by omega) hp
  rw [e3] at e4
  refine height_yes _ k w (decide_eq_false (by omega)) (decide_eq_false (by omega)) (by rw [e4]; rfl) ?_ ⟨tz_pow k hk w hG⟩
  rw [IntKind.wrap_u64]
  omega
theorem tree_height.calls (a0 : Int) (r : Int) (w : World) (hrG : GL w) (h : tree_height.f a0 = some r) : Calls Tryd.prog 37 #[.int .i64 a0] w fun e w' => e = .returned (.int .i64 r) ∧ Below w.heap.size w w' := by
  have fin : ∀ {x : Int}, x = r → (Calls Tryd.prog 37 #[.int .i64 a0] w fun e w' => e = .returned (.int .i64 x) ∧ w' = w) → Calls Tryd.prog 37 #[.int .i64 a0] w fun e w' => e = .returned (.int .i64 r) ∧ Below w.heap.size w w' := by
    intro x e c
    subst e
    refine c.mono ?_
    rintro e w' ⟨rfl, rfl⟩
    exact ⟨rfl, Below.refl _ _⟩
  obtain rfl := Option.some.inj h
  clear h
  by_cases h0 : a0 < 1
  · exact fin (by rw [if_pos h0]) (height_no a0 w (.inl h0))
  · rw [if_neg h0] at fin ⊢
    by_cases hp : ∃ k : Nat, k < 19 ∧ a0 = ((2 ^ k : Nat) : Int)
    · obtain ⟨k, hk, rfl⟩ := hp
      exact fin (keys ⟨k, hk⟩).2.2.2.symm (height_pow k hk w hrG)
    · have hn : lgI a0 = -1 := lgI_none a0 fun k hk e => hp ⟨k, hk, e⟩
      refine fin hn.symm (height_no a0 w ?_)
      by_cases h1 : 262144 < a0
      · exact .inr (.inl h1)
      · refine .inr (.inr ⟨by omega, by omega, fun hz => ?_⟩)
        obtain ⟨n, rfl⟩ := Int.eq_ofNat_of_zero_le (show 0 ≤ a0 by omega)
        rw [and_nat n (by omega) (by omega)] at hz
        obtain ⟨k, hk⟩ := pow_of_and n (by omega) (by omega)
        subst hk
        refine hp ⟨k, ?_, rfl⟩
        rcases Nat.lt_or_ge k 19 with h | h
        · exact h
        · have := Nat.pow_le_pow_right (show 0 < 2 by decide) h
          omega
end Go.Proofs.YtpnpmeogffodgaaDoor.Q
end
section
namespace Go.Proofs.YtpnpmeogffodgaaDoor.Q
open Go.RowKit Go.Proofs.YtpnpmeogffodgaaDoorW.PrintWords Go.Proofs.YtpnpmeogffodgaaDoorW.PrintLast Go.Proofs.YtpnpmeogffodgaaDoorW.PrintMore
section
variable {P : Program} {d : Nat} {xs ys : Array Value} {e : TypeId} {c j : Nat} {js : List Nat} {a b : Value} {r s : Bool} {w : World}
theorem eqi_last (ha : (part e xs (j * c)).run P w = .ok a w) (hb : (part e ys (j * c)).run P w = .ok b w) (he : (Op.equalIn d e a b).run P w = .ok r w) : (Op.eqItems d e c xs ys [j]).run P w = .ok r w := by
  simp only [Op.eqItems, Sem.run_bind, ha, hb, he, Result.andThen_ok]
  cases r <;> simp
theorem eqi_cons (ha : (part e xs (j * c)).run P w = .ok a w) (hb : (part e ys (j * c)).run P w = .ok b w) (he : (Op.equalIn d e a b).run P w = .ok r w) (hr : (Op.eqItems d e c xs ys js).run P w = .ok s w) : (Op.eqItems d e c xs ys (j :: js)).run P w = .ok (r && s) w := by
  simp only [Op.eqItems, Sem.run_bind, ha, hb, he, Result.andThen_ok]
  cases r
  · simp
  · simpa using hr
theorem eqarr_of {t : TypeId} {n : Nat} {l : List Nat} (hu : P.underlying t = some (.array n e)) (hi : (P.info? e).isSome = true) (hc : P.cellsOf e = c) (hl : List.range n = l) (h : (Op.eqItems d e c xs ys l).run P w = .ok r w) : (Op.equalIn (d + 1) t (.agg xs) (.agg ys)).run P w = .ok r w := by
  obtain ⟨i, hi⟩ := Option.isSome_iff_exists.mp hi
  rw [Go.run_equalIn_array w d xs ys hu hi, hc, hl]
  exact h
end
end Go.Proofs.YtpnpmeogffodgaaDoor.Q
end
section
namespace Go.Proofs.YtpnpmeogffodgaaDoor.Q
open Go.RowKit Go.Proofs.YtpnpmeogffodgaaDoorW.PrintWords Go.Proofs.YtpnpmeogffodgaaDoorW.PrintLast Go.Proofs.YtpnpmeogffodgaaDoorW.PrintMore
attribute [local go_sem] max2_int min2_int max_two min_two max_three min_three max_four min_four run_store_fnV run_store_fnc run_store_nfn   -- for this text's walks alone
set_option linter.unusedVariables false
set_option linter.unusedSimpArgs false

theorem eqA36 (d : Nat) (w : World) (x0 y0 : Int) (x1 y1 : Int) :
    (Op.equalIn (d + 2) 36 (.agg #[.int .u64 x0, .int .u64 x1]) (.agg #[.int .u64 y0, .int .u64 y1])).run Tryd.prog w = .ok (x0 == y0 && (x1 == y1)) w := by
  refine eqarr_of (c := 1) (l := [0, 1]) Tryd.underlying36 (by kernel_rfl) (by kernel_rfl) (by rfl) ?_
  refine eqi_cons (by go_simp; rfl) (by go_simp; rfl) (by go_simp) ?_
  exact eqi_last (by go_simp; rfl) (by go_simp; rfl) (by go_simp)
end Go.Proofs.YtpnpmeogffodgaaDoor.Q
end
section
namespace Go.Proofs.YtpnpmeogffodgaaDoor.Q
open Go.RowKit Go.Proofs.YtpnpmeogffodgaaDoorW.PrintWords Go.Proofs.YtpnpmeogffodgaaDoorW.PrintLast Go.Proofs.YtpnpmeogffodgaaDoorW.PrintMore
attribute [local go_sem] max2_int min2_int max_two min_two max_three min_three max_four min_four run_store_fnV run_store_fnc run_store_nfn   -- for this text's walks alone
set_option linter.unusedVariables false
set_option linter.unusedSimpArgs false

attribute [local go_sem high] eqA36
/-! ### attestorref07_Equal: function 18 -/
def attestorref07_Equal.l0 : Nat → List (S36) → List (S36) → Int → Option (Bool)
  | 0, _, _, _ => none
  | k + 1, x0, x1, x5 => if x5 < (x0.length : Int) then (if 0 ≤ x5 then (if x5 < (x1.length : Int) then (if (!(((rd_T36 x0 x5).f0) == ((rd_T36 x1 x5).f0)) || (!(((rd_T36 x0 x5).f1) == ((rd_T36 x1 x5).f1)))) = true then (some false) else (attestorref07_Equal.l0 k x0 x1 (wrap64 (x5 + 1)))) else (none)) else (none)) else (some true)
def attestorref07_Equal.f (k : Nat) (l0 : List (S36)) (l1 : List (S36)) : Option (Bool) := if (l0.length : Int) = (l1.length : Int) then (attestorref07_Equal.l0 k l0 l1 0) else (some false)
theorem attestorref07_Equal.mono_l : ∀ k, (∀ y0 y1 y2, LeO (attestorref07_Equal.l0 k y0 y1 y2) (attestorref07_Equal.l0 (k + 1) y0 y1 y2))
  | 0 => fun _ _ _ r h => by simp [attestorref07_Equal.l0] at h
  | k + 1 => by
    have ih0 := attestorref07_Equal.mono_l k
    · intro y0 y1 y2
      unfold attestorref07_Equal.l0
      repeat' first
      | (with_reducible exact ih0 _ _ _)
      | (with_reducible exact LeO.refl _)
      | (with_reducible exact LeO.none _)
      | (with_reducible refine LeO.ite ?_ ?_)
      | (with_reducible refine LeO.bind ?_ (fun _ => ?_))
      | exact ih0 _ _ _
      | exact LeO.none _
      | refine LeO.ite ?_ ?_
      | refine LeO.bind ?_ (fun _ => ?_)
theorem attestorref07_Equal.mono : ∀ a0 a1 k, LeO (attestorref07_Equal.f k a0 a1) (attestorref07_Equal.f (k + 1) a0 a1) := by
  intro a0 a1 k
  have ih0 := attestorref07_Equal.mono_l k
  unfold attestorref07_Equal.f
  repeat' first
      | (with_reducible exact ih0 _ _ _)
      | (with_reducible exact LeO.refl _)
      | (with_reducible exact LeO.none _)
      | (with_reducible refine LeO.ite ?_ ?_)
      | (with_reducible refine LeO.bind ?_ (fun _ => ?_))
      | exact ih0 _ _ _
      | exact LeO.none _
      | refine LeO.ite ?_ ?_
      | refine LeO.bind ?_ (fun _ => ?_)
set_option maxHeartbeats 8000000 in
set_option maxRecDepth 100000 in
theorem attestorref07_Equal.calls (k : Nat) (A0 : Option Addr) (c0 : Nat) (l0 : List (S36)) (A1 : Option Addr) (c1 : Nat) (l1 : List (S36)) (r : Bool) (w : World) (hr0 : Kd.C k36 w A0 l0.length l0) (hc0 : l0.length ≤ c0) (hr1 : Kd.C k36 w A1 l1.length l1) (hc1 : l1.length ≤ c1) (h : attestorref07_Equal.f k l0 l1 = some r) :
  Calls Tryd.prog 18 #[.slice A0 l0.length c0, .slice A1 l1.length c1] w fun e w' => e = .returned (.bool r) ∧ Drawn0 w w' := by
 have hu36 := Tryd.underlying36
 have HR0 := Aside0.mk hr0
 have HC0 := Aside0.mk hc0
 clear hr0 hc0
 have HR1 := Aside0.mk hr1
 have HC1 := Aside0.mk hc1
 clear hr1 hc1
 have H : (if (l0.length : Int) = (l1.length : Int) then (attestorref07_Equal.l0 k l0 l1 0) else (some false)) = some r := h
 clear h
 by_cases c3 : (l0.length : Int) = (l1.length : Int)
 ·rw [if_pos c3] at H
  have c3b0 : ((l0.length : Int) == (l1.length : Int)) = true := beq_iff_eq.mpr c3
  have c3b1 : ((l0.length : Int) != (l1.length : Int)) = false := bne_eq_false_iff_eq.mpr c3
  have c3b2 : (l0.length == l1.length) = true := by first | simpa using c3 | (simp at c3 ⊢; omega)
  clear c3
  have H' := Aside0.mk H
  clear H
  go_enter Tryd.func18, Tryd.ntmps18
  go_wp2
  repeat (go_quiet (fail); try go_wp2)
  go_loopg [5] k (fun kq v5 w' => ∃ (x5_1 : Int), v5 = .int .i64 x5_1 ∧ Aside0 (attestorref07_Equal.l0 kq l0 l1 x5_1 = some r) ∧ Aside0 (kq ≤ k) ∧ Drawn0 w w')
  case atStart => exact ⟨(0), (by first | rfl | (simp; done) | (simp [*]; done) | (simp; rfl) | (simp; decide +kernel)), H', ⟨Nat.le_refl _⟩, by repeat (first | exact Drawn0.refl _ | apply Drawn0.step)⟩
  case round =>
   clear H'
   try clear c1
   try clear p2
   try clear c3
   try clear c3b0
   try clear c3b1
   try clear c3b2
   obtain ⟨x5_1, rfl, HA, HK1, ⟨m1, rfl⟩⟩ := hrel
   cases gk with
   | zero => exact absurd HA.out (by simp [attestorref07_Equal.l0])
   | succ k1 =>
    have H := HA.out
    clear HA
    simp only [attestorref07_Equal.l0] at H
    by_cases c4 : x5_1 < (l0.length : Int)
    ·rw [if_pos c4] at H
     have c4b0 : decide (x5_1 < (l0.length : Int)) = true := decide_eq_true c4
     clear c4
     by_cases c5 : 0 ≤ x5_1
     ·rw [if_pos c5] at H
      have c5b0 : decide (0 ≤ x5_1) = true := decide_eq_true c5
      clear c5
      by_cases c6 : x5_1 < (l1.length : Int)
      ·rw [if_pos c6] at H
       have c6b0 : decide (x5_1 < (l1.length : Int)) = true := decide_eq_true c6
       clear c6
       by_cases c7 : (!(((rd_T36 l0 x5_1).f0) == ((rd_T36 l1 x5_1).f0)) || (!(((rd_T36 l0 x5_1).f1) == ((rd_T36 l1 x5_1).f1)))) = true
       ·rw [if_pos c7] at H
        have c7b0 : (!(((rd_T36 l0 x5_1).f0) == ((rd_T36 l1 x5_1).f0)) || (!(((rd_T36 l0 x5_1).f1) == ((rd_T36 l1 x5_1).f1)))) = true := c7
        clear c7
        obtain rfl := Option.some.inj H
        have p151 : 0 ≤ (x5_1 : Int) := of_decide_eq_true (by first | (with_reducible assumption) | assumption)
        have q151 : x5_1 < (l0.length : Int) := of_decide_eq_true (by first | (with_reducible assumption) | assumption)
        obtain ⟨ad151, e151, hx151_0, hx151_1⟩ := at_T36 HR0.out x5_1 p151 q151
        cases e151
        replace p151 := eq_true p151
        replace q151 := eq_true q151
        have p152 : 0 ≤ (x5_1 : Int) := of_decide_eq_true (by first | (with_reducible assumption) | assumption)
        have q152 : x5_1 < (l1.length : Int) := of_decide_eq_true (by first | (with_reducible assumption) | assumption)
        obtain ⟨ad152, e152, hx152_0, hx152_1⟩ := at_T36 HR1.out x5_1 p152 q152
        cases e152
        replace p152 := eq_true p152
        replace q152 := eq_true q152
        go_wp2
        repeat (go_quiet (fail); try go_wp2)
        go_ret
        exact ⟨by first | rfl | (simp; done) | (simp [*]; done), by repeat (first | exact Drawn0.refl _ | apply Drawn0.step)⟩
       ·rw [if_neg c7] at H
        have c7b0 : (!(((rd_T36 l0 x5_1).f0) == ((rd_T36 l1 x5_1).f0)) || (!(((rd_T36 l0 x5_1).f1) == ((rd_T36 l1 x5_1).f1)))) = false := by simpa using c7
        clear c7
        have H' := Aside0.mk H
        clear H
        have p151 : 0 ≤ (x5_1 : Int) := of_decide_eq_true (by first | (with_reducible assumption) | assumption)
        have q151 : x5_1 < (l0.length : Int) := of_decide_eq_true (by first | (with_reducible assumption) | assumption)
        obtain ⟨ad151, e151, hx151_0, hx151_1⟩ := at_T36 HR0.out x5_1 p151 q151
        cases e151
        replace p151 := eq_true p151
        replace q151 := eq_true q151
        have p152 : 0 ≤ (x5_1 : Int) := of_decide_eq_true (by first | (with_reducible assumption) | assumption)
        have q152 : x5_1 < (l1.length : Int) := of_decide_eq_true (by first | (with_reducible assumption) | assumption)
        obtain ⟨ad152, e152, hx152_0, hx152_1⟩ := at_T36 HR1.out x5_1 p152 q152
        cases e152
        replace p152 := eq_true p152
        replace q152 := eq_true q152
        go_wp2
        repeat (go_quiet (fail); try go_wp2)
        go_roundg k1
        case measure => have := HK1.out; omega
        case rel => exact ⟨(wrap64 (x5_1 + 1)), (by first | rfl | (simp; done) | (simp [*]; done) | (simp; rfl) | (simp; decide +kernel)), H', ⟨by have := HK1.out; omega⟩, by repeat (first | exact Drawn0.refl _ | apply Drawn0.step)⟩
      ·rw [if_neg c6] at H
       exact absurd H (by simp)
     ·rw [if_neg c5] at H
      exact absurd H (by simp)
    ·rw [if_neg c4] at H
     have c4b0 : decide (x5_1 < (l0.length : Int)) = false := decide_eq_false c4
     clear c4
     obtain rfl := Option.some.inj H
     go_wp2
     repeat (go_quiet (fail); try go_wp2)
     go_ret
     exact ⟨by first | rfl | (simp; done) | (simp [*]; done), by repeat (first | exact Drawn0.refl _ | apply Drawn0.step)⟩
 ·rw [if_neg c3] at H
  have c3b0 : ((l0.length : Int) == (l1.length : Int)) = false := beq_eq_false_iff_ne.mpr c3
  have c3b1 : ((l0.length : Int) != (l1.length : Int)) = true := bne_iff_ne.mpr c3
  have c3b2 : (l0.length == l1.length) = false := by first | simpa using c3 | (simp at c3 ⊢; omega)
  obtain rfl := Option.some.inj H
  go_enter Tryd.func18, Tryd.ntmps18
  go_wp2
  repeat (go_quiet (fail); try go_wp2)
  go_ret
  exact ⟨by first | rfl | (simp; done) | (simp [*]; done), by repeat (first | exact Drawn0.refl _ | apply Drawn0.step)⟩

end Go.Proofs.YtpnpmeogffodgaaDoor.Q
end
section
namespace Go.Proofs.YtpnpmeogffodgaaDoor.Q
open Go.RowKit Go.Proofs.YtpnpmeogffodgaaDoorW.PrintWords Go.Proofs.YtpnpmeogffodgaaDoorW.PrintLast Go.Proofs.YtpnpmeogffodgaaDoorW.PrintMore
attribute [local go_sem] max2_int min2_int max_two min_two max_three min_three max_four min_four run_store_fnV run_store_fnc run_store_nfn   -- for this text's walks alone
set_option linter.unusedVariables false
set_option linter.unusedSimpArgs false

/-! ### tree_Valid: function 16 -/
mutual
def tree_Valid.j0 : Nat → Bool → Int → Int → Int → List (List (S36)) → Option (Bool)
  | 0, _, _, _, _, _ => none
  | k + 1, x42, x154000, x154001, x154002, x154003 => if x42 = true then (some false) else (tree_Valid.l0 k x154003 (x154003.length : Int) 0 x154000 x154001 x154002 x154003)
def tree_Valid.l0 : Nat → List (List (S36)) → Int → Int → Int → Int → Int → List (List (S36)) → Option (Bool)
  | 0, _, _, _, _, _, _, _ => none
  | k + 1, x44, x45, x46, x154000, x154001, x154002, x154003 => if x46 < x45 then (if 0 ≤ x46 then (if x46 < (x44.length : Int) then (if 0 ≤ (wrap64 (x154001 - x46)) then (if ((rd_L3 x44 x46).length : Int) = (shl .i64 1 (wrap64 (x154001 - x46))) then ((tree_proper.f x154000 (rd_L3 x44 x46)).bind fun t156 => (if t156 = true then (tree_Valid.l0 k x44 x45 (wrap64 (x46 + 1)) x154000 x154001 x154002 x154003) else (some false))) else (some false)) else (none)) else (none)) else (none)) else (some true)
end
def tree_Valid.f (k : Nat) (a0_0 : Int) (a0_1 : Int) (a0_2 : Int) (l0_3 : List (List (S36))) : Option (Bool) := (field_Valid.f a0_0).bind fun t154 => (if t154 = true then (if a0_1 < 0 then (tree_Valid.j0 k true a0_0 a0_1 a0_2 l0_3) else (if a0_1 > 18 then (tree_Valid.j0 k true a0_0 a0_1 a0_2 l0_3) else (if a0_2 < 0 then (tree_Valid.j0 k true a0_0 a0_1 a0_2 l0_3) else (if a0_2 > a0_1 then (tree_Valid.j0 k true a0_0 a0_1 a0_2 l0_3) else (tree_Valid.j0 k ((l0_3.length : Int) != (wrap64 ((wrap64 (a0_1 - a0_2)) + 1))) a0_0 a0_1 a0_2 l0_3))))) else (tree_Valid.j0 k true a0_0 a0_1 a0_2 l0_3))
theorem tree_Valid.mono_l : ∀ k, (∀ y0 y1 y2 y3 y4, LeO (tree_Valid.j0 k y0 y1 y2 y3 y4) (tree_Valid.j0 (k + 1) y0 y1 y2 y3 y4)) ∧ (∀ y0 y1 y2 y3 y4 y5 y6, LeO (tree_Valid.l0 k y0 y1 y2 y3 y4 y5 y6) (tree_Valid.l0 (k + 1) y0 y1 y2 y3 y4 y5 y6))
  | 0 => ⟨fun _ _ _ _ _ r h => by simp [tree_Valid.j0] at h, fun _ _ _ _ _ _ _ r h => by simp [tree_Valid.l0] at h⟩
  | k + 1 => by
    obtain ⟨ih0, ih1⟩ := tree_Valid.mono_l k
    refine ⟨?_, ?_⟩
    · intro y0 y1 y2 y3 y4
      unfold tree_Valid.j0
      repeat' first
      | (with_reducible exact ih0 _ _ _ _ _)
      | (with_reducible exact ih1 _ _ _ _ _ _ _)
      | (with_reducible exact LeO.refl _)
      | (with_reducible exact LeO.none _)
      | (with_reducible refine LeO.ite ?_ ?_)
      | (with_reducible refine LeO.bind ?_ (fun _ => ?_))
      | exact ih0 _ _ _ _ _
      | exact ih1 _ _ _ _ _ _ _
      | exact LeO.none _
      | refine LeO.ite ?_ ?_
      | refine LeO.bind ?_ (fun _ => ?_)
    · intro y0 y1 y2 y3 y4 y5 y6
      unfold tree_Valid.l0
      repeat' first
      | (with_reducible exact ih0 _ _ _ _ _)
      | (with_reducible exact ih1 _ _ _ _ _ _ _)
      | (with_reducible exact LeO.refl _)
      | (with_reducible exact LeO.none _)
      | (with_reducible refine LeO.ite ?_ ?_)
      | (with_reducible refine LeO.bind ?_ (fun _ => ?_))
      | exact ih0 _ _ _ _ _
      | exact ih1 _ _ _ _ _ _ _
      | exact LeO.none _
      | refine LeO.ite ?_ ?_
      | refine LeO.bind ?_ (fun _ => ?_)
theorem tree_Valid.mono : ∀ a0 a1 a2 a3 k, LeO (tree_Valid.f k a0 a1 a2 a3) (tree_Valid.f (k + 1) a0 a1 a2 a3) := by
  intro a0 a1 a2 a3 k
  obtain ⟨ih0, ih1⟩ := tree_Valid.mono_l k
  unfold tree_Valid.f
  repeat' first
      | (with_reducible exact ih0 _ _ _ _ _)
      | (with_reducible exact ih1 _ _ _ _ _ _ _)
      | (with_reducible exact LeO.refl _)
      | (with_reducible exact LeO.none _)
      | (with_reducible refine LeO.ite ?_ ?_)
      | (with_reducible refine LeO.bind ?_ (fun _ => ?_))
      | exact ih0 _ _ _ _ _
      | exact ih1 _ _ _ _ _ _ _
      | exact LeO.none _
      | refine LeO.ite ?_ ?_
      | refine LeO.bind ?_ (fun _ => ?_)
set_option maxHeartbeats 8000000 in
set_option maxRecDepth 100000 in
theorem tree_Valid.calls (k : Nat) (a0_0 : Int) (a0_1 : Int) (a0_2 : Int) (A0_3 : Option Addr) (c0_3 : Nat) (l0_3 : List (List (S36))) (r : Bool) (w : World) (hr0_3 : Kd.C (Kd.slice 36 k36) w A0_3 l0_3.length l0_3) (hc0_3 : l0_3.length ≤ c0_3) (hrG : GL w) (h : tree_Valid.f k a0_0 a0_1 a0_2 l0_3 = some r) :
  Calls Tryd.prog 16 #[.agg #[.int .i64 a0_0, .int .i64 a0_1, .int .i64 a0_2, .slice A0_3 l0_3.length c0_3]] w fun e w' => e = .returned (.bool r) ∧ Below w.heap.size w w' := by
 have hu26 := Tryd.underlying26
 have HRG := Aside0.mk hrG
 clear hrG
 have HR0_3 := Aside0.mk hr0_3
 have HC0_3 := Aside0.mk hc0_3
 clear hr0_3 hc0_3
 have HB := Aside0.mk (Below.refl w.heap.size w)
 have H : ((field_Valid.f a0_0).bind fun t154 => (if t154 = true then (if a0_1 < 0 then (tree_Valid.j0 k true a0_0 a0_1 a0_2 l0_3) else (if a0_1 > 18 then (tree_Valid.j0 k true a0_0 a0_1 a0_2 l0_3) else (if a0_2 < 0 then (tree_Valid.j0 k true a0_0 a0_1 a0_2 l0_3) else (if a0_2 > a0_1 then (tree_Valid.j0 k true a0_0 a0_1 a0_2 l0_3) else (tree_Valid.j0 k ((l0_3.length : Int) != (wrap64 ((wrap64 (a0_1 - a0_2)) + 1))) a0_0 a0_1 a0_2 l0_3))))) else (tree_Valid.j0 k true a0_0 a0_1 a0_2 l0_3))) = some r := h
 clear h
 have HC2 := Aside0.mk H
 clear H
 go_enter Tryd.func16, Tryd.ntmps16
 go_upto_region 1 with (first | ((with_reducible refine gate_dst (N := 1) rfl ?_); (try (refine gate_guard (by rfl) ?_; dsimp only)); refine box_event ?hg (N := 1) ?hd (cs := #[.int .i64 a0_0, .int .i64 a0_1, .int .i64 a0_2, .slice A0_3 l0_3.length c0_3]) (t := 26) ?hr ?_; (case hd => rfl); (case hg => rfl); (case hr => first | (go_simp; done) | (go_simp; rfl)); intro g153 hg w3 hbox hb; have n0_ := Aside0.mk (below_step (by repeat (first | (with_reducible first | exact HB.out | apply below_alloc | apply pw_below_drewN | apply below_drew1) | exact HB.out)) hb); have n1_ := Aside0.mk (hbox); have n2_ := Aside0.mk ((by rw [hg]; exact (below_size (by repeat (first | (with_reducible first | exact HB.out | apply below_alloc | apply pw_below_drewN | apply below_drew1) | exact HB.out))) : w.heap.size ≤ g153)); have n3_ := Aside0.mk ((by rw [hg]; exact (below_size (by repeat (first | (with_reducible first | exact HB.out | apply below_alloc | apply pw_below_drewN | apply below_drew1) | exact HB.out))) : w.heap.size ≤ g153)); clear HB; have HB := n0_; have B153 := n1_; have GW153 := n2_; have GE153 := n3_; clear n0_ n1_ n2_ n3_; clear hb hbox hg))
 (try simp only [Act.put, sa_, sb_, sc_])
 go_cut [42] (fun v42 wc => ∃ (kq : Nat) (x42_1 : Bool), v42 = .bool x42_1 ∧ Aside0 (tree_Valid.j0 kq x42_1 a0_0 a0_1 a0_2 l0_3 = some r) ∧ Aside0 (kq ≤ k) ∧ Aside0 (wc.heap[g153]? = some (.cells #[.int .i64 a0_0, .int .i64 a0_1, .int .i64 a0_2, (.slice A0_3 l0_3.length c0_3)] 26 (0, 0))) ∧ Aside0 (Below w.heap.size w wc))
 case first =>
  have H := HC2.out
  clear HC2
  replace H := Option.bind_eq_some_iff.mp H
  obtain ⟨t154, A40, H⟩ := H
  have A4 := Aside0.mk A40
  clear A40
  by_cases c5 : t154 = true
  ·subst c5
   have H1 : (if a0_1 < 0 then (tree_Valid.j0 k true a0_0 a0_1 a0_2 l0_3) else (if a0_1 > 18 then (tree_Valid.j0 k true a0_0 a0_1 a0_2 l0_3) else (if a0_2 < 0 then (tree_Valid.j0 k true a0_0 a0_1 a0_2 l0_3) else (if a0_2 > a0_1 then (tree_Valid.j0 k true a0_0 a0_1 a0_2 l0_3) else (tree_Valid.j0 k ((l0_3.length : Int) != (wrap64 ((wrap64 (a0_1 - a0_2)) + 1))) a0_0 a0_1 a0_2 l0_3))))) = some r := by rw [if_pos rfl] at H; exact H
   clear H
   have H := H1
   clear H1
   by_cases c6 : a0_1 < 0
   ·rw [if_pos c6] at H
    have c6b0 : decide (a0_1 < 0) = true := decide_eq_true c6
    clear c6
    (first | rw [c6b0] | (simp only [i64_w, i32_w]; rw [c6b0]) | skip)
    have H' := Aside0.mk H
    clear H
    have hcz7_0 : w3.cell? ⟨g153, 0, none⟩ = some (.int .i64 a0_0) := bq_ B153 0
    have hcz7_1 : w3.cell? ⟨g153, 1, none⟩ = some (.int .i64 a0_1) := bq_ B153 1
    have hcz7_2 : w3.cell? ⟨g153, 2, none⟩ = some (.int .i64 a0_2) := bq_ B153 2
    have hcz7_3 : w3.cell? ⟨g153, 3, none⟩ = some (.slice A0_3 l0_3.length c0_3) := bq_ B153 3
    have hfz7_0 := blk_frozen B153.out 0
    have hfz7_1 := blk_frozen B153.out 1
    have hfz7_2 := blk_frozen B153.out 2
    have hfz7_3 := blk_frozen B153.out 3
    go_wp2_with (first | ((with_reducible refine gate_callee (f := 38) rfl ?_); refine goesL_ (some 7) rfl rfl Tryd.func38 (by kernel_rfl) rfl #[.int .i64 a0_0] rfl (by (try simp only [List.map_toArray, List.map_cons, List.map_nil]); first | done | rfl | (go_simp; done)) ?_; (with_reducible refine (field_Valid.calls a0_0 true _ A4.out).mono ?_); rintro e w' ⟨rfl, ⟨nd, rfl⟩⟩; refine ⟨_, rfl, ?_⟩))
    go_meet
    case rel => exact ⟨_, (true), (by first | rfl | (simp; done) | (simp [*]; done) | (simp; rfl) | (simp; decide +kernel)), H', ⟨by first | omega | exact Nat.le_refl _⟩, ⟨by exact B153.out⟩, ⟨by repeat (first | (with_reducible first | exact HB.out | apply below_alloc | apply pw_below_drewN | apply below_drew1 | refine below_set ?_ GE153.out) | exact HB.out)⟩⟩
   ·rw [if_neg c6] at H
    have c6b0 : decide (a0_1 < 0) = false := decide_eq_false c6
    clear c6
    (first | rw [c6b0] | (simp only [i64_w, i32_w]; rw [c6b0]) | skip)
    by_cases c8 : a0_1 > 18
    ·rw [if_pos c8] at H
     have c8b0 : decide (18 < a0_1) = true := decide_eq_true c8
     clear c8
     have H' := Aside0.mk H
     clear H
     have hcz9_0 : w3.cell? ⟨g153, 0, none⟩ = some (.int .i64 a0_0) := bq_ B153 0
     have hcz9_1 : w3.cell? ⟨g153, 1, none⟩ = some (.int .i64 a0_1) := bq_ B153 1
     have hcz9_2 : w3.cell? ⟨g153, 2, none⟩ = some (.int .i64 a0_2) := bq_ B153 2
     have hcz9_3 : w3.cell? ⟨g153, 3, none⟩ = some (.slice A0_3 l0_3.length c0_3) := bq_ B153 3
     have hfz9_0 := blk_frozen B153.out 0
     have hfz9_1 := blk_frozen B153.out 1
     have hfz9_2 := blk_frozen B153.out 2
     have hfz9_3 := blk_frozen B153.out 3
     go_wp2_with (first | ((with_reducible refine gate_callee (f := 38) rfl ?_); refine goesL_ (some 7) rfl rfl Tryd.func38 (by kernel_rfl) rfl #[.int .i64 a0_0] rfl (by (try simp only [List.map_toArray, List.map_cons, List.map_nil]); first | done | rfl | (go_simp; done)) ?_; (with_reducible refine (field_Valid.calls a0_0 true _ A4.out).mono ?_); rintro e w' ⟨rfl, ⟨nd, rfl⟩⟩; refine ⟨_, rfl, ?_⟩))
     go_meet
     case rel => exact ⟨_, (true), (by first | rfl | (simp; done) | (simp [*]; done) | (simp; rfl) | (simp; decide +kernel)), H', ⟨by first | omega | exact Nat.le_refl _⟩, ⟨by exact B153.out⟩, ⟨by repeat (first | (with_reducible first | exact HB.out | apply below_alloc | apply pw_below_drewN | apply below_drew1 | refine below_set ?_ GE153.out) | exact HB.out)⟩⟩
    ·rw [if_neg c8] at H
     have c8b0 : decide (18 < a0_1) = false := decide_eq_false c8
     clear c8
     by_cases c10 : a0_2 < 0
     ·rw [if_pos c10] at H
      have c10b0 : decide (a0_2 < 0) = true := decide_eq_true c10
      clear c10
      have H' := Aside0.mk H
      clear H
      have hcz11_0 : w3.cell? ⟨g153, 0, none⟩ = some (.int .i64 a0_0) := bq_ B153 0
      have hcz11_1 : w3.cell? ⟨g153, 1, none⟩ = some (.int .i64 a0_1) := bq_ B153 1
      have hcz11_2 : w3.cell? ⟨g153, 2, none⟩ = some (.int .i64 a0_2) := bq_ B153 2
      have hcz11_3 : w3.cell? ⟨g153, 3, none⟩ = some (.slice A0_3 l0_3.length c0_3) := bq_ B153 3
      have hfz11_0 := blk_frozen B153.out 0
      have hfz11_1 := blk_frozen B153.out 1
      have hfz11_2 := blk_frozen B153.out 2
      have hfz11_3 := blk_frozen B153.out 3
      go_wp2_with (first | ((with_reducible refine gate_callee (f := 38) rfl ?_); refine goesL_ (some 7) rfl rfl Tryd.func38 (by kernel_rfl) rfl #[.int .i64 a0_0] rfl (by (try simp only [List.map_toArray, List.map_cons, List.map_nil]); first | done | rfl | (go_simp; done)) ?_; (with_reducible refine (field_Valid.calls a0_0 true _ A4.out).mono ?_); rintro e w' ⟨rfl, ⟨nd, rfl⟩⟩; refine ⟨_, rfl, ?_⟩))
      go_meet
      case rel => exact ⟨_, (true), (by first | rfl | (simp; done) | (simp [*]; done) | (simp; rfl) | (simp; decide +kernel)), H', ⟨by first | omega | exact Nat.le_refl _⟩, ⟨by exact B153.out⟩, ⟨by repeat (first | (with_reducible first | exact HB.out | apply below_alloc | apply pw_below_drewN | apply below_drew1 | refine below_set ?_ GE153.out) | exact HB.out)⟩⟩
     ·rw [if_neg c10] at H
      have c10b0 : decide (a0_2 < 0) = false := decide_eq_false c10
      clear c10
      by_cases c12 : a0_2 > a0_1
      ·rw [if_pos c12] at H
       have c12b0 : decide (a0_1 < a0_2) = true := decide_eq_true c12
       clear c12
       have H' := Aside0.mk H
       clear H
       have hcz13_0 : w3.cell? ⟨g153, 0, none⟩ = some (.int .i64 a0_0) := bq_ B153 0
       have hcz13_1 : w3.cell? ⟨g153, 1, none⟩ = some (.int .i64 a0_1) := bq_ B153 1
       have hcz13_2 : w3.cell? ⟨g153, 2, none⟩ = some (.int .i64 a0_2) := bq_ B153 2
       have hcz13_3 : w3.cell? ⟨g153, 3, none⟩ = some (.slice A0_3 l0_3.length c0_3) := bq_ B153 3
       have hfz13_0 := blk_frozen B153.out 0
       have hfz13_1 := blk_frozen B153.out 1
       have hfz13_2 := blk_frozen B153.out 2
       have hfz13_3 := blk_frozen B153.out 3
       go_wp2_with (first | ((with_reducible refine gate_callee (f := 38) rfl ?_); refine goesL_ (some 7) rfl rfl Tryd.func38 (by kernel_rfl) rfl #[.int .i64 a0_0] rfl (by (try simp only [List.map_toArray, List.map_cons, List.map_nil]); first | done | rfl | (go_simp; done)) ?_; (with_reducible refine (field_Valid.calls a0_0 true _ A4.out).mono ?_); rintro e w' ⟨rfl, ⟨nd, rfl⟩⟩; refine ⟨_, rfl, ?_⟩))
       go_meet
       case rel => exact ⟨_, (true), (by first | rfl | (simp; done) | (simp [*]; done) | (simp; rfl) | (simp; decide +kernel)), H', ⟨by first | omega | exact Nat.le_refl _⟩, ⟨by exact B153.out⟩, ⟨by repeat (first | (with_reducible first | exact HB.out | apply below_alloc | apply pw_below_drewN | apply below_drew1 | refine below_set ?_ GE153.out) | exact HB.out)⟩⟩
      ·rw [if_neg c12] at H
       have c12b0 : decide (a0_1 < a0_2) = false := decide_eq_false c12
       clear c12
       have H' := Aside0.mk H
       clear H
       have hcz14_0 : w3.cell? ⟨g153, 0, none⟩ = some (.int .i64 a0_0) := bq_ B153 0
       have hcz14_1 : w3.cell? ⟨g153, 1, none⟩ = some (.int .i64 a0_1) := bq_ B153 1
       have hcz14_2 : w3.cell? ⟨g153, 2, none⟩ = some (.int .i64 a0_2) := bq_ B153 2
       have hcz14_3 : w3.cell? ⟨g153, 3, none⟩ = some (.slice A0_3 l0_3.length c0_3) := bq_ B153 3
       have hfz14_0 := blk_frozen B153.out 0
       have hfz14_1 := blk_frozen B153.out 1
       have hfz14_2 := blk_frozen B153.out 2
       have hfz14_3 := blk_frozen B153.out 3
       go_wp2_with (first | ((with_reducible refine gate_callee (f := 38) rfl ?_); refine goesL_ (some 7) rfl rfl Tryd.func38 (by kernel_rfl) rfl #[.int .i64 a0_0] rfl (by (try simp only [List.map_toArray, List.map_cons, List.map_nil]); first | done | rfl | (go_simp; done)) ?_; (with_reducible refine (field_Valid.calls a0_0 true _ A4.out).mono ?_); rintro e w' ⟨rfl, ⟨nd, rfl⟩⟩; refine ⟨_, rfl, ?_⟩))
       go_meet
       case rel => exact ⟨_, (((l0_3.length : Int) != (wrap64 ((wrap64 (a0_1 - a0_2)) + 1)))), (by first | rfl | (simp; done) | (simp [*]; done) | (simp; rfl) | (simp; decide +kernel)), H', ⟨by first | omega | exact Nat.le_refl _⟩, ⟨by exact B153.out⟩, ⟨by repeat (first | (with_reducible first | exact HB.out | apply below_alloc | apply pw_below_drewN | apply below_drew1 | refine below_set ?_ GE153.out) | exact HB.out)⟩⟩
  ·replace c5 := Bool.eq_false_iff.mpr c5
   subst c5
   have H1 : (tree_Valid.j0 k true a0_0 a0_1 a0_2 l0_3) = some r := by rw [if_neg (show ¬ (false = true) by decide)] at H; exact H
   clear H
   have H := H1
   clear H1
   have H' := Aside0.mk H
   clear H
   have hcz15_0 : w3.cell? ⟨g153, 0, none⟩ = some (.int .i64 a0_0) := bq_ B153 0
   have hcz15_1 : w3.cell? ⟨g153, 1, none⟩ = some (.int .i64 a0_1) := bq_ B153 1
   have hcz15_2 : w3.cell? ⟨g153, 2, none⟩ = some (.int .i64 a0_2) := bq_ B153 2
   have hcz15_3 : w3.cell? ⟨g153, 3, none⟩ = some (.slice A0_3 l0_3.length c0_3) := bq_ B153 3
   have hfz15_0 := blk_frozen B153.out 0
   have hfz15_1 := blk_frozen B153.out 1
   have hfz15_2 := blk_frozen B153.out 2
   have hfz15_3 := blk_frozen B153.out 3
   go_wp2_with (first | ((with_reducible refine gate_callee (f := 38) rfl ?_); refine goesL_ (some 7) rfl rfl Tryd.func38 (by kernel_rfl) rfl #[.int .i64 a0_0] rfl (by (try simp only [List.map_toArray, List.map_cons, List.map_nil]); first | done | rfl | (go_simp; done)) ?_; (with_reducible refine (field_Valid.calls a0_0 false _ A4.out).mono ?_); rintro e w' ⟨rfl, ⟨nd, rfl⟩⟩; refine ⟨_, rfl, ?_⟩))
   go_meet
   case rel => exact ⟨_, (true), (by first | rfl | (simp; done) | (simp [*]; done) | (simp; rfl) | (simp; decide +kernel)), H', ⟨by first | omega | exact Nat.le_refl _⟩, ⟨by exact B153.out⟩, ⟨by repeat (first | (with_reducible first | exact HB.out | apply below_alloc | apply pw_below_drewN | apply below_drew1 | refine below_set ?_ GE153.out) | exact HB.out)⟩⟩
 case rest =>
  clear HC2
  try clear c1
  try clear p2
  try clear c3
  try clear c5
  try clear c6
  try clear c6b0
  try clear p6
  try clear c8
  try clear c8b0
  try clear c10
  try clear c10b0
  try clear c12
  try clear c12b0
  try clear hcz11_0
  try clear hcz11_1
  try clear hcz11_2
  try clear hcz11_3
  try clear hcz13_0
  try clear hcz13_1
  try clear hcz13_2
  try clear hcz13_3
  try clear hcz14_0
  try clear hcz14_1
  try clear hcz14_2
  try clear hcz14_3
  try clear hcz15_0
  try clear hcz15_1
  try clear hcz15_2
  try clear hcz15_3
  try clear hcz7_0
  try clear hcz7_1
  try clear hcz7_2
  try clear hcz7_3
  try clear hcz9_0
  try clear hcz9_1
  try clear hcz9_2
  try clear hcz9_3
  try clear hfz11_0
  try clear hfz11_1
  try clear hfz11_2
  try clear hfz11_3
  try clear hfz13_0
  try clear hfz13_1
  try clear hfz13_2
  try clear hfz13_3
  try clear hfz14_0
  try clear hfz14_1
  try clear hfz14_2
  try clear hfz14_3
  try clear hfz15_0
  try clear hfz15_1
  try clear hfz15_2
  try clear hfz15_3
  try clear hfz7_0
  try clear hfz7_1
  try clear hfz7_2
  try clear hfz7_3
  try clear hfz9_0
  try clear hfz9_1
  try clear hfz9_2
  try clear hfz9_3
  obtain ⟨kq, x42_1, rfl, HA, HJ1, B153, HB⟩ := hcut
  cases kq with
  | zero => exact absurd HA.out (by simp [tree_Valid.j0])
  | succ kj1 =>
   have H := HA.out
   clear HA
   simp only [tree_Valid.j0] at H
   by_cases c16 : x42_1 = true
   ·subst c16
    have H1 : (some false) = some r := by rw [if_pos rfl] at H; exact H
    clear H
    have H := H1
    clear H1
    obtain rfl := Option.some.inj H
    go_wp2
    go_ret
    exact ⟨by first | rfl | (simp [errW_none, errW_some] <;> rfl) | (simp [*, errW_none, errW_some] <;> rfl), by repeat (first | (with_reducible first | exact HB.out | apply below_alloc | apply pw_below_drewN | apply below_drew1 | refine below_set ?_ GE153.out) | exact HB.out)⟩
   ·replace c16 := Bool.eq_false_iff.mpr c16
    subst c16
    have H1 : (tree_Valid.l0 kj1 l0_3 (l0_3.length : Int) 0 a0_0 a0_1 a0_2 l0_3) = some r := by rw [if_neg (show ¬ (false = true) by decide)] at H; exact H
    clear H
    have H := H1
    clear H1
    have H' := Aside0.mk H
    clear H
    have hcz17_0 : wc.cell? ⟨g153, 0, none⟩ = some (.int .i64 a0_0) := bq_ B153 0
    have hcz17_1 : wc.cell? ⟨g153, 1, none⟩ = some (.int .i64 a0_1) := bq_ B153 1
    have hcz17_2 : wc.cell? ⟨g153, 2, none⟩ = some (.int .i64 a0_2) := bq_ B153 2
    have hcz17_3 : wc.cell? ⟨g153, 3, none⟩ = some (.slice A0_3 l0_3.length c0_3) := bq_ B153 3
    have hfz17_0 := blk_frozen B153.out 0
    have hfz17_1 := blk_frozen B153.out 1
    have hfz17_2 := blk_frozen B153.out 2
    have hfz17_3 := blk_frozen B153.out 3
    go_wp2
    go_loopg [46] kj1 (fun kq v46 w' => ∃ (x46_2 : Int), v46 = .int .i64 x46_2 ∧ Aside0 (tree_Valid.l0 kq l0_3 (l0_3.length : Int) x46_2 a0_0 a0_1 a0_2 l0_3 = some r) ∧ Aside0 (kq ≤ kj1) ∧ Aside0 (w'.heap[g153]? = some (.cells #[.int .i64 a0_0, .int .i64 a0_1, .int .i64 a0_2, (.slice A0_3 l0_3.length c0_3)] 26 (0, 0))) ∧ Aside0 (Below w.heap.size w w'))
    case atStart => exact ⟨(0), (by first | rfl | (simp; done) | (simp [*]; done) | (simp; rfl) | (simp; decide +kernel)), H', ⟨Nat.le_refl _⟩, ⟨by exact B153.out⟩, ⟨by repeat (first | (with_reducible first | exact HB.out | apply below_alloc | apply pw_below_drewN | apply below_drew1 | refine below_set ?_ GE153.out) | exact HB.out)⟩⟩
    case round =>
     clear H'
     try clear c1
     try clear p2
     try clear c3
     try clear c5
     try clear c6
     try clear c6b0
     try clear p6
     try clear c8
     try clear c8b0
     try clear c10
     try clear c10b0
     try clear c12
     try clear c12b0
     try clear c16
     try clear hcz11_0
     try clear hcz11_1
     try clear hcz11_2
     try clear hcz11_3
     try clear hcz13_0
     try clear hcz13_1
     try clear hcz13_2
     try clear hcz13_3
     try clear hcz14_0
     try clear hcz14_1
     try clear hcz14_2
     try clear hcz14_3
     try clear hcz15_0
     try clear hcz15_1
     try clear hcz15_2
     try clear hcz15_3
     try clear hcz17_0
     try clear hcz17_1
     try clear hcz17_2
     try clear hcz17_3
     try clear hcz7_0
     try clear hcz7_1
     try clear hcz7_2
     try clear hcz7_3
     try clear hcz9_0
     try clear hcz9_1
     try clear hcz9_2
     try clear hcz9_3
     try clear hfz11_0
     try clear hfz11_1
     try clear hfz11_2
     try clear hfz11_3
     try clear hfz13_0
     try clear hfz13_1
     try clear hfz13_2
     try clear hfz13_3
     try clear hfz14_0
     try clear hfz14_1
     try clear hfz14_2
     try clear hfz14_3
     try clear hfz15_0
     try clear hfz15_1
     try clear hfz15_2
     try clear hfz15_3
     try clear hfz17_0
     try clear hfz17_1
     try clear hfz17_2
     try clear hfz17_3
     try clear hfz7_0
     try clear hfz7_1
     try clear hfz7_2
     try clear hfz7_3
     try clear hfz9_0
     try clear hfz9_1
     try clear hfz9_2
     try clear hfz9_3
     try clear p2
     try clear p6
     obtain ⟨x46_2, rfl, HA, HK2, B153, HB⟩ := hrel
     cases gk with
     | zero => exact absurd HA.out (by simp [tree_Valid.l0])
     | succ k2 =>
      have H := HA.out
      clear HA
      simp only [tree_Valid.l0] at H
      by_cases c18 : x46_2 < (l0_3.length : Int)
      ·rw [if_pos c18] at H
       have c18b0 : decide (x46_2 < (l0_3.length : Int)) = true := decide_eq_true c18
       clear c18
       by_cases c19 : 0 ≤ x46_2
       ·rw [if_pos c19] at H
        have c19b0 : decide (0 ≤ x46_2) = true := decide_eq_true c19
        clear c19
        by_cases c20 : x46_2 < (l0_3.length : Int)
        ·rw [if_pos c20] at H
         have c20b0 : decide (x46_2 < (l0_3.length : Int)) = true := decide_eq_true c20
         clear c20
         obtain ⟨ji21, hji21⟩ : ∃ j_ : Int, (wrap64 (a0_1 - x46_2)) = j_ := ⟨_, rfl⟩
         replace H : (if 0 ≤ (ji21) then (if ((rd_L3 l0_3 x46_2).length : Int) = (shl .i64 1 (ji21)) then ((tree_proper.f a0_0 (rd_L3 l0_3 x46_2)).bind fun t156 => (if t156 = true then (tree_Valid.l0 k2 l0_3 (l0_3.length : Int) (wrap64 (x46_2 + 1)) a0_0 a0_1 a0_2 l0_3) else (some false))) else (some false)) else (none)) = some r := by first | (rw [hji21] at H; exact H) | (simp only [hji21] at H ⊢; exact H)
         have hji21w : (IntKind.i64.wrap (a0_1 - x46_2)) = ji21 := (i64_w _).trans hji21
         by_cases c22 : 0 ≤ (ji21)
         ·rw [if_pos c22] at H
          have c22b0 := eq_true c22
          have c22b1 : decide (0 ≤ (ji21)) = true := decide_eq_true c22
          clear c22
          obtain ⟨ji23, hji23⟩ : ∃ j_ : Int, (shl .i64 1 (ji21)) = j_ := ⟨_, rfl⟩
          replace H : (if ((rd_L3 l0_3 x46_2).length : Int) = (ji23) then ((tree_proper.f a0_0 (rd_L3 l0_3 x46_2)).bind fun t156 => (if t156 = true then (tree_Valid.l0 k2 l0_3 (l0_3.length : Int) (wrap64 (x46_2 + 1)) a0_0 a0_1 a0_2 l0_3) else (some false))) else (some false)) = some r := by first | (rw [hji23] at H; exact H) | (simp only [hji23] at H ⊢; exact H)
          have hji23_ : (IntKind.i64.wrap (1 * 2 ^ min (ji21).toNat 64)) = ji23 := hji23
          have hji23z : (ji21) ≤ 64 → (IntKind.i64.wrap (1 * 2 ^ (ji21).toNat)) = ji23 := shl_small hji23
          have hji23u : (IntKind.i64.wrap (2 ^ min (ji21).toNat 64)) = ji23 := by have h_ := hji23_; rw [Int.one_mul] at h_; exact h_
          have hji23v : (ji21) ≤ 64 → (IntKind.i64.wrap (2 ^ (ji21).toNat)) = ji23 := fun hle_ => by have h_ := hji23z hle_; rw [Int.one_mul] at h_; exact h_
          have hji23y : (wrap64 (1 * 2 ^ min (ji21).toNat 64)) = ji23 := (i64_w _).symm.trans hji23_
          have hji23x : (ji21) ≤ 64 → (wrap64 (1 * 2 ^ (ji21).toNat)) = ji23 := fun h_ => (i64_w _).symm.trans (hji23z h_)
          by_cases c24 : ((rd_L3 l0_3 x46_2).length : Int) = (ji23)
          ·rw [if_pos c24] at H
           have c24b0 : (((rd_L3 l0_3 x46_2).length : Int) == (ji23)) = true := beq_iff_eq.mpr c24
           have c24b1 : (((rd_L3 l0_3 x46_2).length : Int) != (ji23)) = false := bne_eq_false_iff_eq.mpr c24
           clear c24
           replace H := Option.bind_eq_some_iff.mp H
           obtain ⟨t156, A250, H⟩ := H
           have A25 := Aside0.mk A250
           clear A250
           by_cases c26 : t156 = true
           ·subst c26
            have H1 : (tree_Valid.l0 k2 l0_3 (l0_3.length : Int) (wrap64 (x46_2 + 1)) a0_0 a0_1 a0_2 l0_3) = some r := by rw [if_pos rfl] at H; exact H
            clear H
            have H := H1
            clear H1
            have H' := Aside0.mk H
            clear H
            have p155 : 0 ≤ (x46_2 : Int) := of_decide_eq_true (by first | (with_reducible assumption) | assumption)
            have q155 : x46_2 < (l0_3.length : Int) := of_decide_eq_true (by first | (with_reducible assumption) | assumption)
            obtain ⟨ad155, A155_0, c155_0, e155, hx155_0, hl155_0, hi155_0⟩ := at_L3 HR0_3.out x46_2 p155 q155
            cases e155
            replace hx155_0 := (HB.out.cell (World.block_lt_of_cell? w _ hx155_0)).trans hx155_0
            have HR155_0 := Aside0.mk hi155_0
            have HC155_0 := Aside0.mk hl155_0
            clear hi155_0 hl155_0
            replace p155 := eq_true p155
            replace q155 := eq_true q155
            have hcz27_0 : wr.cell? ⟨g153, 0, none⟩ = some (.int .i64 a0_0) := bq_ B153 0
            have hcz27_1 : wr.cell? ⟨g153, 1, none⟩ = some (.int .i64 a0_1) := bq_ B153 1
            have hcz27_2 : wr.cell? ⟨g153, 2, none⟩ = some (.int .i64 a0_2) := bq_ B153 2
            have hcz27_3 : wr.cell? ⟨g153, 3, none⟩ = some (.slice (some ad155) l0_3.length c0_3) := bq_ B153 3
            have hfz27_0 := blk_frozen B153.out 0
            have hfz27_1 := blk_frozen B153.out 1
            have hfz27_2 := blk_frozen B153.out 2
            have hfz27_3 := blk_frozen B153.out 3
            go_wp2_with (first | (go_at_call 39; (with_reducible refine (tree_proper.calls a0_0 _ _ (rd_L3 l0_3 x46_2) true _ ?side1 ?side2 ?side3 A25.out).mono ?_); (case side1 => repeat (first | exact (Kd.C_below HR155_0.out HB.out) | (with_reducible refine Kd.C_alloc ?_ _) | (with_reducible refine Kd.C_drewN ?_ _) | (with_reducible refine Kd.C_drew ?_))); (case side2 => exact HC155_0.out); (case side3 => repeat (first | exact (GL.below HRG.out HB.out) | (with_reducible refine GL.alloc ?_ _) | (with_reducible refine GL.drewN ?_ _) | (with_reducible refine GL.drew ?_))); rintro e w28 ⟨rfl, hb⟩; have n0_ := Aside0.mk (blk_below (g := g153) (o := .cells #[.int .i64 a0_0, .int .i64 a0_1, .int .i64 a0_2, .slice (some ad155) l0_3.length c0_3] 26 (0, 0)) (by exact B153.out) hb); have n1_ := Aside0.mk (below_step (by repeat (first | (with_reducible first | exact HB.out | apply below_alloc | apply pw_below_drewN | apply below_drew1 | refine below_set ?_ GE153.out) | exact HB.out)) hb); clear B153; clear HB; have B153 := n0_; have HB := n1_; clear n0_ n1_; (try clear hb); (try clear hb2); (try clear hk); (try clear hi)))
            go_roundg k2
            case measure => have := HJ1.out; have := HK2.out; omega
            case rel => exact ⟨(wrap64 (x46_2 + 1)), (by first | rfl | (simp; done) | (simp [*]; done) | (simp; rfl) | (simp; decide +kernel)), H', ⟨by have := HJ1.out; have := HK2.out; omega⟩, ⟨by exact B153.out⟩, ⟨by repeat (first | (with_reducible first | exact HB.out | apply below_alloc | apply pw_below_drewN | apply below_drew1 | refine below_set ?_ GE153.out) | exact HB.out)⟩⟩
           ·replace c26 := Bool.eq_false_iff.mpr c26
            subst c26
            have H1 : (some false) = some r := by rw [if_neg (show ¬ (false = true) by decide)] at H; exact H
            clear H
            have H := H1
            clear H1
            obtain rfl := Option.some.inj H
            have p155 : 0 ≤ (x46_2 : Int) := of_decide_eq_true (by first | (with_reducible assumption) | assumption)
            have q155 : x46_2 < (l0_3.length : Int) := of_decide_eq_true (by first | (with_reducible assumption) | assumption)
            obtain ⟨ad155, A155_0, c155_0, e155, hx155_0, hl155_0, hi155_0⟩ := at_L3 HR0_3.out x46_2 p155 q155
            cases e155
            replace hx155_0 := (HB.out.cell (World.block_lt_of_cell? w _ hx155_0)).trans hx155_0
            have HR155_0 := Aside0.mk hi155_0
            have HC155_0 := Aside0.mk hl155_0
            clear hi155_0 hl155_0
            replace p155 := eq_true p155
            replace q155 := eq_true q155
            have hcz29_0 : wr.cell? ⟨g153, 0, none⟩ = some (.int .i64 a0_0) := bq_ B153 0
            have hcz29_1 : wr.cell? ⟨g153, 1, none⟩ = some (.int .i64 a0_1) := bq_ B153 1
            have hcz29_2 : wr.cell? ⟨g153, 2, none⟩ = some (.int .i64 a0_2) := bq_ B153 2
            have hcz29_3 : wr.cell? ⟨g153, 3, none⟩ = some (.slice (some ad155) l0_3.length c0_3) := bq_ B153 3
            have hfz29_0 := blk_frozen B153.out 0
            have hfz29_1 := blk_frozen B153.out 1
            have hfz29_2 := blk_frozen B153.out 2
            have hfz29_3 := blk_frozen B153.out 3
            go_wp2_with (first | (go_at_call 39; (with_reducible refine (tree_proper.calls a0_0 _ _ (rd_L3 l0_3 x46_2) false _ ?side1 ?side2 ?side3 A25.out).mono ?_); (case side1 => repeat (first | exact (Kd.C_below HR155_0.out HB.out) | (with_reducible refine Kd.C_alloc ?_ _) | (with_reducible refine Kd.C_drewN ?_ _) | (with_reducible refine Kd.C_drew ?_))); (case side2 => exact HC155_0.out); (case side3 => repeat (first | exact (GL.below HRG.out HB.out) | (with_reducible refine GL.alloc ?_ _) | (with_reducible refine GL.drewN ?_ _) | (with_reducible refine GL.drew ?_))); rintro e w30 ⟨rfl, hb⟩; have n0_ := Aside0.mk (blk_below (g := g153) (o := .cells #[.int .i64 a0_0, .int .i64 a0_1, .int .i64 a0_2, .slice (some ad155) l0_3.length c0_3] 26 (0, 0)) (by exact B153.out) hb); have n1_ := Aside0.mk (below_step (by repeat (first | (with_reducible first | exact HB.out | apply below_alloc | apply pw_below_drewN | apply below_drew1 | refine below_set ?_ GE153.out) | exact HB.out)) hb); clear B153; clear HB; have B153 := n0_; have HB := n1_; clear n0_ n1_; (try clear hb); (try clear hb2); (try clear hk); (try clear hi)))
            go_ret
            exact ⟨by first | rfl | (simp [errW_none, errW_some] <;> rfl) | (simp only [← hji21, ← hji23]; first | rfl | (simp [errW_none, errW_some] <;> rfl)) | (simp [*, errW_none, errW_some] <;> rfl), by repeat (first | (with_reducible first | exact HB.out | apply below_alloc | apply pw_below_drewN | apply below_drew1 | refine below_set ?_ GE153.out) | exact HB.out)⟩
          ·rw [if_neg c24] at H
           have c24b0 : (((rd_L3 l0_3 x46_2).length : Int) == (ji23)) = false := beq_eq_false_iff_ne.mpr c24
           have c24b1 : (((rd_L3 l0_3 x46_2).length : Int) != (ji23)) = true := bne_iff_ne.mpr c24
           obtain rfl := Option.some.inj H
           have p155 : 0 ≤ (x46_2 : Int) := of_decide_eq_true (by first | (with_reducible assumption) | assumption)
           have q155 : x46_2 < (l0_3.length : Int) := of_decide_eq_true (by first | (with_reducible assumption) | assumption)
           obtain ⟨ad155, A155_0, c155_0, e155, hx155_0, hl155_0, hi155_0⟩ := at_L3 HR0_3.out x46_2 p155 q155
           cases e155
           replace hx155_0 := (HB.out.cell (World.block_lt_of_cell? w _ hx155_0)).trans hx155_0
           have HR155_0 := Aside0.mk hi155_0
           have HC155_0 := Aside0.mk hl155_0
           clear hi155_0 hl155_0
           replace p155 := eq_true p155
           replace q155 := eq_true q155
           have hcz31_0 : wr.cell? ⟨g153, 0, none⟩ = some (.int .i64 a0_0) := bq_ B153 0
           have hcz31_1 : wr.cell? ⟨g153, 1, none⟩ = some (.int .i64 a0_1) := bq_ B153 1
           have hcz31_2 : wr.cell? ⟨g153, 2, none⟩ = some (.int .i64 a0_2) := bq_ B153 2
           have hcz31_3 : wr.cell? ⟨g153, 3, none⟩ = some (.slice (some ad155) l0_3.length c0_3) := bq_ B153 3
           have hfz31_0 := blk_frozen B153.out 0
           have hfz31_1 := blk_frozen B153.out 1
           have hfz31_2 := blk_frozen B153.out 2
           have hfz31_3 := blk_frozen B153.out 3
           go_wp2
           go_ret
           exact ⟨by first | rfl | (simp [errW_none, errW_some] <;> rfl) | (simp only [← hji21, ← hji23]; first | rfl | (simp [errW_none, errW_some] <;> rfl)) | (simp [*, errW_none, errW_some] <;> rfl), by repeat (first | (with_reducible first | exact HB.out | apply below_alloc | apply pw_below_drewN | apply below_drew1 | refine below_set ?_ GE153.out) | exact HB.out)⟩
         ·rw [if_neg c22] at H
          exact absurd H (by simp)
        ·rw [if_neg c20] at H
         exact absurd H (by simp)
       ·rw [if_neg c19] at H
        exact absurd H (by simp)
      ·rw [if_neg c18] at H
       have c18b0 : decide (x46_2 < (l0_3.length : Int)) = false := decide_eq_false c18
       clear c18
       obtain rfl := Option.some.inj H
       go_wp2
       go_ret
       exact ⟨by first | rfl | (simp [errW_none, errW_some] <;> rfl) | (simp [*, errW_none, errW_some] <;> rfl), by repeat (first | (with_reducible first | exact HB.out | apply below_alloc | apply pw_below_drewN | apply below_drew1 | refine below_set ?_ GE153.out) | exact HB.out)⟩

end Go.Proofs.YtpnpmeogffodgaaDoor.Q
end
section
namespace Go.Proofs.YtpnpmeogffodgaaDoor.Q
open Go.RowKit Go.Proofs.YtpnpmeogffodgaaDoorW.PrintWords Go.Proofs.YtpnpmeogffodgaaDoorW.PrintLast Go.Proofs.YtpnpmeogffodgaaDoorW.PrintMore
attribute [local go_sem] max2_int min2_int max_two min_two max_three min_three max_four min_four   -- for this text's walks alone
set_option linter.unusedVariables false
set_option linter.unusedSimpArgs false

/-! ### slices_Clone: function 45 -/
def slices_Clone.f (l0 : List (S36)) : Option ((List (S36))) := (some (([] : List (S36)) : List (S36))).bind fun y101 => (if y101.length + l0.length < 8796093022208 then (some (y101 ++ l0)) else (none))
set_option maxHeartbeats 8000000 in
set_option maxRecDepth 100000 in
theorem slices_Clone.calls_some (a0_ : Addr) (c0 : Nat) (l0 : List (S36)) (r : List (S36)) (w : World) (hr0 : Kd.C k36 w (some a0_) l0.length l0) (hc0 : l0.length ≤ c0) (h : slices_Clone.f l0 = some r) :
    Calls Tryd.prog 45 #[.slice (some a0_) l0.length c0] w fun e w' => ∃ v0_ : Value, e = .returned (v0_) ∧ Kd.R k36 36 w' w.heap.size (fun _ => True) v0_ r ∧ Below w.heap.size w w' := by
  have HR0 := Aside0.mk hr0
  have HC0 := Aside0.mk hc0
  clear hr0 hc0
  have HB := Aside0.mk (Below.refl w.heap.size w)
  have H : ((some (([] : List (S36)) : List (S36))).bind fun y101 => (if y101.length + l0.length < 8796093022208 then (some (y101 ++ l0)) else (none))) = some r := h
  clear h
  obtain ⟨y101, hy101⟩ : ∃ y_ : List (S36), y_ = (([] : List (S36))) := ⟨_, rfl⟩
  replace H : (if y101.length + l0.length < 8796093022208 then (some (y101 ++ l0)) else (none)) = some r := by first | (rw [hy101]; with_reducible exact H) | (have H2_ := (Option.bind_some _ _).symm.trans H; rw [hy101]; with_reducible exact H2_) | (have H2_ := (Option.bind_some _ _).symm.trans H; with_reducible exact H2_) | with_reducible exact H | (rw [hy101]; exact H) | exact H
  have Ny101 := Aside0.mk hy101
  clear hy101
  by_cases c2 : y101.length + l0.length < 8796093022208
  · rw [if_pos c2] at H
    have LMc2 := Aside0.mk c2
    clear c2
    obtain ⟨y104, hy104⟩ : ∃ y_ : List (S36), y_ = (y101 ++ l0) := ⟨_, rfl⟩
    replace H : (some y104) = some r := by first | (rw [hy104]; with_reducible exact H) | (have H2_ := (Option.bind_some _ _).symm.trans H; rw [hy104]; with_reducible exact H2_) | (have H2_ := (Option.bind_some _ _).symm.trans H; with_reducible exact H2_) | with_reducible exact H | (rw [hy104]; exact H) | exact H
    have Ny104 := Aside0.mk hy104
    clear hy104
    obtain rfl := Option.some.inj H
    have hnil := fun (W : World) => Lib.run_eql_slice_nil (P := Tryd.prog) W 22 36 (some a0_) l0.length c0 0 0 Tryd.underlying22
    go_enter Tryd.func45, Tryd.ntmps45
    go_wp2_with (first | ((with_reducible refine gate_dst (N := 5) rfl ?_); refine Kd.R_lit k36 _ 36 ?hg (N := 5) ?hd (xs := ([] : List (S36))) (inner := []) (ok := fun _ => True) (okp := fun _ => True) ?hr ?hp (fun _ hk => hk) trivial (Below.refl _ _) (Nat.le_refl _) (by simp) ?_; (case hd => rfl); (case hg => rfl); (case hr => first | (go_simp; done) | (go_simp; rfl)); (case hp => exact (Reps.none _ _)); intro v102 w3 ho4 hb hg_ hnew_; clear hg_ hnew_; (first | rw [← Ny101.out] at ho4 | (simp only [Int.reduceToNat] at ho4; rw [← Ny101.out] at ho4)); have n0_ := Aside0.mk (Kd.R_lower ho4 (below_size (by repeat (first | (with_reducible first | exact HB.out | apply below_alloc | apply pw_below_drewN | apply below_drew1) | exact HB.out)))); have n1_ := Aside0.mk (below_step (by repeat (first | (with_reducible first | exact HB.out | apply below_alloc | apply pw_below_drewN | apply below_drew1) | exact HB.out)) hb); clear HB; have HO103 := n0_; have HB := n1_; clear n0_ n1_; clear hb ho4) | ((with_reducible refine gate_builtin (b := .append) (xs := #[.tmp 5, .tmp 6]) rfl ?_); at_builtin; refine Kd.R_append_rows k36 (w0 := w) w.heap.size rfl (.tmp 5) (.tmp 6) 22 36 (.agg #[(.int .u64 0), (.int .u64 0)]) 16 rfl Tryd.underlying22 info36 rfl (by decide) (by omega) v102 y101 l0 _ _ _ (fun _ => True) (fun _ => False) rfl rfl ?aO ?aR (fun _ _ h => h) (fun _ h => h.elim) ?aF ?aB ?aS ?aL ?_; (case aR => repeat (first | exact (Kd.C_below HR0.out HB.out) | (with_reducible refine Kd.C_alloc ?_ _) | (with_reducible refine Kd.C_drewN ?_ _) | (with_reducible refine Kd.C_drew ?_))); (case aB => exact (by repeat (first | (with_reducible first | exact HB.out | apply below_alloc | apply pw_below_drewN | apply below_drew1) | exact HB.out))); (case aF => exact (fun _ _ => trivial)); (case aO => exact (by (with_reducible repeat (first | apply Kd.R_alloc | apply Kd.R_drewN | apply Kd.R_drew)); exact HO103.out)); (case aS => exact (below_size (by repeat (first | (with_reducible first | exact HB.out | apply below_alloc | apply pw_below_drewN | apply below_drew1) | exact HB.out)))); (case aL => have := LMc2.out; omega); intro v105 w5 ho hb hg hat; rw [← Ny104.out] at ho; have n0_ := Aside0.mk (hb); have n1_ := Aside0.mk (ho); clear HB; clear HO103; have HB := n0_; have HO106 := n1_; clear n0_ n1_; clear ho hb hg hat))
    go_ret
    exact ⟨_, by first | rfl | (simp [errW_none, errW_some] <;> rfl) | (simp [*, errW_none, errW_some] <;> rfl), by (with_reducible repeat (first | apply Kd.R_alloc | apply Kd.R_drewN | apply Kd.R_drew)); exact HO106.out, by repeat (first | (with_reducible first | exact HB.out | apply below_alloc | apply pw_below_drewN | apply below_drew1) | exact HB.out)⟩
  · rw [if_neg c2] at H
    exact absurd H (by simp)
set_option maxHeartbeats 1000000 in
theorem slices_Clone.calls_none (c0 : Nat) (l0 : List (S36)) (r : List (S36)) (w : World) (hr0 : Kd.C k36 w none l0.length l0) (hc0 : l0.length ≤ c0) (h : slices_Clone.f l0 = some r) :
    Calls Tryd.prog 45 #[.slice none l0.length c0] w fun e w' => ∃ v0_ : Value, e = .returned (v0_) ∧ Kd.R k36 36 w' w.heap.size (fun _ => True) v0_ r ∧ Below w.heap.size w w' := by
  have hl0 : l0 = [] := by
    by_cases hz : l0.length = 0
    · exact List.eq_nil_of_length_eq_zero hz
    · obtain ⟨ad, c, e, _⟩ := Kd.C_get hr0 z36 0 (by omega) (by omega)
      cases e
  subst hl0
  unfold slices_Clone.f at h
  have hr : r = [] := by simp at h; first | exact h | exact h.symm
  subst hr
  clear h hr0 hc0
  have hnil := fun (W : World) => Lib.run_eql_slice_nil (P := Tryd.prog) W 22 36 none 0 c0 0 0 Tryd.underlying22
  go_enter Tryd.func45, Tryd.ntmps45
  go_wp2
  go_ret
  exact ⟨_, rfl, by first | exact Kd.R_nil _ _ _ _ _ | exact Kd.S_nil _ _ _ _ _ | exact Kd.N_nil _ _ _ _ _ | exact Kd.V_nil _ _ _ _ _ | exact Kd.Q_nil _ _ _ _ _, Below.refl _ _⟩
theorem slices_Clone.calls (A0 : Option Addr) (c0 : Nat) (l0 : List (S36)) (r : List (S36)) (w : World) (hr0 : Kd.C k36 w A0 l0.length l0) (hc0 : l0.length ≤ c0) (h : slices_Clone.f l0 = some r) :
    Calls Tryd.prog 45 #[.slice A0 l0.length c0] w fun e w' => ∃ v0_ : Value, e = .returned (v0_) ∧ Kd.R k36 36 w' w.heap.size (fun _ => True) v0_ r ∧ Below w.heap.size w w' := by
  cases A0 with
  | none => exact slices_Clone.calls_none c0 l0 r w hr0 hc0 h
  | some a => exact slices_Clone.calls_some a c0 l0 r w hr0 hc0 h
end Go.Proofs.YtpnpmeogffodgaaDoor.Q
end
section
namespace Go.Proofs.YtpnpmeogffodgaaDoor.Q
open Go.RowKit Go.Proofs.YtpnpmeogffodgaaDoorW.PrintWords Go.Proofs.YtpnpmeogffodgaaDoorW.PrintLast Go.Proofs.YtpnpmeogffodgaaDoorW.PrintMore
attribute [local go_sem] max2_int min2_int max_two min_two max_three min_three max_four min_four run_store_fnV run_store_fnc run_store_nfn   -- for this text's walks alone
set_option linter.unusedVariables false
set_option linter.unusedSimpArgs false

/-! ### tree_Cap: function 19 -/
def tree_Cap.f (k : Nat) (a0_0 : Int) (a0_1 : Int) (a0_2 : Int) (l0_3 : List (List (S36))) : Option ((List (S36))) := (tree_Valid.f k a0_0 a0_1 a0_2 l0_3).bind fun t158 => (if t158 = true then (if 0 ≤ (wrap64 ((l0_3.length : Int) - 1)) then (if (wrap64 ((l0_3.length : Int) - 1)) < (l0_3.length : Int) then ((slices_Clone.f (rd_L3 l0_3 (wrap64 ((l0_3.length : Int) - 1)))).bind fun t160 => (some t160)) else (none)) else (none)) else (some ([] : List (S36))))
theorem tree_Cap.mono : ∀ a0 a1 a2 a3 k, LeO (tree_Cap.f k a0 a1 a2 a3) (tree_Cap.f (k + 1) a0 a1 a2 a3) := by
  intro a0 a1 a2 a3 k
  unfold tree_Cap.f
  repeat' first
      | (with_reducible exact tree_Valid.mono _ _ _ _ _)
      | (with_reducible exact LeO.refl _)
      | (with_reducible exact LeO.none _)
      | (with_reducible refine LeO.ite ?_ ?_)
      | (with_reducible refine LeO.bind ?_ (fun _ => ?_))
      | exact tree_Valid.mono _ _ _ _ _
      | exact LeO.none _
      | refine LeO.ite ?_ ?_
      | refine LeO.bind ?_ (fun _ => ?_)
set_option maxHeartbeats 8000000 in
set_option maxRecDepth 100000 in
theorem tree_Cap.calls (k : Nat) (a0_0 : Int) (a0_1 : Int) (a0_2 : Int) (A0_3 : Option Addr) (c0_3 : Nat) (l0_3 : List (List (S36))) (r : List (S36)) (w : World) (hr0_3 : Kd.C (Kd.slice 36 k36) w A0_3 l0_3.length l0_3) (hc0_3 : l0_3.length ≤ c0_3) (hrG : GL w) (h : tree_Cap.f k a0_0 a0_1 a0_2 l0_3 = some r) :
  Calls Tryd.prog 19 #[.agg #[.int .i64 a0_0, .int .i64 a0_1, .int .i64 a0_2, .slice A0_3 l0_3.length c0_3]] w fun e w' => ∃ v0_ : Value, e = .returned (v0_) ∧ Kd.R k36 36 w' w.heap.size (fun _ => True) v0_ r ∧ Below w.heap.size w w' := by
 have hu26 := Tryd.underlying26
 have HRG := Aside0.mk hrG
 clear hrG
 have HR0_3 := Aside0.mk hr0_3
 have HC0_3 := Aside0.mk hc0_3
 clear hr0_3 hc0_3
 have HB := Aside0.mk (Below.refl w.heap.size w)
 have H : ((tree_Valid.f k a0_0 a0_1 a0_2 l0_3).bind fun t158 => (if t158 = true then (if 0 ≤ (wrap64 ((l0_3.length : Int) - 1)) then (if (wrap64 ((l0_3.length : Int) - 1)) < (l0_3.length : Int) then ((slices_Clone.f (rd_L3 l0_3 (wrap64 ((l0_3.length : Int) - 1)))).bind fun t160 => (some t160)) else (none)) else (none)) else (some ([] : List (S36))))) = some r := h
 clear h
 replace H := Option.bind_eq_some_iff.mp H
 obtain ⟨t158, A20, H⟩ := H
 have A2 := Aside0.mk A20
 clear A20
 by_cases c3 : t158 = true
 ·subst c3
  have H1 : (if 0 ≤ (wrap64 ((l0_3.length : Int) - 1)) then (if (wrap64 ((l0_3.length : Int) - 1)) < (l0_3.length : Int) then ((slices_Clone.f (rd_L3 l0_3 (wrap64 ((l0_3.length : Int) - 1)))).bind fun t160 => (some t160)) else (none)) else (none)) = some r := by rw [if_pos rfl] at H; exact H
  clear H
  have H := H1
  clear H1
  obtain ⟨ji4, hji4⟩ : ∃ j_ : Int, (wrap64 ((l0_3.length : Int) - 1)) = j_ := ⟨_, rfl⟩
  replace H : (if 0 ≤ (ji4) then (if (ji4) < (l0_3.length : Int) then ((slices_Clone.f (rd_L3 l0_3 (ji4))).bind fun t160 => (some t160)) else (none)) else (none)) = some r := by first | (rw [hji4] at H; exact H) | (simp only [hji4] at H ⊢; exact H)
  (try rw [hji4] at A2)
  have hji4w : (IntKind.i64.wrap ((l0_3.length : Int) - 1)) = ji4 := (i64_w _).trans hji4
  by_cases c5 : 0 ≤ (ji4)
  ·rw [if_pos c5] at H
   have c5b0 : decide (0 ≤ (ji4)) = true := decide_eq_true c5
   clear c5
   by_cases c6 : (ji4) < (l0_3.length : Int)
   ·rw [if_pos c6] at H
    have c6b0 : decide ((ji4) < (l0_3.length : Int)) = true := decide_eq_true c6
    clear c6
    replace H := Option.bind_eq_some_iff.mp H
    obtain ⟨t160, A70, H⟩ := H
    have A7 := Aside0.mk A70
    clear A70
    obtain rfl := Option.some.inj H
    go_enter Tryd.func19, Tryd.ntmps19
    go_wp2_with (first | ((with_reducible refine gate_dst (N := 1) rfl ?_); refine box_event ?hg (N := 1) ?hd (cs := #[.int .i64 a0_0, .int .i64 a0_1, .int .i64 a0_2, .slice A0_3 l0_3.length c0_3]) (t := 26) ?hr ?_; (case hd => rfl); (case hg => rfl); (case hr => first | (go_simp; done) | (go_simp; rfl)); intro g157 hg w8 hbox hb; have n0_ := Aside0.mk (below_step (by repeat (first | (with_reducible first | exact HB.out | apply below_alloc | apply pw_below_drewN | apply below_drew1) | exact HB.out)) hb); have n1_ := Aside0.mk (hbox); have n2_ := Aside0.mk ((by rw [hg]; exact (below_size (by repeat (first | (with_reducible first | exact HB.out | apply below_alloc | apply pw_below_drewN | apply below_drew1) | exact HB.out))) : w.heap.size ≤ g157)); have n3_ := Aside0.mk ((by rw [hg]; exact (below_size (by repeat (first | (with_reducible first | exact HB.out | apply below_alloc | apply pw_below_drewN | apply below_drew1) | exact HB.out))) : w.heap.size ≤ g157)); clear HB; have HB := n0_; have B157 := n1_; have GW157 := n2_; have GE157 := n3_; clear n0_ n1_ n2_ n3_; clear hb hbox hg; have hcz9_0 : w8.cell? ⟨g157, 0, none⟩ = some (.int .i64 a0_0) := bq_ B157 0; have hcz9_1 : w8.cell? ⟨g157, 1, none⟩ = some (.int .i64 a0_1) := bq_ B157 1; have hcz9_2 : w8.cell? ⟨g157, 2, none⟩ = some (.int .i64 a0_2) := bq_ B157 2; have hcz9_3 : w8.cell? ⟨g157, 3, none⟩ = some (.slice A0_3 l0_3.length c0_3) := bq_ B157 3; have hfz9_0 := blk_frozen B157.out 0; have hfz9_1 := blk_frozen B157.out 1; have hfz9_2 := blk_frozen B157.out 2; have hfz9_3 := blk_frozen B157.out 3) | ((with_reducible refine gate_callee (f := 16) rfl ?_); refine goesL_ (some 4) rfl rfl Tryd.func16 (by kernel_rfl) rfl #[.agg #[.int .i64 a0_0, .int .i64 a0_1, .int .i64 a0_2, .slice A0_3 l0_3.length c0_3]] rfl (by (try simp only [List.map_toArray, List.map_cons, List.map_nil]); first | done | rfl | (go_simp; done)) ?_; (with_reducible refine (tree_Valid.calls k a0_0 a0_1 a0_2 _ _ l0_3 true _ ?side1 ?side2 ?side3 A2.out).mono ?_); (case side1 => repeat (first | exact (Kd.C_below HR0_3.out HB.out) | (with_reducible refine Kd.C_alloc ?_ _) | (with_reducible refine Kd.C_drewN ?_ _) | (with_reducible refine Kd.C_drew ?_))); (case side2 => exact HC0_3.out); (case side3 => repeat (first | exact (GL.below HRG.out HB.out) | (with_reducible refine GL.alloc ?_ _) | (with_reducible refine GL.drewN ?_ _) | (with_reducible refine GL.drew ?_))); rintro e w10 ⟨rfl, hb⟩; refine ⟨_, rfl, ?_⟩; have n0_ := Aside0.mk (blk_below (g := g157) (o := .cells #[.int .i64 a0_0, .int .i64 a0_1, .int .i64 a0_2, .slice A0_3 l0_3.length c0_3] 26 (0, 0)) (by exact B157.out) hb); have n1_ := Aside0.mk (below_step (by repeat (first | (with_reducible first | exact HB.out | apply below_alloc | apply pw_below_drewN | apply below_drew1 | refine below_set ?_ GE157.out) | exact HB.out)) hb); clear B157; clear HB; have B157 := n0_; have HB := n1_; clear n0_ n1_; (try clear hb); (try clear hb2); (try clear hk); (try clear hi); have hcz11_0 : w10.cell? ⟨g157, 0, none⟩ = some (.int .i64 a0_0) := bq_ B157 0; have hcz11_1 : w10.cell? ⟨g157, 1, none⟩ = some (.int .i64 a0_1) := bq_ B157 1; have hcz11_2 : w10.cell? ⟨g157, 2, none⟩ = some (.int .i64 a0_2) := bq_ B157 2; have hcz11_3 : w10.cell? ⟨g157, 3, none⟩ = some (.slice A0_3 l0_3.length c0_3) := bq_ B157 3; have hfz11_0 := blk_frozen B157.out 0; have hfz11_1 := blk_frozen B157.out 1; have hfz11_2 := blk_frozen B157.out 2; have hfz11_3 := blk_frozen B157.out 3; have p159 : 0 ≤ ((ji4) : Int) := of_decide_eq_true (by first | (with_reducible assumption) | assumption); have q159 : (ji4) < (l0_3.length : Int) := of_decide_eq_true (by first | (with_reducible assumption) | assumption); obtain ⟨ad159, A159_0, c159_0, e159, hx159_0, hl159_0, hi159_0⟩ := at_L3 HR0_3.out (ji4) p159 q159; cases e159; replace hx159_0 := (HB.out.cell (World.block_lt_of_cell? w _ hx159_0)).trans hx159_0; have HR159_0 := Aside0.mk hi159_0; have HC159_0 := Aside0.mk hl159_0; clear hi159_0 hl159_0; replace p159 := eq_true p159; replace q159 := eq_true q159) | ((with_reducible refine gate_callee (f := 45) rfl ?_); refine goesL_ (some 14) rfl rfl Tryd.func45 (by kernel_rfl) rfl #[.slice A159_0 (rd_L3 l0_3 (ji4)).length c159_0] rfl (by (try simp only [List.map_toArray, List.map_cons, List.map_nil]); first | done | (simp only [hji4]; rfl) | rfl | (simp only [List.length_drop, List.length_take]; rfl) | (go_simp; done) | (go_simp; rw [Int.tmod_eq_emod_of_nonneg (by omega)]; omega)) ?_; (with_reducible refine (slices_Clone.calls _ _ (rd_L3 l0_3 (ji4)) t160 _ ?side1 ?side2 A7.out).mono ?_); (case side1 => repeat (first | exact (Kd.C_below HR159_0.out HB.out) | (with_reducible refine Kd.C_alloc ?_ _) | (with_reducible refine Kd.C_drewN ?_ _) | (with_reducible refine Kd.C_drew ?_))); (case side2 => exact HC159_0.out); rintro e w12 ⟨v161, rfl, ho0, hb⟩; refine ⟨_, rfl, ?_⟩; have n0_ := Aside0.mk (Kd.R_lower ho0 (below_size (by repeat (first | (with_reducible first | exact HB.out | apply below_alloc | apply pw_below_drewN | apply below_drew1 | refine below_set ?_ GE157.out) | exact HB.out)))); have n1_ := Aside0.mk (blk_below (g := g157) (o := .cells #[.int .i64 a0_0, .int .i64 a0_1, .int .i64 a0_2, .slice (some ad159) l0_3.length c0_3] 26 (0, 0)) (by exact B157.out) hb); have n2_ := Aside0.mk (below_step (by repeat (first | (with_reducible first | exact HB.out | apply below_alloc | apply pw_below_drewN | apply below_drew1 | refine below_set ?_ GE157.out) | exact HB.out)) hb); clear B157; clear HB; have HO162 := n0_; have B157 := n1_; have HB := n2_; clear n0_ n1_ n2_; (try clear hb); (try clear hb2); (try clear hk); (try clear hi); (try clear ho0)))
    go_ret
    exact ⟨_, by first | rfl | (simp [errW_none, errW_some] <;> rfl) | (simp only [← hji4]; first | rfl | (simp [errW_none, errW_some] <;> rfl)) | (simp [*, errW_none, errW_some] <;> rfl), by (with_reducible repeat (first | apply Kd.R_alloc | apply Kd.R_drewN | apply Kd.R_drew)); exact HO162.out, by repeat (first | (with_reducible first | exact HB.out | apply below_alloc | apply pw_below_drewN | apply below_drew1 | refine below_set ?_ GE157.out) | exact HB.out)⟩
   ·rw [if_neg c6] at H
    exact absurd H (by simp)
  ·rw [if_neg c5] at H
   exact absurd H (by simp)
 ·replace c3 := Bool.eq_false_iff.mpr c3
  subst c3
  have H1 : (some ([] : List (S36))) = some r := by rw [if_neg (show ¬ (false = true) by decide)] at H; exact H
  clear H
  have H := H1
  clear H1
  obtain rfl := Option.some.inj H
  go_enter Tryd.func19, Tryd.ntmps19
  go_wp2_with (first | ((with_reducible refine gate_dst (N := 1) rfl ?_); refine box_event ?hg (N := 1) ?hd (cs := #[.int .i64 a0_0, .int .i64 a0_1, .int .i64 a0_2, .slice A0_3 l0_3.length c0_3]) (t := 26) ?hr ?_; (case hd => rfl); (case hg => rfl); (case hr => first | (go_simp; done) | (go_simp; rfl)); intro g157 hg w13 hbox hb; have n0_ := Aside0.mk (below_step (by repeat (first | (with_reducible first | exact HB.out | apply below_alloc | apply pw_below_drewN | apply below_drew1) | exact HB.out)) hb); have n1_ := Aside0.mk (hbox); have n2_ := Aside0.mk ((by rw [hg]; exact (below_size (by repeat (first | (with_reducible first | exact HB.out | apply below_alloc | apply pw_below_drewN | apply below_drew1) | exact HB.out))) : w.heap.size ≤ g157)); have n3_ := Aside0.mk ((by rw [hg]; exact (below_size (by repeat (first | (with_reducible first | exact HB.out | apply below_alloc | apply pw_below_drewN | apply below_drew1) | exact HB.out))) : w.heap.size ≤ g157)); clear HB; have HB := n0_; have B157 := n1_; have GW157 := n2_; have GE157 := n3_; clear n0_ n1_ n2_ n3_; clear hb hbox hg; have hcz14_0 : w13.cell? ⟨g157, 0, none⟩ = some (.int .i64 a0_0) := bq_ B157 0; have hcz14_1 : w13.cell? ⟨g157, 1, none⟩ = some (.int .i64 a0_1) := bq_ B157 1; have hcz14_2 : w13.cell? ⟨g157, 2, none⟩ = some (.int .i64 a0_2) := bq_ B157 2; have hcz14_3 : w13.cell? ⟨g157, 3, none⟩ = some (.slice A0_3 l0_3.length c0_3) := bq_ B157 3; have hfz14_0 := blk_frozen B157.out 0; have hfz14_1 := blk_frozen B157.out 1; have hfz14_2 := blk_frozen B157.out 2; have hfz14_3 := blk_frozen B157.out 3) | ((with_reducible refine gate_callee (f := 16) rfl ?_); refine goesL_ (some 4) rfl rfl Tryd.func16 (by kernel_rfl) rfl #[.agg #[.int .i64 a0_0, .int .i64 a0_1, .int .i64 a0_2, .slice A0_3 l0_3.length c0_3]] rfl (by (try simp only [List.map_toArray, List.map_cons, List.map_nil]); first | done | rfl | (go_simp; done)) ?_; (with_reducible refine (tree_Valid.calls k a0_0 a0_1 a0_2 _ _ l0_3 false _ ?side1 ?side2 ?side3 A2.out).mono ?_); (case side1 => repeat (first | exact (Kd.C_below HR0_3.out HB.out) | (with_reducible refine Kd.C_alloc ?_ _) | (with_reducible refine Kd.C_drewN ?_ _) | (with_reducible refine Kd.C_drew ?_))); (case side2 => exact HC0_3.out); (case side3 => repeat (first | exact (GL.below HRG.out HB.out) | (with_reducible refine GL.alloc ?_ _) | (with_reducible refine GL.drewN ?_ _) | (with_reducible refine GL.drew ?_))); rintro e w15 ⟨rfl, hb⟩; refine ⟨_, rfl, ?_⟩; have n0_ := Aside0.mk (blk_below (g := g157) (o := .cells #[.int .i64 a0_0, .int .i64 a0_1, .int .i64 a0_2, .slice A0_3 l0_3.length c0_3] 26 (0, 0)) (by exact B157.out) hb); have n1_ := Aside0.mk (below_step (by repeat (first | (with_reducible first | exact HB.out | apply below_alloc | apply pw_below_drewN | apply below_drew1 | refine below_set ?_ GE157.out) | exact HB.out)) hb); clear B157; clear HB; have B157 := n0_; have HB := n1_; clear n0_ n1_; (try clear hb); (try clear hb2); (try clear hk); (try clear hi)))
  go_ret
  exact ⟨_, by first | rfl | (simp [errW_none, errW_some] <;> rfl) | (simp [*, errW_none, errW_some] <;> rfl), by first | exact Kd.R_nil _ _ _ _ _ | exact Kd.N_nil _ _ _ _ _ | exact Kd.V_nil _ _ _ _ _ | exact Kd.Q_nil _ _ _ _ _ | exact Kd.S_nil _ _ _ _ _, by repeat (first | (with_reducible first | exact HB.out | apply below_alloc | apply pw_below_drewN | apply below_drew1 | refine below_set ?_ GE157.out) | exact HB.out)⟩

end Go.Proofs.YtpnpmeogffodgaaDoor.Q
end
section
namespace Go.Proofs.YtpnpmeogffodgaaDoor.Q
open Go.RowKit Go.Proofs.YtpnpmeogffodgaaDoorW.PrintWords Go.Proofs.YtpnpmeogffodgaaDoorW.PrintLast Go.Proofs.YtpnpmeogffodgaaDoorW.PrintMore
attribute [local go_sem] max2_int min2_int max_two min_two max_three min_three max_four min_four run_store_fnV run_store_fnc run_store_nfn   -- for this text's walks alone
set_option linter.unusedVariables false
set_option linter.unusedSimpArgs false

/-! ### tree_place: function 46 -/
def tree_place.f (k : Nat) (a0_0 : Int) (a0_1 : Int) (a0_2 : Int) (l0_3 : List (List (S36))) (a1 : Int) : Option (Int) := (tree_Valid.f k a0_0 a0_1 a0_2 l0_3).bind fun t164 => (if t164 = true then (if a1 < 0 then (some 2) else (if 0 < (l0_3.length : Int) then (if a1 ≥ ((rd_L3 l0_3 0).length : Int) then (some 2) else (some 0)) else (none))) else (some 1))
theorem tree_place.mono : ∀ a0 a1 a2 a3 a4 k, LeO (tree_place.f k a0 a1 a2 a3 a4) (tree_place.f (k + 1) a0 a1 a2 a3 a4) := by
  intro a0 a1 a2 a3 a4 k
  unfold tree_place.f
  repeat' first
      | (with_reducible exact tree_Valid.mono _ _ _ _ _)
      | (with_reducible exact LeO.refl _)
      | (with_reducible exact LeO.none _)
      | (with_reducible refine LeO.ite ?_ ?_)
      | (with_reducible refine LeO.bind ?_ (fun _ => ?_))
      | exact tree_Valid.mono _ _ _ _ _
      | exact LeO.none _
      | refine LeO.ite ?_ ?_
      | refine LeO.bind ?_ (fun _ => ?_)
set_option maxHeartbeats 8000000 in
set_option maxRecDepth 100000 in
theorem tree_place.calls (k : Nat) (a0_0 : Int) (a0_1 : Int) (a0_2 : Int) (A0_3 : Option Addr) (c0_3 : Nat) (l0_3 : List (List (S36))) (a1 : Int) (r : Int) (w : World) (hr0_3 : Kd.C (Kd.slice 36 k36) w A0_3 l0_3.length l0_3) (hc0_3 : l0_3.length ≤ c0_3) (hrG : GL w) (h : tree_place.f k a0_0 a0_1 a0_2 l0_3 a1 = some r) :
  Calls Tryd.prog 46 #[.agg #[.int .i64 a0_0, .int .i64 a0_1, .int .i64 a0_2, .slice A0_3 l0_3.length c0_3], .int .i64 a1] w fun e w' => e = .returned (.int .i64 r) ∧ Below w.heap.size w w' := by
 have hu26 := Tryd.underlying26
 have HRG := Aside0.mk hrG
 clear hrG
 have HR0_3 := Aside0.mk hr0_3
 have HC0_3 := Aside0.mk hc0_3
 clear hr0_3 hc0_3
 have HB := Aside0.mk (Below.refl w.heap.size w)
 have H : ((tree_Valid.f k a0_0 a0_1 a0_2 l0_3).bind fun t164 => (if t164 = true then (if a1 < 0 then (some 2) else (if 0 < (l0_3.length : Int) then (if a1 ≥ ((rd_L3 l0_3 0).length : Int) then (some 2) else (some 0)) else (none))) else (some 1))) = some r := h
 clear h
 replace H := Option.bind_eq_some_iff.mp H
 obtain ⟨t164, A30, H⟩ := H
 have A3 := Aside0.mk A30
 clear A30
 by_cases c4 : t164 = true
 ·subst c4
  have H1 : (if a1 < 0 then (some 2) else (if 0 < (l0_3.length : Int) then (if a1 ≥ ((rd_L3 l0_3 0).length : Int) then (some 2) else (some 0)) else (none))) = some r := by rw [if_pos rfl] at H; exact H
  clear H
  have H := H1
  clear H1
  by_cases c5 : a1 < 0
  ·rw [if_pos c5] at H
   have c5b0 : decide (a1 < 0) = true := decide_eq_true c5
   clear c5
   obtain rfl := Option.some.inj H
   go_enter Tryd.func46, Tryd.ntmps46
   go_wp2_with (first | ((with_reducible refine gate_dst (N := 2) rfl ?_); (try (refine gate_guard (by rfl) ?_; dsimp only)); refine box_event ?hg (N := 2) ?hd (cs := #[.int .i64 a0_0, .int .i64 a0_1, .int .i64 a0_2, .slice A0_3 l0_3.length c0_3]) (t := 26) ?hr ?_; (case hd => rfl); (case hg => rfl); (case hr => first | (go_simp; done) | (go_simp; rfl)); intro g163 hg w6 hbox hb; have n0_ := Aside0.mk (below_step (by repeat (first | (with_reducible first | exact HB.out | apply below_alloc | apply pw_below_drewN | apply below_drew1) | exact HB.out)) hb); have n1_ := Aside0.mk (hbox); have n2_ := Aside0.mk ((by rw [hg]; exact (below_size (by repeat (first | (with_reducible first | exact HB.out | apply below_alloc | apply pw_below_drewN | apply below_drew1) | exact HB.out))) : w.heap.size ≤ g163)); have n3_ := Aside0.mk ((by rw [hg]; exact (below_size (by repeat (first | (with_reducible first | exact HB.out | apply below_alloc | apply pw_below_drewN | apply below_drew1) | exact HB.out))) : w.heap.size ≤ g163)); clear HB; have HB := n0_; have B163 := n1_; have GW163 := n2_; have GE163 := n3_; clear n0_ n1_ n2_ n3_; clear hb hbox hg; have hcz7_0 : w6.cell? ⟨g163, 0, none⟩ = some (.int .i64 a0_0) := bq_ B163 0; have hcz7_1 : w6.cell? ⟨g163, 1, none⟩ = some (.int .i64 a0_1) := bq_ B163 1; have hcz7_2 : w6.cell? ⟨g163, 2, none⟩ = some (.int .i64 a0_2) := bq_ B163 2; have hcz7_3 : w6.cell? ⟨g163, 3, none⟩ = some (.slice A0_3 l0_3.length c0_3) := bq_ B163 3; have hfz7_0 := blk_frozen B163.out 0; have hfz7_1 := blk_frozen B163.out 1; have hfz7_2 := blk_frozen B163.out 2; have hfz7_3 := blk_frozen B163.out 3) | ((with_reducible refine gate_callee (f := 16) rfl ?_); refine goesL_ (some 7) rfl rfl Tryd.func16 (by kernel_rfl) rfl #[.agg #[.int .i64 a0_0, .int .i64 a0_1, .int .i64 a0_2, .slice A0_3 l0_3.length c0_3]] rfl (by (try simp only [List.map_toArray, List.map_cons, List.map_nil]); first | done | rfl | (go_simp; done)) ?_; (with_reducible refine (tree_Valid.calls k a0_0 a0_1 a0_2 _ _ l0_3 true _ ?side1 ?side2 ?side3 A3.out).mono ?_); (case side1 => repeat (first | exact (Kd.C_below HR0_3.out HB.out) | (with_reducible refine Kd.C_alloc ?_ _) | (with_reducible refine Kd.C_drewN ?_ _) | (with_reducible refine Kd.C_drew ?_))); (case side2 => exact HC0_3.out); (case side3 => repeat (first | exact (GL.below HRG.out HB.out) | (with_reducible refine GL.alloc ?_ _) | (with_reducible refine GL.drewN ?_ _) | (with_reducible refine GL.drew ?_))); rintro e w8 ⟨rfl, hb⟩; refine ⟨_, rfl, ?_⟩; have n0_ := Aside0.mk (blk_below (g := g163) (o := .cells #[.int .i64 a0_0, .int .i64 a0_1, .int .i64 a0_2, .slice A0_3 l0_3.length c0_3] 26 (0, 0)) (by exact B163.out) hb); have n1_ := Aside0.mk (below_step (by repeat (first | (with_reducible first | exact HB.out | apply below_alloc | apply pw_below_drewN | apply below_drew1 | refine below_set ?_ GE163.out) | exact HB.out)) hb); clear B163; clear HB; have B163 := n0_; have HB := n1_; clear n0_ n1_; (try clear hb); (try clear hb2); (try clear hk); (try clear hi)))
   go_ret
   exact ⟨by first | rfl | (simp [errW_none, errW_some] <;> rfl) | (simp [*, errW_none, errW_some] <;> rfl), by repeat (first | (with_reducible first | exact HB.out | apply below_alloc | apply pw_below_drewN | apply below_drew1 | refine below_set ?_ GE163.out) | exact HB.out)⟩
  ·rw [if_neg c5] at H
   have c5b0 : decide (a1 < 0) = false := decide_eq_false c5
   clear c5
   by_cases c9 : 0 < (l0_3.length : Int)
   ·rw [if_pos c9] at H
    have c9b0 : decide (0 < (l0_3.length : Int)) = true := decide_eq_true c9
    have c9b1 : decide (0 < l0_3.length) = true := decide_eq_true (by omega)
    clear c9
    by_cases c10 : a1 ≥ ((rd_L3 l0_3 0).length : Int)
    ·rw [if_pos c10] at H
     have c10b0 : decide (((rd_L3 l0_3 0).length : Int) ≤ a1) = true := decide_eq_true c10
     clear c10
     obtain rfl := Option.some.inj H
     go_enter Tryd.func46, Tryd.ntmps46
     go_wp2_with (first | ((with_reducible refine gate_dst (N := 2) rfl ?_); (try (refine gate_guard (by rfl) ?_; dsimp only)); refine box_event ?hg (N := 2) ?hd (cs := #[.int .i64 a0_0, .int .i64 a0_1, .int .i64 a0_2, .slice A0_3 l0_3.length c0_3]) (t := 26) ?hr ?_; (case hd => rfl); (case hg => rfl); (case hr => first | (go_simp; done) | (go_simp; rfl)); intro g163 hg w11 hbox hb; have n0_ := Aside0.mk (below_step (by repeat (first | (with_reducible first | exact HB.out | apply below_alloc | apply pw_below_drewN | apply below_drew1) | exact HB.out)) hb); have n1_ := Aside0.mk (hbox); have n2_ := Aside0.mk ((by rw [hg]; exact (below_size (by repeat (first | (with_reducible first | exact HB.out | apply below_alloc | apply pw_below_drewN | apply below_drew1) | exact HB.out))) : w.heap.size ≤ g163)); have n3_ := Aside0.mk ((by rw [hg]; exact (below_size (by repeat (first | (with_reducible first | exact HB.out | apply below_alloc | apply pw_below_drewN | apply below_drew1) | exact HB.out))) : w.heap.size ≤ g163)); clear HB; have HB := n0_; have B163 := n1_; have GW163 := n2_; have GE163 := n3_; clear n0_ n1_ n2_ n3_; clear hb hbox hg; have hcz12_0 : w11.cell? ⟨g163, 0, none⟩ = some (.int .i64 a0_0) := bq_ B163 0; have hcz12_1 : w11.cell? ⟨g163, 1, none⟩ = some (.int .i64 a0_1) := bq_ B163 1; have hcz12_2 : w11.cell? ⟨g163, 2, none⟩ = some (.int .i64 a0_2) := bq_ B163 2; have hcz12_3 : w11.cell? ⟨g163, 3, none⟩ = some (.slice A0_3 l0_3.length c0_3) := bq_ B163 3; have hfz12_0 := blk_frozen B163.out 0; have hfz12_1 := blk_frozen B163.out 1; have hfz12_2 := blk_frozen B163.out 2; have hfz12_3 := blk_frozen B163.out 3) | ((with_reducible refine gate_callee (f := 16) rfl ?_); refine goesL_ (some 7) rfl rfl Tryd.func16 (by kernel_rfl) rfl #[.agg #[.int .i64 a0_0, .int .i64 a0_1, .int .i64 a0_2, .slice A0_3 l0_3.length c0_3]] rfl (by (try simp only [List.map_toArray, List.map_cons, List.map_nil]); first | done | rfl | (go_simp; done)) ?_; (with_reducible refine (tree_Valid.calls k a0_0 a0_1 a0_2 _ _ l0_3 true _ ?side1 ?side2 ?side3 A3.out).mono ?_); (case side1 => repeat (first | exact (Kd.C_below HR0_3.out HB.out) | (with_reducible refine Kd.C_alloc ?_ _) | (with_reducible refine Kd.C_drewN ?_ _) | (with_reducible refine Kd.C_drew ?_))); (case side2 => exact HC0_3.out); (case side3 => repeat (first | exact (GL.below HRG.out HB.out) | (with_reducible refine GL.alloc ?_ _) | (with_reducible refine GL.drewN ?_ _) | (with_reducible refine GL.drew ?_))); rintro e w13 ⟨rfl, hb⟩; refine ⟨_, rfl, ?_⟩; have n0_ := Aside0.mk (blk_below (g := g163) (o := .cells #[.int .i64 a0_0, .int .i64 a0_1, .int .i64 a0_2, .slice A0_3 l0_3.length c0_3] 26 (0, 0)) (by exact B163.out) hb); have n1_ := Aside0.mk (below_step (by repeat (first | (with_reducible first | exact HB.out | apply below_alloc | apply pw_below_drewN | apply below_drew1 | refine below_set ?_ GE163.out) | exact HB.out)) hb); clear B163; clear HB; have B163 := n0_; have HB := n1_; clear n0_ n1_; (try clear hb); (try clear hb2); (try clear hk); (try clear hi); have hcz14_0 : w13.cell? ⟨g163, 0, none⟩ = some (.int .i64 a0_0) := bq_ B163 0; have hcz14_1 : w13.cell? ⟨g163, 1, none⟩ = some (.int .i64 a0_1) := bq_ B163 1; have hcz14_2 : w13.cell? ⟨g163, 2, none⟩ = some (.int .i64 a0_2) := bq_ B163 2; have hcz14_3 : w13.cell? ⟨g163, 3, none⟩ = some (.slice A0_3 l0_3.length c0_3) := bq_ B163 3; have hfz14_0 := blk_frozen B163.out 0; have hfz14_1 := blk_frozen B163.out 1; have hfz14_2 := blk_frozen B163.out 2; have hfz14_3 := blk_frozen B163.out 3; have p165 : 0 ≤ (0 : Int) := (by omega); have q165 : 0 < (l0_3.length : Int) := of_decide_eq_true (by first | (with_reducible assumption) | assumption); obtain ⟨ad165, A165_0, c165_0, e165, hx165_0, hl165_0, hi165_0⟩ := at_L3 HR0_3.out 0 p165 q165; cases e165; have qi165 : (0 < l0_3.length) = True := eq_true (by omega); (try rw [show ((0 : Int)).toNat = 0 from rfl] at hx165_0); (try rw [Addr.add_zero'] at hx165_0); replace hx165_0 := (HB.out.cell (World.block_lt_of_cell? w _ hx165_0)).trans hx165_0; have HR165_0 := Aside0.mk hi165_0; have HC165_0 := Aside0.mk hl165_0; clear hi165_0 hl165_0; replace p165 := eq_true p165; replace q165 := eq_true q165))
     go_ret
     exact ⟨by first | rfl | (simp [errW_none, errW_some] <;> rfl) | (simp [*, errW_none, errW_some] <;> rfl), by repeat (first | (with_reducible first | exact HB.out | apply below_alloc | apply pw_below_drewN | apply below_drew1 | refine below_set ?_ GE163.out) | exact HB.out)⟩
    ·rw [if_neg c10] at H
     have c10b0 : decide (((rd_L3 l0_3 0).length : Int) ≤ a1) = false := decide_eq_false c10
     clear c10
     obtain rfl := Option.some.inj H
     go_enter Tryd.func46, Tryd.ntmps46
     go_wp2_with (first | ((with_reducible refine gate_dst (N := 2) rfl ?_); (try (refine gate_guard (by rfl) ?_; dsimp only)); refine box_event ?hg (N := 2) ?hd (cs := #[.int .i64 a0_0, .int .i64 a0_1, .int .i64 a0_2, .slice A0_3 l0_3.length c0_3]) (t := 26) ?hr ?_; (case hd => rfl); (case hg => rfl); (case hr => first | (go_simp; done) | (go_simp; rfl)); intro g163 hg w15 hbox hb; have n0_ := Aside0.mk (below_step (by repeat (first | (with_reducible first | exact HB.out | apply below_alloc | apply pw_below_drewN | apply below_drew1) | exact HB.out)) hb); have n1_ := Aside0.mk (hbox); have n2_ := Aside0.mk ((by rw [hg]; exact (below_size (by repeat (first | (with_reducible first | exact HB.out | apply below_alloc | apply pw_below_drewN | apply below_drew1) | exact HB.out))) : w.heap.size ≤ g163)); have n3_ := Aside0.mk ((by rw [hg]; exact (below_size (by repeat (first | (with_reducible first | exact HB.out | apply below_alloc | apply pw_below_drewN | apply below_drew1) | exact HB.out))) : w.heap.size ≤ g163)); clear HB; have HB := n0_; have B163 := n1_; have GW163 := n2_; have GE163 := n3_; clear n0_ n1_ n2_ n3_; clear hb hbox hg; have hcz16_0 : w15.cell? ⟨g163, 0, none⟩ = some (.int .i64 a0_0) := bq_ B163 0; have hcz16_1 : w15.cell? ⟨g163, 1, none⟩ = some (.int .i64 a0_1) := bq_ B163 1; have hcz16_2 : w15.cell? ⟨g163, 2, none⟩ = some (.int .i64 a0_2) := bq_ B163 2; have hcz16_3 : w15.cell? ⟨g163, 3, none⟩ = some (.slice A0_3 l0_3.length c0_3) := bq_ B163 3; have hfz16_0 := blk_frozen B163.out 0; have hfz16_1 := blk_frozen B163.out 1; have hfz16_2 := blk_frozen B163.out 2; have hfz16_3 := blk_frozen B163.out 3) | ((with_reducible refine gate_callee (f := 16) rfl ?_); refine goesL_ (some 7) rfl rfl Tryd.func16 (by kernel_rfl) rfl #[.agg #[.int .i64 a0_0, .int .i64 a0_1, .int .i64 a0_2, .slice A0_3 l0_3.length c0_3]] rfl (by (try simp only [List.map_toArray, List.map_cons, List.map_nil]); first | done | rfl | (go_simp; done)) ?_; (with_reducible refine (tree_Valid.calls k a0_0 a0_1 a0_2 _ _ l0_3 true _ ?side1 ?side2 ?side3 A3.out).mono ?_); (case side1 => repeat (first | exact (Kd.C_below HR0_3.out HB.out) | (with_reducible refine Kd.C_alloc ?_ _) | (with_reducible refine Kd.C_drewN ?_ _) | (with_reducible refine Kd.C_drew ?_))); (case side2 => exact HC0_3.out); (case side3 => repeat (first | exact (GL.below HRG.out HB.out) | (with_reducible refine GL.alloc ?_ _) | (with_reducible refine GL.drewN ?_ _) | (with_reducible refine GL.drew ?_))); rintro e w17 ⟨rfl, hb⟩; refine ⟨_, rfl, ?_⟩; have n0_ := Aside0.mk (blk_below (g := g163) (o := .cells #[.int .i64 a0_0, .int .i64 a0_1, .int .i64 a0_2, .slice A0_3 l0_3.length c0_3] 26 (0, 0)) (by exact B163.out) hb); have n1_ := Aside0.mk (below_step (by repeat (first | (with_reducible first | exact HB.out | apply below_alloc | apply pw_below_drewN | apply below_drew1 | refine below_set ?_ GE163.out) | exact HB.out)) hb); clear B163; clear HB; have B163 := n0_; have HB := n1_; clear n0_ n1_; (try clear hb); (try clear hb2); (try clear hk); (try clear hi); have hcz18_0 : w17.cell? ⟨g163, 0, none⟩ = some (.int .i64 a0_0) := bq_ B163 0; have hcz18_1 : w17.cell? ⟨g163, 1, none⟩ = some (.int .i64 a0_1) := bq_ B163 1; have hcz18_2 : w17.cell? ⟨g163, 2, none⟩ = some (.int .i64 a0_2) := bq_ B163 2; have hcz18_3 : w17.cell? ⟨g163, 3, none⟩ = some (.slice A0_3 l0_3.length c0_3) := bq_ B163 3; have hfz18_0 := blk_frozen B163.out 0; have hfz18_1 := blk_frozen B163.out 1; have hfz18_2 := blk_frozen B163.out 2; have hfz18_3 := blk_frozen B163.out 3; have p165 : 0 ≤ (0 : Int) := (by omega); have q165 : 0 < (l0_3.length : Int) := of_decide_eq_true (by first | (with_reducible assumption) | assumption); obtain ⟨ad165, A165_0, c165_0, e165, hx165_0, hl165_0, hi165_0⟩ := at_L3 HR0_3.out 0 p165 q165; cases e165; have qi165 : (0 < l0_3.length) = True := eq_true (by omega); (try rw [show ((0 : Int)).toNat = 0 from rfl] at hx165_0); (try rw [Addr.add_zero'] at hx165_0); replace hx165_0 := (HB.out.cell (World.block_lt_of_cell? w _ hx165_0)).trans hx165_0; have HR165_0 := Aside0.mk hi165_0; have HC165_0 := Aside0.mk hl165_0; clear hi165_0 hl165_0; replace p165 := eq_true p165; replace q165 := eq_true q165))
     go_ret
     exact ⟨by first | rfl | (simp [errW_none, errW_some] <;> rfl) | (simp [*, errW_none, errW_some] <;> rfl), by repeat (first | (with_reducible first | exact HB.out | apply below_alloc | apply pw_below_drewN | apply below_drew1 | refine below_set ?_ GE163.out) | exact HB.out)⟩
   ·rw [if_neg c9] at H
    exact absurd H (by simp)
 ·replace c4 := Bool.eq_false_iff.mpr c4
  subst c4
  have H1 : (some 1) = some r := by rw [if_neg (show ¬ (false = true) by decide)] at H; exact H
  clear H
  have H := H1
  clear H1
  obtain rfl := Option.some.inj H
  go_enter Tryd.func46, Tryd.ntmps46
  go_wp2_with (first | ((with_reducible refine gate_dst (N := 2) rfl ?_); (try (refine gate_guard (by rfl) ?_; dsimp only)); refine box_event ?hg (N := 2) ?hd (cs := #[.int .i64 a0_0, .int .i64 a0_1, .int .i64 a0_2, .slice A0_3 l0_3.length c0_3]) (t := 26) ?hr ?_; (case hd => rfl); (case hg => rfl); (case hr => first | (go_simp; done) | (go_simp; rfl)); intro g163 hg w19 hbox hb; have n0_ := Aside0.mk (below_step (by repeat (first | (with_reducible first | exact HB.out | apply below_alloc | apply pw_below_drewN | apply below_drew1) | exact HB.out)) hb); have n1_ := Aside0.mk (hbox); have n2_ := Aside0.mk ((by rw [hg]; exact (below_size (by repeat (first | (with_reducible first | exact HB.out | apply below_alloc | apply pw_below_drewN | apply below_drew1) | exact HB.out))) : w.heap.size ≤ g163)); have n3_ := Aside0.mk ((by rw [hg]; exact (below_size (by repeat (first | (with_reducible first | exact HB.out | apply below_alloc | apply pw_below_drewN | apply below_drew1) | exact HB.out))) : w.heap.size ≤ g163)); clear HB; have HB := n0_; have B163 := n1_; have GW163 := n2_; have GE163 := n3_; clear n0_ n1_ n2_ n3_; clear hb hbox hg; have hcz20_0 : w19.cell? ⟨g163, 0, none⟩ = some (.int .i64 a0_0) := bq_ B163 0; have hcz20_1 : w19.cell? ⟨g163, 1, none⟩ = some (.int .i64 a0_1) := bq_ B163 1; have hcz20_2 : w19.cell? ⟨g163, 2, none⟩ = some (.int .i64 a0_2) := bq_ B163 2; have hcz20_3 : w19.cell? ⟨g163, 3, none⟩ = some (.slice A0_3 l0_3.length c0_3) := bq_ B163 3; have hfz20_0 := blk_frozen B163.out 0; have hfz20_1 := blk_frozen B163.out 1; have hfz20_2 := blk_frozen B163.out 2; have hfz20_3 := blk_frozen B163.out 3) | ((with_reducible refine gate_callee (f := 16) rfl ?_); refine goesL_ (some 7) rfl rfl Tryd.func16 (by kernel_rfl) rfl #[.agg #[.int .i64 a0_0, .int .i64 a0_1, .int .i64 a0_2, .slice A0_3 l0_3.length c0_3]] rfl (by (try simp only [List.map_toArray, List.map_cons, List.map_nil]); first | done | rfl | (go_simp; done)) ?_; (with_reducible refine (tree_Valid.calls k a0_0 a0_1 a0_2 _ _ l0_3 false _ ?side1 ?side2 ?side3 A3.out).mono ?_); (case side1 => repeat (first | exact (Kd.C_below HR0_3.out HB.out) | (with_reducible refine Kd.C_alloc ?_ _) | (with_reducible refine Kd.C_drewN ?_ _) | (with_reducible refine Kd.C_drew ?_))); (case side2 => exact HC0_3.out); (case side3 => repeat (first | exact (GL.below HRG.out HB.out) | (with_reducible refine GL.alloc ?_ _) | (with_reducible refine GL.drewN ?_ _) | (with_reducible refine GL.drew ?_))); rintro e w21 ⟨rfl, hb⟩; refine ⟨_, rfl, ?_⟩; have n0_ := Aside0.mk (blk_below (g := g163) (o := .cells #[.int .i64 a0_0, .int .i64 a0_1, .int .i64 a0_2, .slice A0_3 l0_3.length c0_3] 26 (0, 0)) (by exact B163.out) hb); have n1_ := Aside0.mk (below_step (by repeat (first | (with_reducible first | exact HB.out | apply below_alloc | apply pw_below_drewN | apply below_drew1 | refine below_set ?_ GE163.out) | exact HB.out)) hb); clear B163; clear HB; have B163 := n0_; have HB := n1_; clear n0_ n1_; (try clear hb); (try clear hb2); (try clear hk); (try clear hi)))
  go_ret
  exact ⟨by first | rfl | (simp [errW_none, errW_some] <;> rfl) | (simp [*, errW_none, errW_some] <;> rfl), by repeat (first | (with_reducible first | exact HB.out | apply below_alloc | apply pw_below_drewN | apply below_drew1 | refine below_set ?_ GE163.out) | exact HB.out)⟩

end Go.Proofs.YtpnpmeogffodgaaDoor.Q
end
section
namespace Go.Proofs.YtpnpmeogffodgaaDoor.Q
open Go.RowKit Go.Proofs.YtpnpmeogffodgaaDoorW.PrintWords Go.Proofs.YtpnpmeogffodgaaDoorW.PrintLast Go.Proofs.YtpnpmeogffodgaaDoorW.PrintMore
attribute [local go_sem] max2_int min2_int max_two min_two max_three min_three max_four min_four run_store_fnV run_store_fnc run_store_nfn   -- for this text's walks alone
set_option linter.unusedVariables false
set_option linter.unusedSimpArgs false

/-! ### tree_Path: function 23 -/
def tree_Path.l0 : Nat → Int → List (S36) → List (List (S36)) → Int → Int → Option ((List (S36)) × Int)
  | 0, _, _, _, _, _ => none
  | k + 1, x1, x7, x22, x23, x24 => if x24 < x23 then (if 0 ≤ x24 then (if x24 < (x22.length : Int) then (if 0 ≤ (Go.bits .xor .i64 x1 1) then (if (Go.bits .xor .i64 x1 1) < ((rd_L3 x22 x24).length : Int) then (if x7.length < 8796093022208 then (tree_Path.l0 k (x1 / 2) (x7 ++ [(⟨(rd_T36 (rd_L3 x22 x24) (Go.bits .xor .i64 x1 1)).f0, (rd_T36 (rd_L3 x22 x24) (Go.bits .xor .i64 x1 1)).f1⟩ : S36)]) x22 x23 (wrap64 (x24 + 1))) else (none)) else (none)) else (none)) else (none)) else (none)) else (some (x7, 0))
def tree_Path.f (k : Nat) (a0_0 : Int) (a0_1 : Int) (a0_2 : Int) (l0_3 : List (List (S36))) (a1 : Int) : Option ((List (S36)) × Int) := (tree_place.f k a0_0 a0_1 a0_2 l0_3 a1).bind fun t167 => (if t167 = 0 then (if 0 ≤ (wrap64 ((l0_3.length : Int) - 1)) then (if (wrap64 ((l0_3.length : Int) - 1)) ≤ (l0_3.length : Int) then ((some (l0_3.take ((wrap64 ((l0_3.length : Int) - 1)) : Int).toNat : List (List (S36)))).bind fun y168 => (tree_Path.l0 k a1 ([] : List (S36)) y168 (y168.length : Int) 0)) else (none)) else (none)) else (some (([] : List (S36)), t167)))
theorem tree_Path.mono_l : ∀ k, (∀ y0 y1 y2 y3 y4, LeO (tree_Path.l0 k y0 y1 y2 y3 y4) (tree_Path.l0 (k + 1) y0 y1 y2 y3 y4))
  | 0 => fun _ _ _ _ _ r h => by simp [tree_Path.l0] at h
  | k + 1 => by
    have ih0 := tree_Path.mono_l k
    · intro y0 y1 y2 y3 y4
      unfold tree_Path.l0
      repeat' first
      | (with_reducible exact ih0 _ _ _ _ _)
      | (with_reducible exact tree_place.mono _ _ _ _ _ _)
      | (with_reducible exact LeO.refl _)
      | (with_reducible exact LeO.none _)
      | (with_reducible refine LeO.ite ?_ ?_)
      | (with_reducible refine LeO.bind ?_ (fun _ => ?_))
      | exact ih0 _ _ _ _ _
      | exact tree_place.mono _ _ _ _ _ _
      | exact LeO.none _
      | refine LeO.ite ?_ ?_
      | refine LeO.bind ?_ (fun _ => ?_)
theorem tree_Path.mono : ∀ a0 a1 a2 a3 a4 k, LeO (tree_Path.f k a0 a1 a2 a3 a4) (tree_Path.f (k + 1) a0 a1 a2 a3 a4) := by
  intro a0 a1 a2 a3 a4 k
  have ih0 := tree_Path.mono_l k
  unfold tree_Path.f
  repeat' first
      | (with_reducible exact ih0 _ _ _ _ _)
      | (with_reducible exact tree_place.mono _ _ _ _ _ _)
      | (with_reducible exact LeO.refl _)
      | (with_reducible exact LeO.none _)
      | (with_reducible refine LeO.ite ?_ ?_)
      | (with_reducible refine LeO.bind ?_ (fun _ => ?_))
      | exact ih0 _ _ _ _ _
      | exact tree_place.mono _ _ _ _ _ _
      | exact LeO.none _
      | refine LeO.ite ?_ ?_
      | refine LeO.bind ?_ (fun _ => ?_)
set_option maxHeartbeats 8000000 in
set_option maxRecDepth 100000 in
theorem tree_Path.calls (k : Nat) (a0_0 : Int) (a0_1 : Int) (a0_2 : Int) (A0_3 : Option Addr) (c0_3 : Nat) (l0_3 : List (List (S36))) (a1 : Int) (r1 : List (S36)) (r2 : Int) (w : World) (hr0_3 : Kd.C (Kd.slice 36 k36) w A0_3 l0_3.length l0_3) (hc0_3 : l0_3.length ≤ c0_3) (hrG : GL w) (h : tree_Path.f k a0_0 a0_1 a0_2 l0_3 a1 = some (r1, r2)) :
  Calls Tryd.prog 23 #[.agg #[.int .i64 a0_0, .int .i64 a0_1, .int .i64 a0_2, .slice A0_3 l0_3.length c0_3], .int .i64 a1] w fun e w' => ∃ v0_ : Value, e = .returned (.tuple #[v0_, .int .i64 r2]) ∧ Kd.R k36 36 w' w.heap.size (fun _ => True) v0_ r1 ∧ Below w.heap.size w w' := by
 have hu26 := Tryd.underlying26
 have hu36 := Tryd.underlying36
 have HRG := Aside0.mk hrG
 clear hrG
 have HR0_3 := Aside0.mk hr0_3
 have HC0_3 := Aside0.mk hc0_3
 clear hr0_3 hc0_3
 have HB := Aside0.mk (Below.refl w.heap.size w)
 have H : ((tree_place.f k a0_0 a0_1 a0_2 l0_3 a1).bind fun t167 => (if t167 = 0 then (if 0 ≤ (wrap64 ((l0_3.length : Int) - 1)) then (if (wrap64 ((l0_3.length : Int) - 1)) ≤ (l0_3.length : Int) then ((some (l0_3.take ((wrap64 ((l0_3.length : Int) - 1)) : Int).toNat : List (List (S36)))).bind fun y168 => (tree_Path.l0 k a1 ([] : List (S36)) y168 (y168.length : Int) 0)) else (none)) else (none)) else (some (([] : List (S36)), t167)))) = some (r1, r2) := h
 clear h
 replace H := Option.bind_eq_some_iff.mp H
 obtain ⟨t167, A30, H⟩ := H
 have A3 := Aside0.mk A30
 clear A30
 by_cases c4 : t167 = 0
 ·rw [if_pos c4] at H
  have c4b0 : (t167 == 0) = true := beq_iff_eq.mpr c4
  have c4b1 : (t167 != 0) = false := bne_eq_false_iff_eq.mpr c4
  clear c4
  obtain ⟨ji5, hji5⟩ : ∃ j_ : Int, (wrap64 ((l0_3.length : Int) - 1)) = j_ := ⟨_, rfl⟩
  replace H : (if 0 ≤ (ji5) then (if (ji5) ≤ (l0_3.length : Int) then ((some (l0_3.take ((ji5) : Int).toNat : List (List (S36)))).bind fun y168 => (tree_Path.l0 k a1 ([] : List (S36)) y168 (y168.length : Int) 0)) else (none)) else (none)) = some (r1, r2) := by first | (rw [hji5] at H; exact H) | (simp only [hji5] at H ⊢; exact H)
  (try rw [hji5] at A3)
  have hji5w : (IntKind.i64.wrap ((l0_3.length : Int) - 1)) = ji5 := (i64_w _).trans hji5
  by_cases c6 : 0 ≤ (ji5)
  ·rw [if_pos c6] at H
   have c6b0 := eq_true c6
   have c6b1 : decide (0 ≤ (ji5)) = true := decide_eq_true c6
   clear c6
   by_cases c7 : (ji5) ≤ (l0_3.length : Int)
   ·rw [if_pos c7] at H
    have c7b0 := eq_true c7
    have c7b1 : decide ((ji5) ≤ (l0_3.length : Int)) = true := decide_eq_true c7
    clear c7
    obtain ⟨y168, hy168⟩ : ∃ y_ : List (List (S36)), y_ = (l0_3.take ((ji5) : Int).toNat) := ⟨_, rfl⟩
    replace H : (tree_Path.l0 k a1 ([] : List (S36)) y168 (y168.length : Int) 0) = some (r1, r2) := by first | (rw [hy168]; with_reducible exact H) | (have H2_ := (Option.bind_some _ _).symm.trans H; rw [hy168]; with_reducible exact H2_) | (have H2_ := (Option.bind_some _ _).symm.trans H; with_reducible exact H2_) | with_reducible exact H | (rw [hy168]; exact H) | exact H
    have Ny168 := Aside0.mk hy168
    clear hy168
    have H' := Aside0.mk H
    clear H
    go_enter Tryd.func23, Tryd.ntmps23
    go_wp2_with (first | ((with_reducible refine gate_dst (N := 2) rfl ?_); refine box_event ?hg (N := 2) ?hd (cs := #[.int .i64 a0_0, .int .i64 a0_1, .int .i64 a0_2, .slice A0_3 l0_3.length c0_3]) (t := 26) ?hr ?_; (case hd => rfl); (case hg => rfl); (case hr => first | (go_simp; done) | (go_simp; rfl)); intro g166 hg w8 hbox hb; have n0_ := Aside0.mk (below_step (by repeat (first | (with_reducible first | exact HB.out | apply below_alloc | apply pw_below_drewN | apply below_drew1) | exact HB.out)) hb); have n1_ := Aside0.mk (hbox); have n2_ := Aside0.mk ((by rw [hg]; exact (below_size (by repeat (first | (with_reducible first | exact HB.out | apply below_alloc | apply pw_below_drewN | apply below_drew1) | exact HB.out))) : w.heap.size ≤ g166)); have n3_ := Aside0.mk ((by rw [hg]; exact (below_size (by repeat (first | (with_reducible first | exact HB.out | apply below_alloc | apply pw_below_drewN | apply below_drew1) | exact HB.out))) : w.heap.size ≤ g166)); clear HB; have HB := n0_; have B166 := n1_; have GW166 := n2_; have GE166 := n3_; clear n0_ n1_ n2_ n3_; clear hb hbox hg; have hcz9_0 : w8.cell? ⟨g166, 0, none⟩ = some (.int .i64 a0_0) := bq_ B166 0; have hcz9_1 : w8.cell? ⟨g166, 1, none⟩ = some (.int .i64 a0_1) := bq_ B166 1; have hcz9_2 : w8.cell? ⟨g166, 2, none⟩ = some (.int .i64 a0_2) := bq_ B166 2; have hcz9_3 : w8.cell? ⟨g166, 3, none⟩ = some (.slice A0_3 l0_3.length c0_3) := bq_ B166 3; have hfz9_0 := blk_frozen B166.out 0; have hfz9_1 := blk_frozen B166.out 1; have hfz9_2 := blk_frozen B166.out 2; have hfz9_3 := blk_frozen B166.out 3) | ((with_reducible refine gate_callee (f := 46) rfl ?_); refine goesL_ (some 12) rfl rfl Tryd.func46 (by kernel_rfl) rfl #[.agg #[.int .i64 a0_0, .int .i64 a0_1, .int .i64 a0_2, .slice A0_3 l0_3.length c0_3], .int .i64 a1] rfl (by (try simp only [List.map_toArray, List.map_cons, List.map_nil]); first | done | rfl | (go_simp; done)) ?_; (with_reducible refine (tree_place.calls k a0_0 a0_1 a0_2 _ _ l0_3 a1 t167 _ ?side1 ?side2 ?side3 A3.out).mono ?_); (case side1 => repeat (first | exact (Kd.C_below HR0_3.out HB.out) | (with_reducible refine Kd.C_alloc ?_ _) | (with_reducible refine Kd.C_drewN ?_ _) | (with_reducible refine Kd.C_drew ?_))); (case side2 => exact HC0_3.out); (case side3 => repeat (first | exact (GL.below HRG.out HB.out) | (with_reducible refine GL.alloc ?_ _) | (with_reducible refine GL.drewN ?_ _) | (with_reducible refine GL.drew ?_))); rintro e w10 ⟨rfl, hb⟩; refine ⟨_, rfl, ?_⟩; have n0_ := Aside0.mk (blk_below (g := g166) (o := .cells #[.int .i64 a0_0, .int .i64 a0_1, .int .i64 a0_2, .slice A0_3 l0_3.length c0_3] 26 (0, 0)) (by exact B166.out) hb); have n1_ := Aside0.mk (below_step (by repeat (first | (with_reducible first | exact HB.out | apply below_alloc | apply pw_below_drewN | apply below_drew1 | refine below_set ?_ GE166.out) | exact HB.out)) hb); clear B166; clear HB; have B166 := n0_; have HB := n1_; clear n0_ n1_; (try clear hb); (try clear hb2); (try clear hk); (try clear hi); have hcz11_0 : w10.cell? ⟨g166, 0, none⟩ = some (.int .i64 a0_0) := bq_ B166 0; have hcz11_1 : w10.cell? ⟨g166, 1, none⟩ = some (.int .i64 a0_1) := bq_ B166 1; have hcz11_2 : w10.cell? ⟨g166, 2, none⟩ = some (.int .i64 a0_2) := bq_ B166 2; have hcz11_3 : w10.cell? ⟨g166, 3, none⟩ = some (.slice A0_3 l0_3.length c0_3) := bq_ B166 3; have hfz11_0 := blk_frozen B166.out 0; have hfz11_1 := blk_frozen B166.out 1; have hfz11_2 := blk_frozen B166.out 2; have hfz11_3 := blk_frozen B166.out 3; have q12 : ((ji5) : Int) ≤ ((l0_3.length : Int) : Int) := of_decide_eq_true (by first | (with_reducible assumption) | assumption); obtain ⟨i012, hi012, _, hsz12, _⟩ := info_parts info22; have hroom12 : l0_3.length ≤ c0_3 := HC0_3.out; have hC12 : Kd.C (Kd.slice 36 k36) _ A0_3 l0_3.length l0_3 := HR0_3.out; have hcut12 := cut_to (P := Tryd.prog) 24 22 .i64 Tryd.underlying24 hi012 A0_3 l0_3.length c0_3 (ji5) (of_decide_eq_true (by first | (with_reducible assumption) | assumption)) q12 hroom12; have hr12 := Kd.C_take (m := ((ji5) : Int).toNat) hC12 (by omega); have hy12 : y168.length = ((ji5) : Int).toNat := (by rw [Ny168.out, List.length_take]; omega); rw [← Ny168.out] at hr12; rw [← hy12] at hcut12; have HR171 := Aside0.mk hr12; have HC171 := Aside0.mk (show y168.length ≤ c0_3 from by omega); clear hr12 hC12 hroom12 hi012 hsz12; have KY12 := Aside0.mk hy12; clear hy12; replace q12 := eq_true q12))
    go_loopg [1, 7, 24] k (fun kq v1 v7 v24 w' => ∃ (x1_1 : Int) (x7_1 : List (S36)) (x24_1 : Int), v1 = .int .i64 x1_1 ∧ v24 = .int .i64 x24_1 ∧ Aside0 (tree_Path.l0 kq x1_1 x7_1 y168 (y168.length : Int) x24_1 = some (r1, r2)) ∧ Aside0 (kq ≤ k) ∧ Aside0 (Kd.R k36 36 w' w.heap.size (fun _ => True) v7 x7_1) ∧ Aside0 (w'.heap[g166]? = some (.cells #[.int .i64 a0_0, .int .i64 a0_1, .int .i64 a0_2, (.slice A0_3 l0_3.length c0_3)] 26 (0, 0))) ∧ Aside0 (Below w.heap.size w w'))
    case atStart => exact ⟨(a1), (([] : List (S36))), (0), (by first | rfl | (simp; done) | (simp [*]; done) | (simp; rfl) | (simp; decide +kernel)), (by first | rfl | (simp; done) | (simp [*]; done) | (simp; rfl) | (simp; decide +kernel)), H', ⟨Nat.le_refl _⟩, ⟨by first | exact Kd.R_nil _ _ _ _ _ | exact Kd.N_nil _ _ _ _ _ | exact Kd.V_nil _ _ _ _ _ | exact Kd.Q_nil _ _ _ _ _ | exact Kd.S_nil _ _ _ _ _⟩, ⟨by exact B166.out⟩, ⟨by repeat (first | (with_reducible first | exact HB.out | apply below_alloc | apply pw_below_drewN | apply below_drew1 | refine below_set ?_ GE166.out) | exact HB.out)⟩⟩
    case round =>
     clear H'
     try clear q1
     try clear c2
     try clear p2
     try clear c4
     try clear c4b0
     try clear c4b1
     try clear c6
     try clear c6b0
     try clear c6b1
     try clear p6
     try clear c7
     try clear c7b0
     try clear c7b1
     try clear q12
     try clear hcz11_0
     try clear hcz11_1
     try clear hcz11_2
     try clear hcz11_3
     try clear hcz9_0
     try clear hcz9_1
     try clear hcz9_2
     try clear hcz9_3
     try clear hfz11_0
     try clear hfz11_1
     try clear hfz11_2
     try clear hfz11_3
     try clear hfz9_0
     try clear hfz9_1
     try clear hfz9_2
     try clear hfz9_3
     try clear q12
     obtain ⟨x1_1, x7_1, x24_1, rfl, rfl, HA, HK1, HO_7, B166, HB⟩ := hrel
     cases gk with
     | zero => exact absurd HA.out (by simp [tree_Path.l0])
     | succ k1 =>
      have H := HA.out
      clear HA
      simp only [tree_Path.l0] at H
      by_cases c13 : x24_1 < (y168.length : Int)
      ·rw [if_pos c13] at H
       have c13b0 : decide (x24_1 < (y168.length : Int)) = true := decide_eq_true c13
       clear c13
       by_cases c14 : 0 ≤ x24_1
       ·rw [if_pos c14] at H
        have c14b0 : decide (0 ≤ x24_1) = true := decide_eq_true c14
        clear c14
        by_cases c15 : x24_1 < (y168.length : Int)
        ·rw [if_pos c15] at H
         have c15b0 : decide (x24_1 < (y168.length : Int)) = true := decide_eq_true c15
         clear c15
         by_cases c16 : 0 ≤ (Go.bits .xor .i64 x1_1 1)
         ·rw [if_pos c16] at H
          have c16b0 : decide (0 ≤ (Go.bits .xor .i64 x1_1 1)) = true := decide_eq_true c16
          clear c16
          by_cases c17 : (Go.bits .xor .i64 x1_1 1) < ((rd_L3 y168 x24_1).length : Int)
          ·rw [if_pos c17] at H
           have c17b0 : decide ((Go.bits .xor .i64 x1_1 1) < ((rd_L3 y168 x24_1).length : Int)) = true := decide_eq_true c17
           clear c17
           by_cases c18 : x7_1.length < 8796093022208
           ·rw [if_pos c18] at H
            have LMc18 := Aside0.mk c18
            clear c18
            obtain ⟨y174, hy174⟩ : ∃ y_ : List (S36), y_ = (x7_1 ++ [(⟨(rd_T36 (rd_L3 y168 x24_1) (Go.bits .xor .i64 x1_1 1)).f0, (rd_T36 (rd_L3 y168 x24_1) (Go.bits .xor .i64 x1_1 1)).f1⟩ : S36)]) := ⟨_, rfl⟩
            replace H : (tree_Path.l0 k1 (x1_1 / 2) y174 y168 (y168.length : Int) (wrap64 (x24_1 + 1))) = some (r1, r2) := by first | (rw [hy174]; with_reducible exact H) | (have H2_ := (Option.bind_some _ _).symm.trans H; rw [hy174]; with_reducible exact H2_) | (have H2_ := (Option.bind_some _ _).symm.trans H; with_reducible exact H2_) | with_reducible exact H | (rw [hy174]; exact H) | exact H
            have Ny174 := Aside0.mk hy174
            clear hy174
            have H' := Aside0.mk H
            clear H
            have p172 : 0 ≤ (x24_1 : Int) := of_decide_eq_true (by first | (with_reducible assumption) | assumption)
            have q172 : x24_1 < (y168.length : Int) := of_decide_eq_true (by first | (with_reducible assumption) | assumption)
            obtain ⟨ad172, A172_0, c172_0, e172, hx172_0, hl172_0, hi172_0⟩ := at_L3 HR171.out x24_1 p172 q172
            cases e172
            replace hx172_0 := (HB.out.cell (World.block_lt_of_cell? w _ hx172_0)).trans hx172_0
            have HR172_0 := Aside0.mk hi172_0
            have HC172_0 := Aside0.mk hl172_0
            clear hi172_0 hl172_0
            replace p172 := eq_true p172
            replace q172 := eq_true q172
            have p173 : 0 ≤ ((Go.bits .xor .i64 x1_1 1) : Int) := of_decide_eq_true (by first | (with_reducible assumption) | assumption)
            have q173 : (Go.bits .xor .i64 x1_1 1) < ((rd_L3 y168 x24_1).length : Int) := of_decide_eq_true (by first | (with_reducible assumption) | assumption)
            obtain ⟨ad173, e173, hx173_0, hx173_1⟩ := at_T36 HR172_0.out (Go.bits .xor .i64 x1_1 1) p173 q173
            cases e173
            replace hx173_0 := (HB.out.cell (World.block_lt_of_cell? w _ hx173_0)).trans hx173_0
            replace hx173_1 := (HB.out.cell (World.block_lt_of_cell? w _ hx173_1)).trans hx173_1
            replace p173 := eq_true p173
            replace q173 := eq_true q173
            go_wp2_with (first | ((with_reducible refine gate_builtin (b := .append) (xs := #[.tmp 28, .tmp 34]) rfl ?_); at_builtin; refine Kd.R_append k36 (w0 := w) w.heap.size rfl (.tmp 28) (.tmp 34) 22 36 (.agg #[(.int .u64 0), (.int .u64 0)]) 16 rfl Tryd.underlying22 info36 rfl (by decide) (by omega) u7 x7_1 (⟨(rd_T36 (rd_L3 y168 x24_1) (Go.bits .xor .i64 x1_1 1)).f0, (rd_T36 (rd_L3 y168 x24_1) (Go.bits .xor .i64 x1_1 1)).f1⟩ : S36) [.int .u64 ((rd_T36 (rd_L3 y168 x24_1) (Go.bits .xor .i64 x1_1 1)).f0), .int .u64 ((rd_T36 (rd_L3 y168 x24_1) (Go.bits .xor .i64 x1_1 1)).f1)] (fun _ => True) (fun _ => False) rfl rfl ?aP (fun _ hk => hk.elim) ?aF ?aO ?aB ?aS ?aL ?_; (case aP => exact k36_mkM _ _ _ (⟨(rd_T36 (rd_L3 y168 x24_1) (Go.bits .xor .i64 x1_1 1)).f0, (rd_T36 (rd_L3 y168 x24_1) (Go.bits .xor .i64 x1_1 1)).f1⟩ : S36)); (case aB => exact (by repeat (first | (with_reducible first | exact HB.out | apply below_alloc | apply pw_below_drewN | apply below_drew1 | refine below_set ?_ GE166.out) | exact HB.out))); (case aF => exact (fun _ _ => trivial)); (case aO => exact (by (with_reducible repeat (first | apply Kd.R_alloc | apply Kd.R_drewN | apply Kd.R_drew)); exact HO_7.out)); (case aS => exact (below_size (by repeat (first | (with_reducible first | exact HB.out | apply below_alloc | apply pw_below_drewN | apply below_drew1 | refine below_set ?_ GE166.out) | exact HB.out)))); (case aL => have := LMc18.out; omega); intro v175 w19 ho hb hg hat; rw [← Ny174.out] at ho; have n0_ := Aside0.mk (blk_grown (g := g166) (o := .cells #[.int .i64 a0_0, .int .i64 a0_1, .int .i64 a0_2, .slice (some ad172) l0_3.length c0_3] 26 (0, 0)) (by exact B166.out) hg (Kd.R_ne HO_7.out B166.out (by decide))); have n1_ := Aside0.mk (hb); have n2_ := Aside0.mk (ho); clear B166; clear HB; clear HO_7; have B166 := n0_; have HB := n1_; have HO176 := n2_; clear n0_ n1_ n2_; clear ho hb hg hat))
            go_roundg k1
            case measure => have := HK1.out; omega
            case rel => exact ⟨(x1_1 / 2), (y174), (wrap64 (x24_1 + 1)), (by first | rfl | (simp; done) | (simp [*]; done) | (simp; rfl) | (simp; decide +kernel)), (by first | rfl | (simp; done) | (simp [*]; done) | (simp; rfl) | (simp; decide +kernel)), H', ⟨by have := HK1.out; omega⟩, ⟨by (with_reducible repeat (first | apply Kd.R_alloc | apply Kd.R_drewN | apply Kd.R_drew)); exact HO176.out⟩, ⟨by exact B166.out⟩, ⟨by repeat (first | (with_reducible first | exact HB.out | apply below_alloc | apply pw_below_drewN | apply below_drew1 | refine below_set ?_ GE166.out) | exact HB.out)⟩⟩
           ·rw [if_neg c18] at H
            exact absurd H (by simp)
          ·rw [if_neg c17] at H
           exact absurd H (by simp)
         ·rw [if_neg c16] at H
          exact absurd H (by simp)
        ·rw [if_neg c15] at H
         exact absurd H (by simp)
       ·rw [if_neg c14] at H
        exact absurd H (by simp)
      ·rw [if_neg c13] at H
       have c13b0 : decide (x24_1 < (y168.length : Int)) = false := decide_eq_false c13
       clear c13
       simp only [Option.some.injEq, Prod.mk.injEq] at H
       obtain ⟨rfl, rfl⟩ := H
       go_wp2
       go_ret2
       exact ⟨_, by first | rfl | (simp [errW_none, errW_some] <;> rfl) | (simp only [← hji5]; first | rfl | (simp [errW_none, errW_some] <;> rfl)) | (simp [*, errW_none, errW_some] <;> rfl), by (with_reducible repeat (first | apply Kd.R_alloc | apply Kd.R_drewN | apply Kd.R_drew)); exact HO_7.out, by repeat (first | (with_reducible first | exact HB.out | apply below_alloc | apply pw_below_drewN | apply below_drew1 | refine below_set ?_ GE166.out) | exact HB.out)⟩
   ·rw [if_neg c7] at H
    exact absurd H (by simp)
  ·rw [if_neg c6] at H
   exact absurd H (by simp)
 ·rw [if_neg c4] at H
  have c4b0 : (t167 == 0) = false := beq_eq_false_iff_ne.mpr c4
  have c4b1 : (t167 != 0) = true := bne_iff_ne.mpr c4
  simp only [Option.some.injEq, Prod.mk.injEq] at H
  obtain ⟨rfl, rfl⟩ := H
  go_enter Tryd.func23, Tryd.ntmps23
  go_wp2_with (first | ((with_reducible refine gate_dst (N := 2) rfl ?_); refine box_event ?hg (N := 2) ?hd (cs := #[.int .i64 a0_0, .int .i64 a0_1, .int .i64 a0_2, .slice A0_3 l0_3.length c0_3]) (t := 26) ?hr ?_; (case hd => rfl); (case hg => rfl); (case hr => first | (go_simp; done) | (go_simp; rfl)); intro g166 hg w20 hbox hb; have n0_ := Aside0.mk (below_step (by repeat (first | (with_reducible first | exact HB.out | apply below_alloc | apply pw_below_drewN | apply below_drew1) | exact HB.out)) hb); have n1_ := Aside0.mk (hbox); have n2_ := Aside0.mk ((by rw [hg]; exact (below_size (by repeat (first | (with_reducible first | exact HB.out | apply below_alloc | apply pw_below_drewN | apply below_drew1) | exact HB.out))) : w.heap.size ≤ g166)); have n3_ := Aside0.mk ((by rw [hg]; exact (below_size (by repeat (first | (with_reducible first | exact HB.out | apply below_alloc | apply pw_below_drewN | apply below_drew1) | exact HB.out))) : w.heap.size ≤ g166)); clear HB; have HB := n0_; have B166 := n1_; have GW166 := n2_; have GE166 := n3_; clear n0_ n1_ n2_ n3_; clear hb hbox hg; have hcz21_0 : w20.cell? ⟨g166, 0, none⟩ = some (.int .i64 a0_0) := bq_ B166 0; have hcz21_1 : w20.cell? ⟨g166, 1, none⟩ = some (.int .i64 a0_1) := bq_ B166 1; have hcz21_2 : w20.cell? ⟨g166, 2, none⟩ = some (.int .i64 a0_2) := bq_ B166 2; have hcz21_3 : w20.cell? ⟨g166, 3, none⟩ = some (.slice A0_3 l0_3.length c0_3) := bq_ B166 3; have hfz21_0 := blk_frozen B166.out 0; have hfz21_1 := blk_frozen B166.out 1; have hfz21_2 := blk_frozen B166.out 2; have hfz21_3 := blk_frozen B166.out 3) | ((with_reducible refine gate_callee (f := 46) rfl ?_); refine goesL_ (some 12) rfl rfl Tryd.func46 (by kernel_rfl) rfl #[.agg #[.int .i64 a0_0, .int .i64 a0_1, .int .i64 a0_2, .slice A0_3 l0_3.length c0_3], .int .i64 a1] rfl (by (try simp only [List.map_toArray, List.map_cons, List.map_nil]); first | done | rfl | (go_simp; done)) ?_; (with_reducible refine (tree_place.calls k a0_0 a0_1 a0_2 _ _ l0_3 a1 t167 _ ?side1 ?side2 ?side3 A3.out).mono ?_); (case side1 => repeat (first | exact (Kd.C_below HR0_3.out HB.out) | (with_reducible refine Kd.C_alloc ?_ _) | (with_reducible refine Kd.C_drewN ?_ _) | (with_reducible refine Kd.C_drew ?_))); (case side2 => exact HC0_3.out); (case side3 => repeat (first | exact (GL.below HRG.out HB.out) | (with_reducible refine GL.alloc ?_ _) | (with_reducible refine GL.drewN ?_ _) | (with_reducible refine GL.drew ?_))); rintro e w22 ⟨rfl, hb⟩; refine ⟨_, rfl, ?_⟩; have n0_ := Aside0.mk (blk_below (g := g166) (o := .cells #[.int .i64 a0_0, .int .i64 a0_1, .int .i64 a0_2, .slice A0_3 l0_3.length c0_3] 26 (0, 0)) (by exact B166.out) hb); have n1_ := Aside0.mk (below_step (by repeat (first | (with_reducible first | exact HB.out | apply below_alloc | apply pw_below_drewN | apply below_drew1 | refine below_set ?_ GE166.out) | exact HB.out)) hb); clear B166; clear HB; have B166 := n0_; have HB := n1_; clear n0_ n1_; (try clear hb); (try clear hb2); (try clear hk); (try clear hi)))
  go_ret2
  exact ⟨_, by first | rfl | (simp [errW_none, errW_some] <;> rfl) | (simp [*, errW_none, errW_some] <;> rfl), by first | exact Kd.R_nil _ _ _ _ _ | exact Kd.N_nil _ _ _ _ _ | exact Kd.V_nil _ _ _ _ _ | exact Kd.Q_nil _ _ _ _ _ | exact Kd.S_nil _ _ _ _ _, by repeat (first | (with_reducible first | exact HB.out | apply below_alloc | apply pw_below_drewN | apply below_drew1 | refine below_set ?_ GE166.out) | exact HB.out)⟩

end Go.Proofs.YtpnpmeogffodgaaDoor.Q
end
section
namespace Go.Proofs.YtpnpmeogffodgaaDoor.Q
open Go.RowKit Go.Proofs.YtpnpmeogffodgaaDoorW.PrintWords Go.Proofs.YtpnpmeogffodgaaDoorW.PrintLast Go.Proofs.YtpnpmeogffodgaaDoorW.PrintMore
attribute [local go_sem] max2_int min2_int max_two min_two max_three min_three max_four min_four run_store_fnV run_store_fnc run_store_nfn   -- for this text's walks alone
set_option linter.unusedVariables false
set_option linter.unusedSimpArgs false

/-! ### tree_opens: function 47 -/
def tree_opens.f (a0 : Int) (a1 : Int) (a2_0 : Int) (a2_1 : Int) (l3 : List (S36)) : Option (Bool) := (field_Valid.f a0).bind fun t178 => (if t178 = true then (if a1 ≥ 0 then (if (l3.length : Int) ≤ 18 then ((tree_proper.f a0 (([(⟨a2_0, a2_1⟩ : S36)] : List (S36)))).bind fun t182 => (if t182 = true then ((tree_proper.f a0 l3).bind fun t183 => (some t183)) else (some false))) else (some false)) else (some false)) else (some false))
set_option maxHeartbeats 8000000 in
set_option maxRecDepth 100000 in
theorem tree_opens.calls (a0 : Int) (a1 : Int) (a2_0 : Int) (a2_1 : Int) (A3 : Option Addr) (c3 : Nat) (l3 : List (S36)) (r : Bool) (w : World) (hr3 : Kd.C k36 w A3 l3.length l3) (hc3 : l3.length ≤ c3) (hrG : GL w) (h : tree_opens.f a0 a1 a2_0 a2_1 l3 = some r) :
  Calls Tryd.prog 47 #[.int .i64 a0, .int .i64 a1, .agg #[.int .u64 a2_0, .int .u64 a2_1], .slice A3 l3.length c3] w fun e w' => e = .returned (.bool r) ∧ Below w.heap.size w w' := by
 have hu36 := Tryd.underlying36
 have HRG := Aside0.mk hrG
 clear hrG
 have HR3 := Aside0.mk hr3
 have HC3 := Aside0.mk hc3
 clear hr3 hc3
 have HB := Aside0.mk (Below.refl w.heap.size w)
 have H : ((field_Valid.f a0).bind fun t178 => (if t178 = true then (if a1 ≥ 0 then (if (l3.length : Int) ≤ 18 then ((tree_proper.f a0 (([(⟨a2_0, a2_1⟩ : S36)] : List (S36)))).bind fun t182 => (if t182 = true then ((tree_proper.f a0 l3).bind fun t183 => (some t183)) else (some false))) else (some false)) else (some false)) else (some false))) = some r := h
 clear h
 replace H := Option.bind_eq_some_iff.mp H
 obtain ⟨t178, A50, H⟩ := H
 have A5 := Aside0.mk A50
 clear A50
 by_cases c6 : t178 = true
 ·subst c6
  have H1 : (if a1 ≥ 0 then (if (l3.length : Int) ≤ 18 then ((tree_proper.f a0 (([(⟨a2_0, a2_1⟩ : S36)] : List (S36)))).bind fun t182 => (if t182 = true then ((tree_proper.f a0 l3).bind fun t183 => (some t183)) else (some false))) else (some false)) else (some false)) = some r := by rw [if_pos rfl] at H; exact H
  clear H
  have H := H1
  clear H1
  by_cases c7 : a1 ≥ 0
  ·rw [if_pos c7] at H
   have c7b0 : decide (0 ≤ a1) = true := decide_eq_true c7
   clear c7
   by_cases c8 : (l3.length : Int) ≤ 18
   ·rw [if_pos c8] at H
    have c8b0 : decide ((l3.length : Int) ≤ 18) = true := decide_eq_true c8
    have c8b1 : decide (l3.length ≤ 18) = true := decide_eq_true (by omega)
    clear c8
    obtain ⟨y179, hy179⟩ : ∃ y_ : List (S36), y_ = (([(⟨a2_0, a2_1⟩ : S36)] : List (S36))) := ⟨_, rfl⟩
    replace H : ((tree_proper.f a0 y179).bind fun t182 => (if t182 = true then ((tree_proper.f a0 l3).bind fun t183 => (some t183)) else (some false))) = some r := by first | (rw [hy179]; with_reducible exact H) | (have H2_ := (Option.bind_some _ _).symm.trans H; rw [hy179]; with_reducible exact H2_) | (have H2_ := (Option.bind_some _ _).symm.trans H; with_reducible exact H2_) | with_reducible exact H | (rw [hy179]; exact H) | exact H
    have Ny179 := Aside0.mk hy179
    clear hy179
    replace H := Option.bind_eq_some_iff.mp H
    obtain ⟨t182, A90, H⟩ := H
    have A9 := Aside0.mk A90
    clear A90
    by_cases c10 : t182 = true
    ·subst c10
     have H1 : ((tree_proper.f a0 l3).bind fun t183 => (some t183)) = some r := by rw [if_pos rfl] at H; exact H
     clear H
     have H := H1
     clear H1
     replace H := Option.bind_eq_some_iff.mp H
     obtain ⟨t183, A110, H⟩ := H
     have A11 := Aside0.mk A110
     clear A110
     obtain rfl := Option.some.inj H
     go_enter Tryd.func47, Tryd.ntmps47
     go_wp2_with (first | ((with_reducible refine gate_dst (N := 6) rfl ?_); (try (refine gate_guard (by rfl) ?_; dsimp only)); refine box_event ?hg (N := 6) ?hd (cs := #[.int .u64 a2_0, .int .u64 a2_1]) (t := 36) ?hr ?_; (case hd => rfl); (case hg => rfl); (case hr => first | (go_simp; done) | (go_simp; rfl)); intro g177 hg w12 hbox hb; have n0_ := Aside0.mk (below_step (by repeat (first | (with_reducible first | exact HB.out | apply below_alloc | apply pw_below_drewN | apply below_drew1) | exact HB.out)) hb); have n1_ := Aside0.mk (hbox); have n2_ := Aside0.mk ((by rw [hg]; exact (below_size (by repeat (first | (with_reducible first | exact HB.out | apply below_alloc | apply pw_below_drewN | apply below_drew1) | exact HB.out))) : w.heap.size ≤ g177)); have n3_ := Aside0.mk ((by rw [hg]; exact (below_size (by repeat (first | (with_reducible first | exact HB.out | apply below_alloc | apply pw_below_drewN | apply below_drew1) | exact HB.out))) : w.heap.size ≤ g177)); clear HB; have HB := n0_; have B177 := n1_; have GW177 := n2_; have GE177 := n3_; clear n0_ n1_ n2_ n3_; clear hb hbox hg) | ((with_reducible refine gate_callee (f := 38) rfl ?_); refine goesL_ (some 10) rfl rfl Tryd.func38 (by kernel_rfl) rfl #[.int .i64 a0] rfl (by (try simp only [List.map_toArray, List.map_cons, List.map_nil]); first | done | rfl | (go_simp; done)) ?_; (with_reducible refine (field_Valid.calls a0 true _ A5.out).mono ?_); rintro e w' ⟨rfl, ⟨nd, rfl⟩⟩; refine ⟨_, rfl, ?_⟩; have hcz13_0 : w12.cell? ⟨g177, 0, none⟩ = some (.int .u64 a2_0) := bq_ B177 0; have hcz13_1 : w12.cell? ⟨g177, 1, none⟩ = some (.int .u64 a2_1) := bq_ B177 1; have hfz13_0 := blk_frozen B177.out 0; have hfz13_1 := blk_frozen B177.out 1) | ((with_reducible refine gate_dst (N := 23) rfl ?_); (try (refine gate_guard (by rfl) ?_; dsimp only)); refine Kd.R_lit k36 _ 36 ?hg (N := 23) ?hd (xs := ([(⟨a2_0, a2_1⟩ : S36)] : List (S36))) (inner := [.int .u64 a2_0, .int .u64 a2_1]) (ok := fun _ => True) (okp := fun _ => True) ?hr ?hp (fun _ hk => hk) trivial (Below.refl _ _) (Nat.le_refl _) (by simp) ?_; (case hd => rfl); (case hg => rfl); (case hr => first | (go_simp; done) | (go_simp; rfl)); (case hp => exact (Reps.c2 (show Kd.M k36 _ _ _ (⟨a2_0, a2_1⟩ : S36) [.int .u64 a2_0, .int .u64 a2_1] from (k36_mkM _ _ _ (⟨a2_0, a2_1⟩ : S36) )) (Reps.none _ _))); intro v180 w14 ho15 hb hg_ hnew_; clear hg_ hnew_; (first | rw [← Ny179.out] at ho15 | (simp only [Int.reduceToNat] at ho15; rw [← Ny179.out] at ho15)); have n0_ := Aside0.mk (Kd.R_lower (Kd.R_newB ho15 (g := g177) (o := .cells #[.int .u64 a2_0, .int .u64 a2_1] 36 (0, 0)) (by exact B177.out)) (below_size (by repeat (first | (with_reducible first | exact HB.out | apply below_alloc | apply pw_below_drewN | apply below_drew1 | refine below_set ?_ GE177.out) | exact HB.out)))); have n1_ := Aside0.mk (blk_below (g := g177) (o := .cells #[.int .u64 a2_0, .int .u64 a2_1] 36 (0, 0)) (by exact B177.out) hb); have n2_ := Aside0.mk (below_step (by repeat (first | (with_reducible first | exact HB.out | apply below_alloc | apply pw_below_drewN | apply below_drew1 | refine below_set ?_ GE177.out) | exact HB.out)) hb); clear B177; clear HB; have HO181 := n0_; have B177 := n1_; have HB := n2_; clear n0_ n1_ n2_; clear hb ho15; obtain ⟨Ao16, co16, eo16⟩ := Kd.R_slice HO181.out; subst eo16) | (go_at_call 39; (with_reducible refine (tree_proper.calls a0 _ _ y179 true _ ?side1 ?side2 ?side3 A9.out).mono ?_); (case side1 => repeat (first | exact (Kd.R_reads' HO181.out).2.2 | (with_reducible refine Kd.C_alloc ?_ _) | (with_reducible refine Kd.C_drewN ?_ _) | (with_reducible refine Kd.C_drew ?_))); (case side2 => exact (Kd.R_reads' HO181.out).2.1); (case side3 => repeat (first | exact (GL.below HRG.out HB.out) | (with_reducible refine GL.alloc ?_ _) | (with_reducible refine GL.drewN ?_ _) | (with_reducible refine GL.drew ?_))); rintro e w17 ⟨rfl, hb⟩; have n0_ := Aside0.mk (Kd.R_below (by (with_reducible repeat (first | apply Kd.R_alloc | apply Kd.R_drewN | apply Kd.R_drew)); exact HO181.out) hb); have n1_ := Aside0.mk (blk_below (g := g177) (o := .cells #[.int .u64 a2_0, .int .u64 a2_1] 36 (0, 0)) (by exact B177.out) hb); have n2_ := Aside0.mk (below_step (by repeat (first | (with_reducible first | exact HB.out | apply below_alloc | apply pw_below_drewN | apply below_drew1 | refine below_set ?_ GE177.out) | exact HB.out)) hb); clear HO181; clear B177; clear HB; have HO181 := n0_; have B177 := n1_; have HB := n2_; clear n0_ n1_ n2_; (try clear hb); (try clear hb2); (try clear hk); (try clear hi)) | (go_at_call 39; (with_reducible refine (tree_proper.calls a0 _ _ l3 t183 _ ?side1 ?side2 ?side3 A11.out).mono ?_); (case side1 => repeat (first | exact (Kd.C_below HR3.out HB.out) | (with_reducible refine Kd.C_alloc ?_ _) | (with_reducible refine Kd.C_drewN ?_ _) | (with_reducible refine Kd.C_drew ?_))); (case side2 => exact HC3.out); (case side3 => repeat (first | exact (GL.below HRG.out HB.out) | (with_reducible refine GL.alloc ?_ _) | (with_reducible refine GL.drewN ?_ _) | (with_reducible refine GL.drew ?_))); rintro e w18 ⟨rfl, hb⟩; have n0_ := Aside0.mk (Kd.R_below (by (with_reducible repeat (first | apply Kd.R_alloc | apply Kd.R_drewN | apply Kd.R_drew)); exact HO181.out) hb); have n1_ := Aside0.mk (blk_below (g := g177) (o := .cells #[.int .u64 a2_0, .int .u64 a2_1] 36 (0, 0)) (by exact B177.out) hb); have n2_ := Aside0.mk (below_step (by repeat (first | (with_reducible first | exact HB.out | apply below_alloc | apply pw_below_drewN | apply below_drew1 | refine below_set ?_ GE177.out) | exact HB.out)) hb); clear HO181; clear B177; clear HB; have HO181 := n0_; have B177 := n1_; have HB := n2_; clear n0_ n1_ n2_; (try clear hb); (try clear hb2); (try clear hk); (try clear hi)))
     go_ret
     exact ⟨by first | rfl | (simp [errW_none, errW_some] <;> rfl) | (simp [*, errW_none, errW_some] <;> rfl), by repeat (first | (with_reducible first | exact HB.out | apply below_alloc | apply pw_below_drewN | apply below_drew1 | refine below_set ?_ GE177.out) | exact HB.out)⟩
    ·replace c10 := Bool.eq_false_iff.mpr c10
     subst c10
     have H1 : (some false) = some r := by rw [if_neg (show ¬ (false = true) by decide)] at H; exact H
     clear H
     have H := H1
     clear H1
     obtain rfl := Option.some.inj H
     go_enter Tryd.func47, Tryd.ntmps47
     go_wp2_with (first | ((with_reducible refine gate_dst (N := 6) rfl ?_); (try (refine gate_guard (by rfl) ?_; dsimp only)); refine box_event ?hg (N := 6) ?hd (cs := #[.int .u64 a2_0, .int .u64 a2_1]) (t := 36) ?hr ?_; (case hd => rfl); (case hg => rfl); (case hr => first | (go_simp; done) | (go_simp; rfl)); intro g177 hg w19 hbox hb; have n0_ := Aside0.mk (below_step (by repeat (first | (with_reducible first | exact HB.out | apply below_alloc | apply pw_below_drewN | apply below_drew1) | exact HB.out)) hb); have n1_ := Aside0.mk (hbox); have n2_ := Aside0.mk ((by rw [hg]; exact (below_size (by repeat (first | (with_reducible first | exact HB.out | apply below_alloc | apply pw_below_drewN | apply below_drew1) | exact HB.out))) : w.heap.size ≤ g177)); have n3_ := Aside0.mk ((by rw [hg]; exact (below_size (by repeat (first | (with_reducible first | exact HB.out | apply below_alloc | apply pw_below_drewN | apply below_drew1) | exact HB.out))) : w.heap.size ≤ g177)); clear HB; have HB := n0_; have B177 := n1_; have GW177 := n2_; have GE177 := n3_; clear n0_ n1_ n2_ n3_; clear hb hbox hg) | ((with_reducible refine gate_callee (f := 38) rfl ?_); refine goesL_ (some 10) rfl rfl Tryd.func38 (by kernel_rfl) rfl #[.int .i64 a0] rfl (by (try simp only [List.map_toArray, List.map_cons, List.map_nil]); first | done | rfl | (go_simp; done)) ?_; (with_reducible refine (field_Valid.calls a0 true _ A5.out).mono ?_); rintro e w' ⟨rfl, ⟨nd, rfl⟩⟩; refine ⟨_, rfl, ?_⟩; have hcz20_0 : w19.cell? ⟨g177, 0, none⟩ = some (.int .u64 a2_0) := bq_ B177 0; have hcz20_1 : w19.cell? ⟨g177, 1, none⟩ = some (.int .u64 a2_1) := bq_ B177 1; have hfz20_0 := blk_frozen B177.out 0; have hfz20_1 := blk_frozen B177.out 1) | ((with_reducible refine gate_dst (N := 23) rfl ?_); (try (refine gate_guard (by rfl) ?_; dsimp only)); refine Kd.R_lit k36 _ 36 ?hg (N := 23) ?hd (xs := ([(⟨a2_0, a2_1⟩ : S36)] : List (S36))) (inner := [.int .u64 a2_0, .int .u64 a2_1]) (ok := fun _ => True) (okp := fun _ => True) ?hr ?hp (fun _ hk => hk) trivial (Below.refl _ _) (Nat.le_refl _) (by simp) ?_; (case hd => rfl); (case hg => rfl); (case hr => first | (go_simp; done) | (go_simp; rfl)); (case hp => exact (Reps.c2 (show Kd.M k36 _ _ _ (⟨a2_0, a2_1⟩ : S36) [.int .u64 a2_0, .int .u64 a2_1] from (k36_mkM _ _ _ (⟨a2_0, a2_1⟩ : S36) )) (Reps.none _ _))); intro v180 w21 ho22 hb hg_ hnew_; clear hg_ hnew_; (first | rw [← Ny179.out] at ho22 | (simp only [Int.reduceToNat] at ho22; rw [← Ny179.out] at ho22)); have n0_ := Aside0.mk (Kd.R_lower (Kd.R_newB ho22 (g := g177) (o := .cells #[.int .u64 a2_0, .int .u64 a2_1] 36 (0, 0)) (by exact B177.out)) (below_size (by repeat (first | (with_reducible first | exact HB.out | apply below_alloc | apply pw_below_drewN | apply below_drew1 | refine below_set ?_ GE177.out) | exact HB.out)))); have n1_ := Aside0.mk (blk_below (g := g177) (o := .cells #[.int .u64 a2_0, .int .u64 a2_1] 36 (0, 0)) (by exact B177.out) hb); have n2_ := Aside0.mk (below_step (by repeat (first | (with_reducible first | exact HB.out | apply below_alloc | apply pw_below_drewN | apply below_drew1 | refine below_set ?_ GE177.out) | exact HB.out)) hb); clear B177; clear HB; have HO181 := n0_; have B177 := n1_; have HB := n2_; clear n0_ n1_ n2_; clear hb ho22; obtain ⟨Ao23, co23, eo23⟩ := Kd.R_slice HO181.out; subst eo23) | (go_at_call 39; (with_reducible refine (tree_proper.calls a0 _ _ y179 false _ ?side1 ?side2 ?side3 A9.out).mono ?_); (case side1 => repeat (first | exact (Kd.R_reads' HO181.out).2.2 | (with_reducible refine Kd.C_alloc ?_ _) | (with_reducible refine Kd.C_drewN ?_ _) | (with_reducible refine Kd.C_drew ?_))); (case side2 => exact (Kd.R_reads' HO181.out).2.1); (case side3 => repeat (first | exact (GL.below HRG.out HB.out) | (with_reducible refine GL.alloc ?_ _) | (with_reducible refine GL.drewN ?_ _) | (with_reducible refine GL.drew ?_))); rintro e w24 ⟨rfl, hb⟩; have n0_ := Aside0.mk (Kd.R_below (by (with_reducible repeat (first | apply Kd.R_alloc | apply Kd.R_drewN | apply Kd.R_drew)); exact HO181.out) hb); have n1_ := Aside0.mk (blk_below (g := g177) (o := .cells #[.int .u64 a2_0, .int .u64 a2_1] 36 (0, 0)) (by exact B177.out) hb); have n2_ := Aside0.mk (below_step (by repeat (first | (with_reducible first | exact HB.out | apply below_alloc | apply pw_below_drewN | apply below_drew1 | refine below_set ?_ GE177.out) | exact HB.out)) hb); clear HO181; clear B177; clear HB; have HO181 := n0_; have B177 := n1_; have HB := n2_; clear n0_ n1_ n2_; (try clear hb); (try clear hb2); (try clear hk); (try clear hi)))
     go_ret
     exact ⟨by first | rfl | (simp [errW_none, errW_some] <;> rfl) | (simp [*, errW_none, errW_some] <;> rfl), by repeat (first | (with_reducible first | exact HB.out | apply below_alloc | apply pw_below_drewN | apply below_drew1 | refine below_set ?_ GE177.out) | exact HB.out)⟩
   ·rw [if_neg c8] at H
    have c8b0 : decide ((l3.length : Int) ≤ 18) = false := decide_eq_false c8
    have c8b1 : decide (l3.length ≤ 18) = false := decide_eq_false (by omega)
    clear c8
    obtain rfl := Option.some.inj H
    go_enter Tryd.func47, Tryd.ntmps47
    go_wp2_with (first | ((with_reducible refine gate_dst (N := 6) rfl ?_); (try (refine gate_guard (by rfl) ?_; dsimp only)); refine box_event ?hg (N := 6) ?hd (cs := #[.int .u64 a2_0, .int .u64 a2_1]) (t := 36) ?hr ?_; (case hd => rfl); (case hg => rfl); (case hr => first | (go_simp; done) | (go_simp; rfl)); intro g177 hg w25 hbox hb; have n0_ := Aside0.mk (below_step (by repeat (first | (with_reducible first | exact HB.out | apply below_alloc | apply pw_below_drewN | apply below_drew1) | exact HB.out)) hb); have n1_ := Aside0.mk (hbox); have n2_ := Aside0.mk ((by rw [hg]; exact (below_size (by repeat (first | (with_reducible first | exact HB.out | apply below_alloc | apply pw_below_drewN | apply below_drew1) | exact HB.out))) : w.heap.size ≤ g177)); have n3_ := Aside0.mk ((by rw [hg]; exact (below_size (by repeat (first | (with_reducible first | exact HB.out | apply below_alloc | apply pw_below_drewN | apply below_drew1) | exact HB.out))) : w.heap.size ≤ g177)); clear HB; have HB := n0_; have B177 := n1_; have GW177 := n2_; have GE177 := n3_; clear n0_ n1_ n2_ n3_; clear hb hbox hg) | ((with_reducible refine gate_callee (f := 38) rfl ?_); refine goesL_ (some 10) rfl rfl Tryd.func38 (by kernel_rfl) rfl #[.int .i64 a0] rfl (by (try simp only [List.map_toArray, List.map_cons, List.map_nil]); first | done | rfl | (go_simp; done)) ?_; (with_reducible refine (field_Valid.calls a0 true _ A5.out).mono ?_); rintro e w' ⟨rfl, ⟨nd, rfl⟩⟩; refine ⟨_, rfl, ?_⟩))
    go_ret
    exact ⟨by first | rfl | (simp [errW_none, errW_some] <;> rfl) | (simp [*, errW_none, errW_some] <;> rfl), by repeat (first | (with_reducible first | exact HB.out | apply below_alloc | apply pw_below_drewN | apply below_drew1 | refine below_set ?_ GE177.out) | exact HB.out)⟩
  ·rw [if_neg c7] at H
   have c7b0 : decide (0 ≤ a1) = false := decide_eq_false c7
   clear c7
   obtain rfl := Option.some.inj H
   go_enter Tryd.func47, Tryd.ntmps47
   go_wp2_with (first | ((with_reducible refine gate_dst (N := 6) rfl ?_); (try (refine gate_guard (by rfl) ?_; dsimp only)); refine box_event ?hg (N := 6) ?hd (cs := #[.int .u64 a2_0, .int .u64 a2_1]) (t := 36) ?hr ?_; (case hd => rfl); (case hg => rfl); (case hr => first | (go_simp; done) | (go_simp; rfl)); intro g177 hg w26 hbox hb; have n0_ := Aside0.mk (below_step (by repeat (first | (with_reducible first | exact HB.out | apply below_alloc | apply pw_below_drewN | apply below_drew1) | exact HB.out)) hb); have n1_ := Aside0.mk (hbox); have n2_ := Aside0.mk ((by rw [hg]; exact (below_size (by repeat (first | (with_reducible first | exact HB.out | apply below_alloc | apply pw_below_drewN | apply below_drew1) | exact HB.out))) : w.heap.size ≤ g177)); have n3_ := Aside0.mk ((by rw [hg]; exact (below_size (by repeat (first | (with_reducible first | exact HB.out | apply below_alloc | apply pw_below_drewN | apply below_drew1) | exact HB.out))) : w.heap.size ≤ g177)); clear HB; have HB := n0_; have B177 := n1_; have GW177 := n2_; have GE177 := n3_; clear n0_ n1_ n2_ n3_; clear hb hbox hg) | ((with_reducible refine gate_callee (f := 38) rfl ?_); refine goesL_ (some 10) rfl rfl Tryd.func38 (by kernel_rfl) rfl #[.int .i64 a0] rfl (by (try simp only [List.map_toArray, List.map_cons, List.map_nil]); first | done | rfl | (go_simp; done)) ?_; (with_reducible refine (field_Valid.calls a0 true _ A5.out).mono ?_); rintro e w' ⟨rfl, ⟨nd, rfl⟩⟩; refine ⟨_, rfl, ?_⟩))
   go_ret
   exact ⟨by first | rfl | (simp [errW_none, errW_some] <;> rfl) | (simp [*, errW_none, errW_some] <;> rfl), by repeat (first | (with_reducible first | exact HB.out | apply below_alloc | apply pw_below_drewN | apply below_drew1 | refine below_set ?_ GE177.out) | exact HB.out)⟩
 ·replace c6 := Bool.eq_false_iff.mpr c6
  subst c6
  have H1 : (some false) = some r := by rw [if_neg (show ¬ (false = true) by decide)] at H; exact H
  clear H
  have H := H1
  clear H1
  obtain rfl := Option.some.inj H
  go_enter Tryd.func47, Tryd.ntmps47
  go_wp2_with (first | ((with_reducible refine gate_dst (N := 6) rfl ?_); (try (refine gate_guard (by rfl) ?_; dsimp only)); refine box_event ?hg (N := 6) ?hd (cs := #[.int .u64 a2_0, .int .u64 a2_1]) (t := 36) ?hr ?_; (case hd => rfl); (case hg => rfl); (case hr => first | (go_simp; done) | (go_simp; rfl)); intro g177 hg w27 hbox hb; have n0_ := Aside0.mk (below_step (by repeat (first | (with_reducible first | exact HB.out | apply below_alloc | apply pw_below_drewN | apply below_drew1) | exact HB.out)) hb); have n1_ := Aside0.mk (hbox); have n2_ := Aside0.mk ((by rw [hg]; exact (below_size (by repeat (first | (with_reducible first | exact HB.out | apply below_alloc | apply pw_below_drewN | apply below_drew1) | exact HB.out))) : w.heap.size ≤ g177)); have n3_ := Aside0.mk ((by rw [hg]; exact (below_size (by repeat (first | (with_reducible first | exact HB.out | apply below_alloc | apply pw_below_drewN | apply below_drew1) | exact HB.out))) : w.heap.size ≤ g177)); clear HB; have HB := n0_; have B177 := n1_; have GW177 := n2_; have GE177 := n3_; clear n0_ n1_ n2_ n3_; clear hb hbox hg) | ((with_reducible refine gate_callee (f := 38) rfl ?_); refine goesL_ (some 10) rfl rfl Tryd.func38 (by kernel_rfl) rfl #[.int .i64 a0] rfl (by (try simp only [List.map_toArray, List.map_cons, List.map_nil]); first | done | rfl | (go_simp; done)) ?_; (with_reducible refine (field_Valid.calls a0 false _ A5.out).mono ?_); rintro e w' ⟨rfl, ⟨nd, rfl⟩⟩; refine ⟨_, rfl, ?_⟩))
  go_ret
  exact ⟨by first | rfl | (simp [errW_none, errW_some] <;> rfl) | (simp [*, errW_none, errW_some] <;> rfl), by repeat (first | (with_reducible first | exact HB.out | apply below_alloc | apply pw_below_drewN | apply below_drew1 | refine below_set ?_ GE177.out) | exact HB.out)⟩

-- NOT PRINTED: function 64 (tree_climber_1)

-- NOT PRINTED: function 51 (tree_climber)

end Go.Proofs.YtpnpmeogffodgaaDoor.Q
end
