/- Several texts in one, in build order. What they prove, each by its own first remark:
isa.Reach by hand (its closure calls itself through a captured variable): what it computes, and its contract.
Written by our own copy of a printing program (a twelfth state) out of the translation. Not trusted: Lean checks it.
Of PReach what this claim needs.
Of PVals what this claim needs.
For all arguments attestorlaw26.IsaValids returns true and leaves them as they were, where the variable 'uses' holds what the program's text lays (the card ties that): no other condition. -/
import Derived.Test.YtamjeglenbokfaaDoorM2
import Derived.Test.YtamjeglenbokfaaDoorM4
import Derived.Test.YtamjeglenbokfaaDoorM3
import Derived.Test.YtamjeglenbokfaaDoorCards
import Derived.Test.YtamjeglenbokfaaDoorTie
import Derived.SevenTiedAt
import Derived.SizedLaws
import Derived.ShutString
import Derived.ChangeOld
import Derived.ProofKit
import Derived.Below
import Derived.OpenShut
section
namespace Go.Proofs.YtamjeglenbokfaaDoor.Q
open Go.RowKit Go.Proofs.YtamjeglenbokfaaDoorW.PrintWords Go.Proofs.YtamjeglenbokfaaDoorW.PrintLast Go.Proofs.YtamjeglenbokfaaDoorW.PrintMore
theorem run_store_clo (P : Program) (w : World) (a : Addr) (m : Mode) (fn : Fn) (first captured : Array Value) : (store a (.func fn first captured) m).run P w = stored P w a (.func fn first captured) m := run_store P w a _ m rfl
attribute [local go_sem] run_store_clo max2_int min2_int max_two min_two max_three min_three max_four min_four
set_option linter.unusedVariables false
set_option linter.unusedSimpArgs false
mutual
def isa_Reach.v : Nat → List S37 → List Bool → Int → Option (List Bool)
  | 0, _, _, _ => none
  | k + 1, l, s, x => if 0 ≤ x then (if x < (s.length : Int) then (if rdOf false s x = true then some s else ((isa_after.f k l x).bind fun ts => isa_Reach.lp k l ts 0 (s.set x.toNat true))) else none) else none
def isa_Reach.lp : Nat → List S37 → List Int → Int → List Bool → Option (List Bool)
  | 0, _, _, _, _ => none
  | k + 1, l, ts, i, s => if i < (ts.length : Int) then (if 0 ≤ i then ((isa_Reach.v k l s (rd ts i)).bind fun s' => isa_Reach.lp k l ts (wrap64 (i + 1)) s') else none) else some s
end
def isa_Reach.f (k : Nat) (l : List S37) : Option (List Bool) := (isa_Valid.f k l).bind fun e => (if e = 0 then (if 0 ≤ wrap64 ((l.length : Int) + 1) then (if (wrap64 ((l.length : Int) + 1)).toNat ≤ 281474976710656 then isa_Reach.v k l (List.replicate (wrap64 ((l.length : Int) + 1)).toNat false) 0 else none) else none) else some [])
theorem isa_Reach.mono_l : ∀ k, (∀ y0 y1 y2, LeO (isa_Reach.v k y0 y1 y2) (isa_Reach.v (k + 1) y0 y1 y2)) ∧ (∀ y0 y1 y2 y3, LeO (isa_Reach.lp k y0 y1 y2 y3) (isa_Reach.lp (k + 1) y0 y1 y2 y3))
  | 0 => ⟨fun _ _ _ r h => by simp [isa_Reach.v] at h, fun _ _ _ _ r h => by simp [isa_Reach.lp] at h⟩
  | k + 1 => by
    obtain ⟨ih0, ih1⟩ := isa_Reach.mono_l k
    refine ⟨?_, ?_⟩
    · intro y0 y1 y2
      unfold isa_Reach.v
      repeat' first
      | (with_reducible exact ih1 _ _ _ _)
      | (with_reducible exact isa_after.mono _ _ _)
      | (with_reducible exact LeO.refl _)
      | (with_reducible exact LeO.none _)
      | (with_reducible refine LeO.ite ?_ ?_)
      | (with_reducible refine LeO.bind ?_ (fun _ => ?_))
    · intro y0 y1 y2 y3
      unfold isa_Reach.lp
      repeat' first
      | (with_reducible exact ih0 _ _ _)
      | (with_reducible exact ih1 _ _ _ _)
      | (with_reducible exact LeO.refl _)
      | (with_reducible exact LeO.none _)
      | (with_reducible refine LeO.ite ?_ ?_)
      | (with_reducible refine LeO.bind ?_ (fun _ => ?_))
theorem isa_Reach.mono : ∀ a0 k, LeO (isa_Reach.f k a0) (isa_Reach.f (k + 1) a0) := by
  intro a0 k
  obtain ⟨ih0, ih1⟩ := isa_Reach.mono_l k
  unfold isa_Reach.f
  repeat' first
      | (with_reducible exact ih0 _ _ _)
      | (with_reducible exact isa_Valid.mono _ _)
      | (with_reducible exact LeO.refl _)
      | (with_reducible exact LeO.none _)
      | (with_reducible refine LeO.ite ?_ ?_)
      | (with_reducible refine LeO.bind ?_ (fun _ => ?_))
theorem grown_trans {a b c : World} {row : Option Nat} (h : a.grownBy b row) (k : b.grownBy c row) : a.grownBy c row :=
  ⟨k.os.trans h.os, k.tape.trans h.tape, k.output.trans h.output, Nat.le_trans h.size k.size, fun i hi hne => (k.block i (Nat.lt_of_lt_of_le hi h.size) hne).trans (h.block i hi hne)⟩
theorem grown_below {a b c : World} {row : Option Nat} (h : a.grownBy b row) (k : Below b.heap.size b c) : a.grownBy c row :=
  ⟨k.os.trans h.os, k.tape.trans h.tape, k.output.trans h.output, Nat.le_trans h.size k.size, fun i hi hne => (k.block i (Nat.lt_of_lt_of_le hi h.size)).trans (h.block i hi hne)⟩
/-- The closure: a visit. -/
abbrev rfn (gs gp gv : Nat) : Value := .func (.func 32) #[] #[.pointer (some ⟨gs, 0, none⟩), .pointer (some ⟨gp, 0, none⟩), .pointer (some ⟨gv, 0, none⟩)]
set_option maxHeartbeats 2000000 in
set_option maxRecDepth 100000 in
theorem reach1_calls (A0 : Option Addr) (c0 : Nat) (l0 : List S37) (hc0 : l0.length ≤ c0) (W0 : World) (hr0 : Kd.C k37 W0 A0 l0.length l0) (gs gp gv go co n : Nat) (hgo : W0.heap.size ≤ go) : ∀ (k : Nat) (s r : List Bool) (x : Int) (w : World)
    (hS : w.heap[gs]? = some (.cells #[.slice (some ⟨go, 0, none⟩) n co] 42 (0, 0))) (hP : w.heap[gp]? = some (.cells #[.slice A0 l0.length c0] 23 (0, 0))) (hV : w.heap[gv]? = some (.cells #[rfn gs gp gv] 55 (0, 0)))
    (hO : Kd.R Kd.bool 4 w W0.heap.size (fun _ => True) (.slice (some ⟨go, 0, none⟩) n co) s) (hB : Below W0.heap.size W0 w) (h : isa_Reach.v k l0 s x = some r),
    Calls Tryd.prog 32 #[.int .i64 x, .pointer (some ⟨gs, 0, none⟩), .pointer (some ⟨gp, 0, none⟩), .pointer (some ⟨gv, 0, none⟩)] w fun e w' => e = .returned (.tuple #[]) ∧ Kd.R Kd.bool 4 w' W0.heap.size (fun _ => True) (.slice (some ⟨go, 0, none⟩) n co) r ∧ w.grownBy w' (some go) := by
  intro k
  have HR0 := Aside0.mk hr0
  have HC0 := Aside0.mk hc0
  clear hr0 hc0
  induction k using Nat.strongRecOn with
  | ind k ih =>
  have IH := Aside0.mk ih
  clear ih
  intro s r x w hS hP hV hO hB h
  cases k with
  | zero => exact absurd h (by simp [isa_Reach.v])
  | succ k =>
  have H := h
  clear h
  simp only [isa_Reach.v] at H
  have hl : n = s.length := (Kd.R_reads' hO).1
  have p0 : 0 ≤ x := by
    by_cases p : 0 ≤ x
    · exact p
    · rw [if_neg p] at H; exact absurd H (by simp)
  rw [if_pos p0] at H
  have q0 : x < (s.length : Int) := by
    by_cases p : x < (s.length : Int)
    · exact p
    · rw [if_neg p] at H; exact absurd H (by simp)
  rw [if_pos q0] at H
  have qn : x < (n : Int) := by rw [hl]; exact q0
  obtain ⟨hx, hf⟩ := Kd.R_celln false hO x p0 qn
  have hxp := hx
  have hne1 : gs ≠ go := by
    intro e
    obtain ⟨cells, hc⟩ := Kd.R_typed hO go rfl
    rw [← e, hS] at hc
    injection hc with hc
    injection hc with _ hc
    exact absurd hc (by decide)
  have hne2 : gp ≠ go := by
    intro e
    obtain ⟨cells, hc⟩ := Kd.R_typed hO go rfl
    rw [← e, hP] at hc
    injection hc with hc
    injection hc with _ hc
    exact absurd hc (by decide)
  have hne3 : gv ≠ go := by
    intro e
    obtain ⟨cells, hc⟩ := Kd.R_typed hO go rfl
    rw [← e, hV] at hc
    injection hc with hc
    injection hc with _ hc
    exact absurd hc (by decide)
  have HN1 := Aside0.mk hne1
  have HN2 := Aside0.mk hne2
  have HN3 := Aside0.mk hne3
  have HGO := Aside0.mk hgo
  clear hne1 hne2 hne3
  have HS := Aside0.mk hS
  have HP := Aside0.mk hP
  have HV := Aside0.mk hV
  have HO := Aside0.mk hO
  have HB := Aside0.mk hB
  have cs : w.cell? ⟨gs, 0, none⟩ = some (.slice (some ⟨go, 0, none⟩) n co) := (blk_cell hS 0).trans rfl
  have HL := Aside0.mk hl
  clear hS hP hV hO hB hl hgo
  have p0b : decide (0 ≤ x) = true := decide_eq_true p0
  have qnb : decide (x < (n : Int)) = true := decide_eq_true qn
  replace p0 := eq_true p0
  replace qn := eq_true qn
  clear q0
  generalize hbq : rdOf false s x = bq at *
  cases bq with
  | true =>
    rw [if_pos rfl] at H
    obtain rfl := Option.some.inj H
    go_enter Tryd.func32, Tryd.ntmps32
    go_wp2
    (try simp only [Exit.inBlock, Exit.then])
    refine bodyPost_ret (results_none rfl _ _ _) rfl ?_
    exact ⟨rfl, HO.out, World.grownBy.refl _ _⟩
  | false =>
    rw [if_neg (by decide)] at H
    obtain ⟨ts, A0_, H⟩ := Option.bind_eq_some_iff.mp H
    have A1 := Aside0.mk A0_
    clear A0_
    have H' := Aside0.mk H
    clear H
    have HP1 := Kd.R_putg HO.out x true
    go_enter Tryd.func32, Tryd.ntmps32
    go_wp2_with (first
      | ((with_reducible refine gate_store (t := 4) (p := 13) rfl ?_); refine store_event (t := 4) (p := 13) (v := ?vo_1) (w1 := (w.setCell ⟨go, x.toNat, none⟩ (.bool true))) ?hg ?ho ?hn ?hr ?_; (case ho => rfl); (case hg => rfl); (case hn => rfl); (case hr => first | (go_simp; done) | (go_simp; rfl)); intro w1 hw; have HG1 := Aside0.mk (by rw [hw]; exact HP1.2 : w.grownBy w1 (some go)); have HO1 := Aside0.mk (by rw [hw]; exact HP1.1 : Kd.R Kd.bool 4 w1 W0.heap.size (fun _ => True) (.slice (some ⟨go, 0, none⟩) n co) (s.set x.toNat true)); have HS1 := Aside0.mk (blk_grown HS.out HG1.out (fun e => HN1.out (Option.some.inj e))); have HP1 := Aside0.mk (blk_grown HP.out HG1.out (fun e => HN2.out (Option.some.inj e))); have HV1 := Aside0.mk (blk_grown HV.out HG1.out (fun e => HN3.out (Option.some.inj e))); have HB1 := Aside0.mk (HB.out.grown HG1.out HB.out.size (fun k_ e => by injection e with e; rw [← e]; exact HGO.out)); clear hw cs hx hxp hf; have cp : w1.cell? ⟨gp, 0, none⟩ = some (.slice A0 l0.length c0) := (blk_cell HP1.out 0).trans rfl)
      | (go_at_call 31; (with_reducible refine (isa_after.calls k _ _ l0 x ts _ ?side1 ?side2 A1.out).mono ?_); (case side1 => exact Kd.C_below HR0.out HB1.out); (case side2 => exact HC0.out); rintro e w2 ⟨v2, rfl, ho0, hb⟩; have HG2 := Aside0.mk (grown_below HG1.out hb); have HO2 := Aside0.mk (Kd.R_below HO1.out hb); have HS2 := Aside0.mk (blk_below HS1.out hb); have HP2 := Aside0.mk (blk_below HP1.out hb); have HV2 := Aside0.mk (blk_below HV1.out hb); have HB2 := Aside0.mk (below_step HB1.out hb); have HT2 := Aside0.mk (Kd.R_lower ho0 (below_size HB1.out)); clear hb ho0 cp; obtain ⟨At, ct, et⟩ := Kd.R_slice HT2.out; subst et))
    try clear p0 p0b qn qnb hbq
    clear H HB1 HV1 HP1 HS1 HO1 HG1 HB HV HP HS HO
    go_loopg [18] k (fun kq v wr => ∃ (i : Int) (s2 : List Bool), v = .int .i64 i ∧ Aside0 (isa_Reach.lp kq l0 ts i s2 = some r) ∧ Aside0 (kq ≤ k) ∧ Aside0 (w.grownBy wr (some go)) ∧ Aside0 (Kd.R Kd.bool 4 wr W0.heap.size (fun _ => True) (.slice (some ⟨go, 0, none⟩) n co) s2) ∧ Aside0 (wr.heap[gs]? = some (.cells #[.slice (some ⟨go, 0, none⟩) n co] 42 (0, 0))) ∧ Aside0 (wr.heap[gp]? = some (.cells #[.slice A0 l0.length c0] 23 (0, 0))) ∧ Aside0 (wr.heap[gv]? = some (.cells #[rfn gs gp gv] 55 (0, 0))) ∧ Aside0 (Below W0.heap.size W0 wr) ∧ Aside0 (Kd.R (Kd.int .i64) 3 wr W0.heap.size (fun _ => True) (.slice At ts.length ct) ts))
    case atStart => exact ⟨0, _, rfl, H', ⟨Nat.le_refl _⟩, HG2, HO2, HS2, HP2, HV2, HB2, HT2⟩
    case round =>
      clear H' HG2 HO2 HS2 HP2 HV2 HB2 HT2
      obtain ⟨i, s2, rfl, HA, HK, HG, HO, HS, HP, HV, HB, HT⟩ := hrel
      cases gk with
      | zero => exact absurd HA.out (by simp [isa_Reach.lp])
      | succ k1 =>
        have H := HA.out
        clear HA
        simp only [isa_Reach.lp] at H
        by_cases c1 : i < (ts.length : Int)
        · rw [if_pos c1] at H
          have c1b : decide (i < (ts.length : Int)) = true := decide_eq_true c1
          have p1 : 0 ≤ i := by
            by_cases p : 0 ≤ i
            · exact p
            · rw [if_neg p] at H; exact absurd H (by simp)
          rw [if_pos p1] at H
          obtain ⟨s3, A0_, H⟩ := Option.bind_eq_some_iff.mp H
          have A3 := Aside0.mk A0_
          have H' := Aside0.mk H
          clear A0_ H
          obtain ⟨ad, e, hx0⟩ := Kd.at_int (Kd.R_reads' HT.out).2.2 i p1 c1
          subst e
          have cv : wr.cell? ⟨gv, 0, none⟩ = some (rfn gs gp gv) := (blk_cell HV.out 0).trans rfl
          have C := Aside0.mk (IH.out k1 (by have := HK.out; omega) s2 s3 (rd ts i) wr HS.out HP.out HV.out HO.out HB.out A3.out)
          have p1b : decide (0 ≤ i) = true := decide_eq_true p1
          replace p1 := eq_true p1
          replace c1 := eq_true c1
          go_wp2_with (go_at_call 32; (with_reducible refine C.out.mono ?_); rintro e w3 ⟨rfl, ho, hg⟩; have HT3 := Aside0.mk (Kd.R_over' (v := .slice (some ⟨go, 0, none⟩) n co) HT.out (Kd.R_typed HO.out) (by decide) hg); have HG3 := Aside0.mk (grown_trans HG.out hg); have HS3 := Aside0.mk (blk_grown HS.out hg (fun e => HN1.out (Option.some.inj e))); have HP3 := Aside0.mk (blk_grown HP.out hg (fun e => HN2.out (Option.some.inj e))); have HV3 := Aside0.mk (blk_grown HV.out hg (fun e => HN3.out (Option.some.inj e))); have HB3 := Aside0.mk (HB.out.grown hg HB.out.size (fun k_ e => by injection e with e; rw [← e]; exact HGO.out)); have HO3 := Aside0.mk ho; clear ho hg)
          go_roundg k1
          case measure => omega
          case rel => exact ⟨_, _, rfl, H', ⟨by have := HK.out; omega⟩, HG3, HO3, HS3, HP3, HV3, HB3, HT3⟩
        · rw [if_neg c1] at H
          have c1b : decide (i < (ts.length : Int)) = false := decide_eq_false c1
          obtain rfl := Option.some.inj H
          go_wp2
          go_end0
          exact ⟨rfl, HO.out, HG.out⟩
theorem isa_Reach.v_pos {k : Nat} {l : List S37} {s r : List Bool} {x : Int} (h : isa_Reach.v k l s x = some r) : 0 ≤ x ∧ x < (s.length : Int) := by
  cases k with
  | zero => exact absurd h (by simp [isa_Reach.v])
  | succ k =>
    simp only [isa_Reach.v] at h
    by_cases p : 0 ≤ x
    · rw [if_pos p] at h
      by_cases q : x < (s.length : Int)
      · exact ⟨p, q⟩
      · rw [if_neg q] at h; exact absurd h (by simp)
    · rw [if_neg p] at h; exact absurd h (by simp)
theorem grown_set (w : World) (g j : Nat) (v : Value) : w.grownBy (w.setCell ⟨g, j, none⟩ v) (some g) :=
  ⟨rfl, rfl, rfl, by simp [World.setCell], fun k hk hne => Below.heap_setCell _ _ _ _ (fun e => hne (by rw [e]))⟩
set_option maxHeartbeats 2000000 in
set_option maxRecDepth 100000 in
theorem isa_Reach.calls (k : Nat) (A0 : Option Addr) (c0 : Nat) (l0 : List S37) (r : List Bool) (w : World) (hr0 : Kd.C k37 w A0 l0.length l0) (hc0 : l0.length ≤ c0) (hrG : GL w) (h : isa_Reach.f k l0 = some r) :
    Calls Tryd.prog 23 #[.slice A0 l0.length c0] w fun e w' => ∃ v0_ : Value, e = .returned (v0_) ∧ Kd.R Kd.bool 4 w' w.heap.size (fun _ => True) v0_ r ∧ Below w.heap.size w w' := by
  have hmf : ∀ (fn : Fn) (first cap : Array Value) (w : World), (Instr.makeFunc fn first cap).run Tryd.prog w = .ok (.func fn first cap) w := fun _ _ _ _ => rfl
  have HRG := Aside0.mk hrG
  have HR0 := Aside0.mk hr0
  have HC0 := Aside0.mk hc0
  clear hrG hr0 hc0
  have HB0 := Aside0.mk (Below.refl w.heap.size w)
  have H := h
  clear h
  unfold isa_Reach.f at H
  obtain ⟨e0, A0_, H⟩ := Option.bind_eq_some_iff.mp H
  have A1 := Aside0.mk A0_
  clear A0_
  by_cases c1 : e0 = 0
  · rw [if_pos c1] at H
    have c1a : (e0 == 0) = true := beq_iff_eq.mpr c1
    have c1b : (e0 != 0) = false := bne_eq_false_iff_eq.mpr c1
    clear c1
    obtain ⟨N, hN⟩ : ∃ j_ : Int, wrap64 ((l0.length : Int) + 1) = j_ := ⟨_, rfl⟩
    rw [hN] at H
    have hNw : (IntKind.i64.wrap ((l0.length : Int) + 1)) = N := (i64_w _).trans hN
    have p0 : 0 ≤ N := by
      by_cases p : 0 ≤ N
      · exact p
      · rw [if_neg p] at H; exact absurd H (by simp)
    rw [if_pos p0] at H
    have p1 : N.toNat ≤ 281474976710656 := by
      by_cases p : N.toNat ≤ 281474976710656
      · exact p
      · rw [if_neg p] at H; exact absurd H (by simp)
    rw [if_pos p1] at H
    have P0 := Aside0.mk p0
    have P1 := Aside0.mk p1
    have HV := Aside0.mk H
    have hpos := isa_Reach.v_pos H
    have HPOS := Aside0.mk hpos.2
    clear H p0 p1 hpos hN
    go_enter Tryd.func23, Tryd.ntmps23
    go_wp2_with (first
      | ((with_reducible refine gate_dst (N := 1) rfl ?_); refine box_event ?hg (N := 1) ?hd (cs := #[.slice A0 l0.length c0]) (t := 23) ?hr ?_; (case hd => rfl); (case hg => rfl); (case hr => first | (go_simp; done) | (go_simp; rfl)); intro gp xg w1 yC hb; have HB1 := Aside0.mk (below_step HB0.out hb); have HP1 := Aside0.mk yC; clear xg yC hb; have d1 : w1.cell? ⟨gp, 0, none⟩ = some (.slice A0 l0.length c0) := (blk_cell HP1.out 0).trans rfl)
      | (go_at_call 16; (with_reducible refine (isa_Valid.calls k _ _ l0 e0 _ ?side1 ?side2 ?side3 A1.out).mono ?_); (case side1 => exact Kd.C_below HR0.out HB1.out); (case side2 => exact HC0.out); (case side3 => exact GL.below HRG.out HB1.out); rintro e w2 ⟨rfl, hb⟩; have HB2 := Aside0.mk (below_step HB1.out hb); have HP2 := Aside0.mk (blk_below HP1.out hb); clear hb d1 HB1 HP1; have d2 : w2.cell? ⟨gp, 0, none⟩ = some (.slice A0 l0.length c0) := (blk_cell HP2.out 0).trans rfl)
      | ((with_reducible refine gate_dst (N := 11) rfl ?_); refine Kd.R_make Kd.bool _ 4 rfl (N := 11) rfl 42 _ _ rfl N rfl rfl Tryd.underlying42 (.bool false) 1 info4 rfl (by decide) (by omega) false (ok := fun _ => True) (okp := fun _ => True) rfl (fun _ hk => hk) trivial P0.out (Nat.le_trans (Nat.mul_le_mul_right _ P1.out) (by omega)) (Below.refl _ _) (Nat.le_refl _) ?_; intro v3 w3 ho hb hg_ hnew_; clear hg_ hnew_; have HO3 := Aside0.mk (Kd.R_lower ho (below_size HB2.out)); have HB3 := Aside0.mk (below_step HB2.out hb); have HP3 := Aside0.mk (blk_below HP2.out hb); clear hb ho d2 HB2 HP2; obtain ⟨go, co, eo, gb, gl, cl, hG⟩ := Kd.R_form HO3.out (by have := HPOS.out; omega); subst eo; have GB := Aside0.mk gb; clear gb gl hG)
      | ((with_reducible refine gate_dst (N := 3) rfl ?_); refine box_event ?hg (N := 3) ?hd (cs := #[.slice none 0 0]) (t := 42) ?hr ?_; (case hd => rfl); (case hg => rfl); (case hr => first | (go_simp; done) | (go_simp; rfl)); intro gs xg w4 yC hb; have GS := Aside0.mk (xg ▸ below_size HB3.out : w.heap.size ≤ gs); have HB4 := Aside0.mk (below_step HB3.out hb); have HS4 := Aside0.mk yC; have HP4 := Aside0.mk (blk_below HP3.out hb); have HO4 := Aside0.mk (Kd.R_below HO3.out hb); clear xg yC hb HB3 HP3 HO3; have d4 : w4.cell? ⟨gs, 0, none⟩ = some (.slice none 0 0) := (blk_cell HS4.out 0).trans rfl; have f4 := blk_frozen HS4.out 0)
      | ((with_reducible refine gate_store (t := 42) (p := 3) rfl ?_); refine store_event (t := 42) (p := 3) (v := ?vo_2) (w1 := (w4.setCell ⟨gs, 0, none⟩ (.slice (some ⟨go, 0, none⟩) (List.replicate N.toNat false).length co))) ?hg ?ho ?hn ?hr ?_; (case ho => rfl); (case hg => rfl); (case hn => rfl); (case hr => first | (go_simp; done) | (go_simp; rfl)); intro w5 hw; have hg : w4.grownBy w5 (some gs) := (by rw [hw]; exact grown_set _ _ _ _); have HS5 := Aside0.mk (by rw [hw]; exact blk_put HS4.out 0 _ rfl : w5.heap[gs]? = some (.cells #[.slice (some ⟨go, 0, none⟩) (List.replicate N.toNat false).length co] 42 (0, 0))); have HP5 := Aside0.mk (blk_grown HP4.out hg (fun e => blk_ne HP4.out HS4.out (by decide) (Option.some.inj e))); have HO5 := Aside0.mk (Kd.R_over' (v := .slice (some ⟨gs, 0, none⟩) 0 0) HO4.out (fun j_ ej_ => by injection ej_ with ej_; subst ej_; exact ⟨_, HS4.out⟩) (by decide) hg); have HB5 := Aside0.mk (HB4.out.grown hg HB4.out.size (fun k_ e => by injection e with e; rw [← e]; exact GS.out)); clear hw hg d4 f4 HS4 HP4 HO4 HB4)
      | ((with_reducible refine gate_dst (N := 4) rfl ?_); refine box_event ?hg (N := 4) ?hd (cs := #[.nilFunc]) (t := 55) ?hr ?_; (case hd => rfl); (case hg => rfl); (case hr => first | (go_simp; done) | (go_simp; rfl)); intro gv xg w6 yC hb; have GV := Aside0.mk (xg ▸ below_size HB5.out : w.heap.size ≤ gv); have HB6 := Aside0.mk (below_step HB5.out hb); have HV6 := Aside0.mk yC; have HS6 := Aside0.mk (blk_below HS5.out hb); have HP6 := Aside0.mk (blk_below HP5.out hb); have HO6 := Aside0.mk (Kd.R_below HO5.out hb); clear xg yC hb HB5 HS5 HP5 HO5; have d6 : w6.cell? ⟨gv, 0, none⟩ = some .nilFunc := (blk_cell HV6.out 0).trans rfl; have f6 := blk_frozen HV6.out 0)
      | ((with_reducible refine gate_store (t := 55) (p := 4) rfl ?_); refine store_event (t := 55) (p := 4) (v := ?vo_3) (w1 := (w6.setCell ⟨gv, 0, none⟩ (rfn gs gp gv))) ?hg ?ho ?hn ?hr ?_; (case ho => rfl); (case hg => rfl); (case hn => rfl); (case hr => first | (go_simp; done) | (go_simp; rfl)); intro w7 hw; have hg : w6.grownBy w7 (some gv) := (by rw [hw]; exact grown_set _ _ _ _); have HV7 := Aside0.mk (by rw [hw]; exact blk_put HV6.out 0 _ rfl : w7.heap[gv]? = some (.cells #[rfn gs gp gv] 55 (0, 0))); have HS7 := Aside0.mk (blk_grown HS6.out hg (fun e => blk_ne HS6.out HV6.out (by decide) (Option.some.inj e))); have HP7 := Aside0.mk (blk_grown HP6.out hg (fun e => blk_ne HP6.out HV6.out (by decide) (Option.some.inj e))); have HO7 := Aside0.mk (Kd.R_over' (v := .slice (some ⟨gv, 0, none⟩) 0 0) HO6.out (fun j_ ej_ => by injection ej_ with ej_; subst ej_; exact ⟨_, HV6.out⟩) (by decide) hg); have HB7 := Aside0.mk (HB6.out.grown hg HB6.out.size (fun k_ e => by injection e with e; rw [← e]; exact GV.out)); clear hw hg d6 f6 HV6 HS6 HP6 HO6 HB6; have d7 : w7.cell? ⟨gv, 0, none⟩ = some (rfn gs gp gv) := (blk_cell HV7.out 0).trans rfl)
      | (go_at_call 32; (with_reducible refine (reach1_calls A0 c0 l0 HC0.out w HR0.out gs gp gv go co _ GB.out k _ r 0 w7 HS7.out HP7.out HV7.out HO7.out HB7.out HV.out).mono ?_); rintro e w8 ⟨rfl, ho, hg⟩; have HS8 := Aside0.mk (blk_grown HS7.out hg (fun e => by obtain ⟨cells, hc⟩ := Kd.R_typed HO7.out go rfl; exact blk_ne HS7.out hc (by decide) (Option.some.inj e))); have HB8 := Aside0.mk (HB7.out.grown hg HB7.out.size (fun k_ e => by injection e with e; rw [← e]; exact GB.out)); have HO8 := Aside0.mk ho; clear ho hg d7; have d8 : w8.cell? ⟨gs, 0, none⟩ = some (.slice (some ⟨go, 0, none⟩) (List.replicate N.toNat false).length co) := (blk_cell HS8.out 0).trans rfl))
    go_ret
    have hO8 := HO8.out
    rw [List.length_replicate] at hO8
    exact ⟨_, rfl, hO8, HB8.out⟩
  · rw [if_neg c1] at H
    have c1a : (e0 == 0) = false := beq_eq_false_iff_ne.mpr c1
    have c1b : (e0 != 0) = true := bne_iff_ne.mpr c1
    clear c1
    obtain rfl := Option.some.inj H
    go_enter Tryd.func23, Tryd.ntmps23
    go_wp2_with (first
      | ((with_reducible refine gate_dst (N := 1) rfl ?_); refine box_event ?hg (N := 1) ?hd (cs := #[.slice A0 l0.length c0]) (t := 23) ?hr ?_; (case hd => rfl); (case hg => rfl); (case hr => first | (go_simp; done) | (go_simp; rfl)); intro gp xg w1 yC hb; have HB1 := Aside0.mk (below_step HB0.out hb); have HP1 := Aside0.mk yC; clear xg yC hb; have d1 : w1.cell? ⟨gp, 0, none⟩ = some (.slice A0 l0.length c0) := (blk_cell HP1.out 0).trans rfl)
      | (go_at_call 16; (with_reducible refine (isa_Valid.calls k _ _ l0 e0 _ ?side1 ?side2 ?side3 A1.out).mono ?_); (case side1 => exact Kd.C_below HR0.out HB1.out); (case side2 => exact HC0.out); (case side3 => exact GL.below HRG.out HB1.out); rintro e w2 ⟨rfl, hb⟩; have HB2 := Aside0.mk (below_step HB1.out hb); clear hb d1 HB1 HP1))
    go_ret
    exact ⟨_, rfl, Kd.R_nil _ _ _ _ _, HB2.out⟩
end Go.Proofs.YtamjeglenbokfaaDoor.Q
end
section
namespace Go.Proofs.YtamjeglenbokfaaDoor.Q
open Go.RowKit Go.Proofs.YtamjeglenbokfaaDoorW.PrintWords Go.Proofs.YtamjeglenbokfaaDoorW.PrintLast Go.Proofs.YtamjeglenbokfaaDoorW.PrintMore
attribute [local go_sem] max2_int min2_int max_two min_two max_three min_three max_four min_four   -- for this text's walks alone
set_option linter.unusedVariables false
set_option linter.unusedSimpArgs false

/-! ### attestorref26_Reach: function 24 -/
mutual
def attestorref26_Reach.l0 : Nat → List (S37) → List Bool → Int → Option (List Bool)
  | 0, _, _, _ => none
  | k + 1, x0, x3, x4 => if x4 ≤ (x0.length : Int) then (attestorref26_Reach.l1 k x0 x3 x4 0) else (some x3)
def attestorref26_Reach.l1 : Nat → List (S37) → List Bool → Int → Int → Option (List Bool)
  | 0, _, _, _, _ => none
  | k + 1, x0, x3, x4, x5 => if x5 ≤ (x0.length : Int) then ((attestorref26_Next.f k x0 x5).bind fun t305 => (attestorref26_Reach.l2 k x0 x3 x4 x5 t305 0)) else (attestorref26_Reach.l0 k x0 x3 (wrap64 (x4 + 1)))
def attestorref26_Reach.l2 : Nat → List (S37) → List Bool → Int → Int → List Int → Int → Option (List Bool)
  | 0, _, _, _, _, _, _ => none
  | k + 1, x0, x3, x4, x5, x6, x7 => if x7 < (x6.length : Int) then (if 0 ≤ x5 then (if x5 < (x3.length : Int) then (if rdOf false x3 x5 = true then (if 0 ≤ x7 then (if 0 ≤ (rd x6 x7) then (if (rd x6 x7) < (x3.length : Int) then (attestorref26_Reach.l2 k x0 (x3.set ((rd x6 x7) : Int).toNat true) x4 x5 x6 (wrap64 (x7 + 1))) else (none)) else (none)) else (none)) else (attestorref26_Reach.l1 k x0 x3 x4 (wrap64 (x5 + 1)))) else (none)) else (none)) else (attestorref26_Reach.l1 k x0 x3 x4 (wrap64 (x5 + 1)))
end
def attestorref26_Reach.f (k : Nat) (l0 : List (S37)) : Option (List Bool) := (attestorref26_Valid.f k l0).bind fun t300 => (if t300 = 0 then (if 0 ≤ (wrap64 ((l0.length : Int) + 1)) then (if (wrap64 ((l0.length : Int) + 1) : Int).toNat ≤ 281474976710656 then ((some (List.replicate (wrap64 ((l0.length : Int) + 1) : Int).toNat false : List Bool)).bind fun y301 => (if 0 < (y301.length : Int) then (attestorref26_Reach.l0 k l0 (y301.set (0 : Int).toNat true) 0) else (none))) else (none)) else (none)) else (some ([] : List Bool)))
theorem attestorref26_Reach.mono_l : ∀ k, (∀ y0 y1 y2, LeO (attestorref26_Reach.l0 k y0 y1 y2) (attestorref26_Reach.l0 (k + 1) y0 y1 y2)) ∧ (∀ y0 y1 y2 y3, LeO (attestorref26_Reach.l1 k y0 y1 y2 y3) (attestorref26_Reach.l1 (k + 1) y0 y1 y2 y3)) ∧ (∀ y0 y1 y2 y3 y4 y5, LeO (attestorref26_Reach.l2 k y0 y1 y2 y3 y4 y5) (attestorref26_Reach.l2 (k + 1) y0 y1 y2 y3 y4 y5))
  | 0 => ⟨fun _ _ _ r h => by simp [attestorref26_Reach.l0] at h, fun _ _ _ _ r h => by simp [attestorref26_Reach.l1] at h, fun _ _ _ _ _ _ r h => by simp [attestorref26_Reach.l2] at h⟩
  | k + 1 => by
    obtain ⟨ih0, ih1, ih2⟩ := attestorref26_Reach.mono_l k
    refine ⟨?_, ?_, ?_⟩
    · intro y0 y1 y2
      unfold attestorref26_Reach.l0
      repeat' first
      | (with_reducible exact ih0 _ _ _)
      | (with_reducible exact ih1 _ _ _ _)
      | (with_reducible exact ih2 _ _ _ _ _ _)
      | (with_reducible exact attestorref26_Next.mono _ _ _)
      | (with_reducible exact attestorref26_Valid.mono _ _)
      | (with_reducible exact LeO.refl _)
      | (with_reducible exact LeO.none _)
      | (with_reducible refine LeO.ite ?_ ?_)
      | (with_reducible refine LeO.bind ?_ (fun _ => ?_))
      | exact ih0 _ _ _
      | exact ih1 _ _ _ _
      | exact ih2 _ _ _ _ _ _
      | exact attestorref26_Next.mono _ _ _
      | exact attestorref26_Valid.mono _ _
      | exact LeO.none _
      | refine LeO.ite ?_ ?_
      | refine LeO.bind ?_ (fun _ => ?_)
    · intro y0 y1 y2 y3
      unfold attestorref26_Reach.l1
      repeat' first
      | (with_reducible exact ih0 _ _ _)
      | (with_reducible exact ih1 _ _ _ _)
      | (with_reducible exact ih2 _ _ _ _ _ _)
      | (with_reducible exact attestorref26_Next.mono _ _ _)
      | (with_reducible exact attestorref26_Valid.mono _ _)
      | (with_reducible exact LeO.refl _)
      | (with_reducible exact LeO.none _)
      | (with_reducible refine LeO.ite ?_ ?_)
      | (with_reducible refine LeO.bind ?_ (fun _ => ?_))
      | exact ih0 _ _ _
      | exact ih1 _ _ _ _
      | exact ih2 _ _ _ _ _ _
      | exact attestorref26_Next.mono _ _ _
      | exact attestorref26_Valid.mono _ _
      | exact LeO.none _
      | refine LeO.ite ?_ ?_
      | refine LeO.bind ?_ (fun _ => ?_)
    · intro y0 y1 y2 y3 y4 y5
      unfold attestorref26_Reach.l2
      repeat' first
      | (with_reducible exact ih0 _ _ _)
      | (with_reducible exact ih1 _ _ _ _)
      | (with_reducible exact ih2 _ _ _ _ _ _)
      | (with_reducible exact attestorref26_Next.mono _ _ _)
      | (with_reducible exact attestorref26_Valid.mono _ _)
      | (with_reducible exact LeO.refl _)
      | (with_reducible exact LeO.none _)
      | (with_reducible refine LeO.ite ?_ ?_)
      | (with_reducible refine LeO.bind ?_ (fun _ => ?_))
      | exact ih0 _ _ _
      | exact ih1 _ _ _ _
      | exact ih2 _ _ _ _ _ _
      | exact attestorref26_Next.mono _ _ _
      | exact attestorref26_Valid.mono _ _
      | exact LeO.none _
      | refine LeO.ite ?_ ?_
      | refine LeO.bind ?_ (fun _ => ?_)
theorem attestorref26_Reach.mono : ∀ a0 k, LeO (attestorref26_Reach.f k a0) (attestorref26_Reach.f (k + 1) a0) := by
  intro a0 k
  obtain ⟨ih0, ih1, ih2⟩ := attestorref26_Reach.mono_l k
  unfold attestorref26_Reach.f
  repeat' first
      | (with_reducible exact ih0 _ _ _)
      | (with_reducible exact ih1 _ _ _ _)
      | (with_reducible exact ih2 _ _ _ _ _ _)
      | (with_reducible exact attestorref26_Next.mono _ _ _)
      | (with_reducible exact attestorref26_Valid.mono _ _)
      | (with_reducible exact LeO.refl _)
      | (with_reducible exact LeO.none _)
      | (with_reducible refine LeO.ite ?_ ?_)
      | (with_reducible refine LeO.bind ?_ (fun _ => ?_))
      | exact ih0 _ _ _
      | exact ih1 _ _ _ _
      | exact ih2 _ _ _ _ _ _
      | exact attestorref26_Next.mono _ _ _
      | exact attestorref26_Valid.mono _ _
      | exact LeO.none _
      | refine LeO.ite ?_ ?_
      | refine LeO.bind ?_ (fun _ => ?_)
set_option maxHeartbeats 8000000 in
set_option maxRecDepth 100000 in
theorem attestorref26_Reach.calls (k : Nat) (A0 : Option Addr) (c0 : Nat) (l0 : List (S37)) (r : List Bool) (w : World) (hr0 : Kd.C k37 w A0 l0.length l0) (hc0 : l0.length ≤ c0) (h : attestorref26_Reach.f k l0 = some r) :
    Calls Tryd.prog 24 #[.slice A0 l0.length c0] w fun e w' => ∃ v0_ : Value, e = .returned (v0_) ∧ Kd.R Kd.bool 4 w' w.heap.size (fun _ => True) v0_ r ∧ Below w.heap.size w w' := by
  have HR0 := Aside0.mk hr0
  have HC0 := Aside0.mk hc0
  clear hr0 hc0
  have HB := Aside0.mk (Below.refl w.heap.size w)
  have H : ((attestorref26_Valid.f k l0).bind fun t300 => (if t300 = 0 then (if 0 ≤ (wrap64 ((l0.length : Int) + 1)) then (if (wrap64 ((l0.length : Int) + 1) : Int).toNat ≤ 281474976710656 then ((some (List.replicate (wrap64 ((l0.length : Int) + 1) : Int).toNat false : List Bool)).bind fun y301 => (if 0 < (y301.length : Int) then (attestorref26_Reach.l0 k l0 (y301.set (0 : Int).toNat true) 0) else (none))) else (none)) else (none)) else (some ([] : List Bool)))) = some r := h
  clear h
  replace H := Option.bind_eq_some_iff.mp H
  obtain ⟨t300, A20, H⟩ := H
  replace H : (if t300 = 0 then (if 0 ≤ (wrap64 ((l0.length : Int) + 1)) then (if (wrap64 ((l0.length : Int) + 1) : Int).toNat ≤ 281474976710656 then ((some (List.replicate (wrap64 ((l0.length : Int) + 1) : Int).toNat false : List Bool)).bind fun y301 => (if 0 < (y301.length : Int) then (attestorref26_Reach.l0 k l0 (y301.set (0 : Int).toNat true) 0) else (none))) else (none)) else (none)) else (some ([] : List Bool))) = some r := H
  have A2 := Aside0.mk A20
  clear A20
  by_cases c3 : t300 = 0
  · rw [if_pos c3] at H
    have c3b0 : (t300 == 0) = true := beq_iff_eq.mpr c3
    have c3b1 : (t300 != 0) = false := bne_eq_false_iff_eq.mpr c3
    clear c3
    obtain ⟨ji4, hji4⟩ : ∃ j_ : Int, (wrap64 ((l0.length : Int) + 1)) = j_ := ⟨_, rfl⟩
    replace H : (if 0 ≤ (ji4) then (if (ji4 : Int).toNat ≤ 281474976710656 then ((some (List.replicate (ji4 : Int).toNat false : List Bool)).bind fun y301 => (if 0 < (y301.length : Int) then (attestorref26_Reach.l0 k l0 (y301.set (0 : Int).toNat true) 0) else (none))) else (none)) else (none)) = some r := by first | (rw [hji4] at H; exact H) | (simp only [hji4] at H ⊢; exact H)
    (try rw [hji4] at A2)
    have hji4w : (IntKind.i64.wrap ((l0.length : Int) + 1)) = ji4 := (i64_w _).trans hji4
    by_cases c5 : 0 ≤ (ji4)
    · rw [if_pos c5] at H
      have c5b0 := eq_true c5
      have c5b1 : decide (0 ≤ (ji4)) = true := decide_eq_true c5
      clear c5
      by_cases c6 : (ji4 : Int).toNat ≤ 281474976710656
      · rw [if_pos c6] at H
        have c6b0 := eq_true c6
        have c6b1 : decide ((ji4 : Int).toNat ≤ 281474976710656) = true := decide_eq_true c6
        clear c6
        obtain ⟨y301, hy301⟩ : ∃ y_ : List Bool, y_ = (List.replicate (ji4 : Int).toNat false) := ⟨_, rfl⟩
        replace H : (if 0 < (y301.length : Int) then (attestorref26_Reach.l0 k l0 (y301.set (0 : Int).toNat true) 0) else (none)) = some r := by first | (rw [hy301]; with_reducible exact H) | (have H2_ := (Option.bind_some _ _).symm.trans H; rw [hy301]; with_reducible exact H2_) | (have H2_ := (Option.bind_some _ _).symm.trans H; with_reducible exact H2_) | with_reducible exact H | (rw [hy301]; exact H) | exact H
        have Ny301 := Aside0.mk hy301
        clear hy301
        by_cases c7 : 0 < (y301.length : Int)
        · rw [if_pos c7] at H
          have c7b0 : decide (0 < (y301.length : Int)) = true := decide_eq_true c7
          have c7b1 : decide (0 < y301.length) = true := decide_eq_true (by omega)
          clear c7
          obtain ⟨y304, hy304⟩ : ∃ y_ : List Bool, y_ = (y301.set (0 : Int).toNat true) := ⟨_, rfl⟩
          replace H : (attestorref26_Reach.l0 k l0 y304 0) = some r := by first | (rw [hy304]; with_reducible exact H) | (have H2_ := (Option.bind_some _ _).symm.trans H; rw [hy304]; with_reducible exact H2_) | (have H2_ := (Option.bind_some _ _).symm.trans H; with_reducible exact H2_) | with_reducible exact H | (rw [hy304]; exact H) | exact H
          have Ny304 := Aside0.mk hy304
          clear hy304
          have H' := Aside0.mk H
          clear H
          go_enter Tryd.func24, Tryd.ntmps24
          go_wp2_with (first | ((with_reducible refine gate_callee (f := 17) rfl ?_); refine goesL_ (some 9) rfl rfl Tryd.func17 (by kernel_rfl) rfl #[.slice A0 l0.length c0] rfl (by (try simp only [List.map_toArray, List.map_cons, List.map_nil]); first | done | rfl | (simp only [List.length_drop, List.length_take]; rfl) | (go_simp; done) | (go_simp; rw [Int.tmod_eq_emod_of_nonneg (by omega)]; omega)) ?_; (with_reducible refine (attestorref26_Valid.calls k _ _ l0 t300 _ ?side1 ?side2 A2.out).mono ?_); (case side1 => repeat (first | exact HR0.out | (with_reducible refine Kd.C_alloc ?_ _) | (with_reducible refine Kd.C_drewN ?_ _) | (with_reducible refine Kd.C_drew ?_))); (case side2 => exact HC0.out); rintro e w9 ⟨rfl, hb⟩; refine ⟨_, rfl, ?_⟩; have n0_ := Aside0.mk (below_step (by repeat (first | (with_reducible first | exact HB.out | apply below_alloc | apply pw_below_drewN | apply below_drew1) | exact HB.out)) hb); clear HB; have HB := n0_; clear n0_; (try clear hb); (try clear hb2); (try clear hk); (try clear hi)) | ((with_reducible refine gate_dst (N := 14) rfl ?_); refine Kd.R_make Kd.bool _ 4 rfl (N := 14) rfl 42 _ _ rfl ji4 rfl rfl Tryd.underlying42 (.bool false) 1 info4 rfl (by decide) (by omega) false (ok := fun _ => True) (okp := fun _ => True) rfl (fun _ hk => hk) trivial (of_decide_eq_true (by first | (with_reducible assumption) | assumption)) (Nat.le_trans (Nat.mul_le_mul_right _ (of_decide_eq_true (by first | (with_reducible assumption) | assumption) : ji4.toNat ≤ 281474976710656)) (by omega)) (Below.refl _ _) (Nat.le_refl _) ?_; intro v302 w10 ho11 hb hg_ hnew_; clear hg_ hnew_; (first | rw [← Ny301.out] at ho11 | (simp only [Int.reduceToNat] at ho11; rw [← Ny301.out] at ho11)); have n0_ := Aside0.mk (Kd.R_lower ho11 (below_size (by repeat (first | (with_reducible first | exact HB.out | apply below_alloc | apply pw_below_drewN | apply below_drew1) | exact HB.out)))); have n1_ := Aside0.mk (below_step (by repeat (first | (with_reducible first | exact HB.out | apply below_alloc | apply pw_below_drewN | apply below_drew1) | exact HB.out)) hb); clear HB; have HO303 := n0_; have HB := n1_; clear n0_ n1_; clear hb ho11; have p8 : 0 ≤ (0 : Int) := (by omega); have q8 : (0 : Int) < ((y301.length : Int) : Int) := of_decide_eq_true (by first | (with_reducible assumption) | assumption); have qi8 : (0 < y301.length) = True := eq_true (by omega); obtain ⟨go8, co8, eo8, gb8, gl8, cl8, HG8⟩ := Kd.R_form HO303.out (by omega); (first | cases eo8 | (injection eo8 with ea_ en_ ec_; (first | subst ea_ | (injection ea_ with ea_; subst ea_)); subst ec_; clear en_)); have GB8 := Aside0.mk gb8; have GG8 := Aside0.mk HG8; clear gb8 gl8 HG8; obtain ⟨hx8_0, hf8_0⟩ := Kd.R_celln false HO303.out (0 : Int) p8 q8; (try rw [show ((0 : Int)).toNat = 0 from rfl] at hx8_0); (try simp only [Nat.reduceMul, Nat.zero_mul, Nat.zero_add, Nat.reduceAdd] at hx8_0); (try rw [show ((0 : Int)).toNat = 0 from rfl] at hf8_0); (try simp only [Nat.reduceMul, Nat.zero_mul, Nat.zero_add, Nat.reduceAdd] at hf8_0); replace p8 := eq_true p8; replace q8 := eq_true q8; obtain ⟨hy12_, hz12_⟩ := Kd.R_celln false HO303.out (0 : Int) (by omega) (of_decide_eq_true (by first | (with_reducible assumption) | assumption)); (try simp only [Int.reduceToNat, Int.toNat_zero, Int.toNat_ofNat, Nat.reduceMul, Nat.zero_mul, Nat.zero_add] at hy12_ hz12_); (try rw [show ((0 : Int)).toNat = 0 from rfl] at hy12_); (try rw [show ((0 : Int)).toNat = 0 from rfl] at hz12_); have HP12 := Kd.R_putg HO303.out (0 : Int) true) | ((with_reducible refine gate_store (t := 4) (p := 16) rfl ?_); refine store_event (t := 4) (p := 16) (v := ?vo_w13) (w1 := (w10.setCell ⟨go8, (0 : Int).toNat, none⟩ (.bool true))) ?hg ?ho ?hn ?hr ?_; (case ho => rfl); (case hg => rfl); (case hn => rfl); (case hr => first | (go_simp; done) | (go_simp; rfl)); intro w13 hw; have hg : w10.grownBy w13 (some go8) := (by rw [hw]; exact HP12.2); have hp_ : Kd.R Kd.bool 4 w13 w.heap.size (fun _ => True) (.slice (some ⟨go8, 0, none⟩) y301.length co8) y304 := (by rw [hw, Ny304.out]; exact HP12.1); clear HP12; have n0_ := Aside0.mk (hp_); have n1_ := Aside0.mk ((by rw [hw]; exact below_set (HB.out) GB8.out : Below w.heap.size w w13)); clear HO303; clear HB; have HO303 := n0_; have HB := n1_; clear n0_ n1_; clear hg hw hp_))
          go_loopg [4] k (fun kq v4 w' => ∃ (x3_1 : List Bool) (x4_1 : Int), v4 = .int .i64 x4_1 ∧ Aside0 (attestorref26_Reach.l0 kq l0 x3_1 x4_1 = some r) ∧ Aside0 (kq ≤ k) ∧ Aside0 (Kd.R Kd.bool 4 w' w.heap.size (fun _ => True) (.slice (some ⟨go8, 0, none⟩) y301.length co8) x3_1) ∧ Aside0 (Below w.heap.size w w'))
          case atStart => exact ⟨(y304), (0), (by first | rfl | (simp; done) | (simp [*]; done) | (simp; rfl) | (simp; decide +kernel)), H', ⟨Nat.le_refl _⟩, ⟨by (with_reducible repeat (first | apply Kd.R_alloc | apply Kd.R_drewN | apply Kd.R_drew)); exact HO303.out⟩, ⟨by repeat (first | (with_reducible first | exact HB.out | apply below_alloc | apply pw_below_drewN | apply below_drew1) | exact HB.out)⟩⟩
          case round =>
            clear H'
            try clear c1
            try clear c2
            try clear p2
            try clear c3
            try clear c3b0
            try clear c3b1
            try clear c5
            try clear c5b0
            try clear c5b1
            try clear c6
            try clear c6b0
            try clear c6b1
            try clear p6
            try clear c7
            try clear c7b0
            try clear c7b1
            try clear p8
            try clear q8
            try clear hx8
            try clear qi8
            try clear hf8
            try clear hx8_0
            try clear p8
            try clear q8
            obtain ⟨x3_1, x4_1, rfl, HA, HK1, HO_3, HB⟩ := hrel
            have hl3_1 := (Kd.R_reads' HO_3.out).1
            rw [hl3_1] at HO_3
            (try simp only [hl3_1])
            cases gk with
            | zero => exact absurd HA.out (by simp [attestorref26_Reach.l0])
            | succ k1 =>
              have H := HA.out
              clear HA
              simp only [attestorref26_Reach.l0] at H
              by_cases c14 : x4_1 ≤ (l0.length : Int)
              · rw [if_pos c14] at H
                have c14b0 : decide (x4_1 ≤ (l0.length : Int)) = true := decide_eq_true c14
                (try simp only [hl3_1] at c14b0)
                clear c14
                have H' := Aside0.mk H
                clear H
                go_wp2
                go_loopg [5] k1 (fun kq v5 w' => ∃ (x3_2 : List Bool) (x5_2 : Int), v5 = .int .i64 x5_2 ∧ Aside0 (attestorref26_Reach.l1 kq l0 x3_2 x4_1 x5_2 = some r) ∧ Aside0 (kq ≤ k1) ∧ Aside0 (Kd.R Kd.bool 4 w' w.heap.size (fun _ => True) (.slice (some ⟨go8, 0, none⟩) x3_1.length co8) x3_2) ∧ Aside0 (Below w.heap.size w w'))
                case atStart => exact ⟨(x3_1), (0), (by first | rfl | (simp; done) | (simp [*]; done) | (simp; rfl) | (simp; decide +kernel)), H', ⟨Nat.le_refl _⟩, ⟨by (try simp only [hl3_1]); (with_reducible repeat (first | apply Kd.R_alloc | apply Kd.R_drewN | apply Kd.R_drew)); exact HO_3.out⟩, ⟨by repeat (first | (with_reducible first | exact HB.out | apply below_alloc | apply pw_below_drewN | apply below_drew1) | exact HB.out)⟩⟩
                case round =>
                  clear H'
                  try clear c1
                  try clear c2
                  try clear p2
                  try clear c3
                  try clear c3b0
                  try clear c3b1
                  try clear c5
                  try clear c5b0
                  try clear c5b1
                  try clear c6
                  try clear c6b0
                  try clear c6b1
                  try clear p6
                  try clear c7
                  try clear c7b0
                  try clear c7b1
                  try clear p8
                  try clear q8
                  try clear hx8
                  try clear qi8
                  try clear hf8
                  try clear c14
                  try clear c14b0
                  try clear hx8_0
                  try clear p2
                  try clear p6
                  try clear p8
                  try clear q8
                  obtain ⟨x3_2, x5_2, rfl, HA, HK2, HO_3, HB⟩ := hrel
                  have hl3_2 := (Kd.R_reads' HO_3.out).1
                  rw [hl3_2] at HO_3
                  (try simp only [hl3_2])
                  cases gk with
                  | zero => exact absurd HA.out (by simp [attestorref26_Reach.l1])
                  | succ k2 =>
                    have H := HA.out
                    clear HA
                    simp only [attestorref26_Reach.l1] at H
                    by_cases c15 : x5_2 ≤ (l0.length : Int)
                    · rw [if_pos c15] at H
                      have c15b0 : decide (x5_2 ≤ (l0.length : Int)) = true := decide_eq_true c15
                      (try simp only [hl3_1] at c15b0)
                      (try simp only [hl3_2] at c15b0)
                      clear c15
                      replace H := Option.bind_eq_some_iff.mp H
                      obtain ⟨t305, A160, H⟩ := H
                      replace H : (attestorref26_Reach.l2 k2 l0 x3_2 x4_1 x5_2 t305 0) = some r := H
                      have A16 := Aside0.mk A160
                      clear A160
                      have H' := Aside0.mk H
                      clear H
                      go_wp2_with (first | ((with_reducible refine gate_callee (f := 22) rfl ?_); refine goesL_ (some 31) rfl rfl Tryd.func22 (by kernel_rfl) rfl #[.slice A0 l0.length c0, .int .i64 x5_2] rfl (by (try simp only [List.map_toArray, List.map_cons, List.map_nil]); first | done | rfl | (simp only [List.length_drop, List.length_take]; rfl) | (go_simp; done) | (go_simp; rw [Int.tmod_eq_emod_of_nonneg (by omega)]; omega)) ?_; (with_reducible refine (attestorref26_Next.calls k2 _ _ l0 x5_2 t305 _ ?side1 ?side2 A16.out).mono ?_); (case side1 => repeat (first | exact (Kd.C_below HR0.out HB.out) | (with_reducible refine Kd.C_alloc ?_ _) | (with_reducible refine Kd.C_drewN ?_ _) | (with_reducible refine Kd.C_drew ?_))); (case side2 => exact HC0.out); rintro e w17 ⟨v306, rfl, ho0, hb⟩; refine ⟨_, rfl, ?_⟩; have n0_ := Aside0.mk (Kd.R_below (by (with_reducible repeat (first | apply Kd.R_alloc | apply Kd.R_drewN | apply Kd.R_drew)); exact HO_3.out) hb); have n1_ := Aside0.mk (Kd.R_lower ho0 (below_size (by repeat (first | (with_reducible first | exact HB.out | apply below_alloc | apply pw_below_drewN | apply below_drew1) | exact HB.out)))); have n2_ := Aside0.mk (below_step (by repeat (first | (with_reducible first | exact HB.out | apply below_alloc | apply pw_below_drewN | apply below_drew1) | exact HB.out)) hb); clear HO_3; clear HB; have HO_3 := n0_; have HO307 := n1_; have HB := n2_; clear n0_ n1_ n2_; (try clear hb); (try clear hb2); (try clear hk); (try clear hi); (try clear ho0)))
                      go_loopg [7] k2 (fun kq v7 w' => ∃ (x3_3 : List Bool) (x7_3 : Int), v7 = .int .i64 x7_3 ∧ Aside0 (attestorref26_Reach.l2 kq l0 x3_3 x4_1 x5_2 t305 x7_3 = some r) ∧ Aside0 (kq ≤ k2) ∧ Aside0 (Kd.R Kd.bool 4 w' w.heap.size (fun _ => True) (.slice (some ⟨go8, 0, none⟩) x3_2.length co8) x3_3) ∧ Aside0 (Kd.R (Kd.int .i64) 3 w' w.heap.size (fun _ => True) v306 t305) ∧ Aside0 (Below w.heap.size w w'))
                      case atStart => exact ⟨(x3_2), (0), (by first | rfl | (simp; done) | (simp [*]; done) | (simp; rfl) | (simp; decide +kernel)), H', ⟨Nat.le_refl _⟩, ⟨by (try simp only [hl3_1]); (try simp only [hl3_2]); (with_reducible repeat (first | apply Kd.R_alloc | apply Kd.R_drewN | apply Kd.R_drew)); exact HO_3.out⟩, ⟨by (try simp only [hl3_1]); (try simp only [hl3_2]); (with_reducible repeat (first | apply Kd.R_alloc | apply Kd.R_drewN | apply Kd.R_drew)); exact HO307.out⟩, ⟨by repeat (first | (with_reducible first | exact HB.out | apply below_alloc | apply pw_below_drewN | apply below_drew1) | exact HB.out)⟩⟩
                      case round =>
                        clear H'
                        try clear c1
                        try clear c2
                        try clear p2
                        try clear c3
                        try clear c3b0
                        try clear c3b1
                        try clear c5
                        try clear c5b0
                        try clear c5b1
                        try clear c6
                        try clear c6b0
                        try clear c6b1
                        try clear p6
                        try clear c7
                        try clear c7b0
                        try clear c7b1
                        try clear p8
                        try clear q8
                        try clear hx8
                        try clear qi8
                        try clear hf8
                        try clear c14
                        try clear c14b0
                        try clear c15
                        try clear c15b0
                        try clear c17
                        try clear hx8_0
                        try clear p2
                        try clear p6
                        try clear p8
                        try clear q8
                        obtain ⟨x3_3, x7_3, rfl, HA, HK3, HO_3, HO_6, HB⟩ := hrel
                        have hl3_3 := (Kd.R_reads' HO_3.out).1
                        rw [hl3_3] at HO_3
                        (try simp only [hl3_3])
                        (try simp only [hl3_3] at HO_6)
                        cases gk with
                        | zero => exact absurd HA.out (by simp [attestorref26_Reach.l2])
                        | succ k3 =>
                          have H := HA.out
                          clear HA
                          simp only [attestorref26_Reach.l2] at H
                          by_cases c18 : x7_3 < (t305.length : Int)
                          · rw [if_pos c18] at H
                            have c18b0 : decide (x7_3 < (t305.length : Int)) = true := decide_eq_true c18
                            (try simp only [hl3_1] at c18b0)
                            (try simp only [hl3_2] at c18b0)
                            (try simp only [hl3_3] at c18b0)
                            clear c18
                            by_cases c19 : 0 ≤ x5_2
                            · rw [if_pos c19] at H
                              have c19b0 : decide (0 ≤ x5_2) = true := decide_eq_true c19
                              (try simp only [hl3_1] at c19b0)
                              (try simp only [hl3_2] at c19b0)
                              (try simp only [hl3_3] at c19b0)
                              clear c19
                              by_cases c20 : x5_2 < (x3_3.length : Int)
                              · rw [if_pos c20] at H
                                have c20b0 : decide (x5_2 < (x3_3.length : Int)) = true := decide_eq_true c20
                                (try simp only [hl3_1] at c20b0)
                                (try simp only [hl3_2] at c20b0)
                                (try simp only [hl3_3] at c20b0)
                                clear c20
                                obtain ⟨bq21, hbq21⟩ : ∃ b_ : Bool, b_ = (rdOf false x3_3 x5_2) := ⟨_, rfl⟩
                                replace H : (if bq21 = true then (if 0 ≤ x7_3 then (if 0 ≤ (rd t305 x7_3) then (if (rd t305 x7_3) < (x3_3.length : Int) then (attestorref26_Reach.l2 k3 l0 (x3_3.set ((rd t305 x7_3) : Int).toNat true) x4_1 x5_2 t305 (wrap64 (x7_3 + 1))) else (none)) else (none)) else (none)) else (attestorref26_Reach.l1 k3 l0 x3_3 x4_1 (wrap64 (x5_2 + 1)))) = some r := by rw [← hbq21] at H; exact H
                                have Nbq21 := Aside0.mk hbq21
                                clear hbq21
                                by_cases c22 : bq21 = true
                                · subst c22
                                  have H1 : (if 0 ≤ x7_3 then (if 0 ≤ (rd t305 x7_3) then (if (rd t305 x7_3) < (x3_3.length : Int) then (attestorref26_Reach.l2 k3 l0 (x3_3.set ((rd t305 x7_3) : Int).toNat true) x4_1 x5_2 t305 (wrap64 (x7_3 + 1))) else (none)) else (none)) else (none)) = some r := by rw [if_pos rfl] at H; exact H
                                  clear H
                                  have H := H1
                                  clear H1
                                  by_cases c23 : 0 ≤ x7_3
                                  · rw [if_pos c23] at H
                                    have c23b0 : decide (0 ≤ x7_3) = true := decide_eq_true c23
                                    (try simp only [hl3_1] at c23b0)
                                    (try simp only [hl3_2] at c23b0)
                                    (try simp only [hl3_3] at c23b0)
                                    clear c23
                                    by_cases c24 : 0 ≤ (rd t305 x7_3)
                                    · rw [if_pos c24] at H
                                      have c24b0 : decide (0 ≤ (rd t305 x7_3)) = true := decide_eq_true c24
                                      (try simp only [hl3_1] at c24b0)
                                      (try simp only [hl3_2] at c24b0)
                                      (try simp only [hl3_3] at c24b0)
                                      clear c24
                                      by_cases c25 : (rd t305 x7_3) < (x3_3.length : Int)
                                      · rw [if_pos c25] at H
                                        have c25b0 : decide ((rd t305 x7_3) < (x3_3.length : Int)) = true := decide_eq_true c25
                                        (try simp only [hl3_1] at c25b0)
                                        (try simp only [hl3_2] at c25b0)
                                        (try simp only [hl3_3] at c25b0)
                                        clear c25
                                        obtain ⟨y310, hy310⟩ : ∃ y_ : List Bool, y_ = (x3_3.set ((rd t305 x7_3) : Int).toNat true) := ⟨_, rfl⟩
                                        replace H : (attestorref26_Reach.l2 k3 l0 y310 x4_1 x5_2 t305 (wrap64 (x7_3 + 1))) = some r := by first | (rw [hy310]; with_reducible exact H) | (have H2_ := (Option.bind_some _ _).symm.trans H; rw [hy310]; with_reducible exact H2_) | (have H2_ := (Option.bind_some _ _).symm.trans H; with_reducible exact H2_) | with_reducible exact H | (rw [hy310]; exact H) | exact H
                                        have Ny310 := Aside0.mk hy310
                                        clear hy310
                                        have H' := Aside0.mk H
                                        clear H
                                        obtain ⟨Ao27, co27, eo27⟩ := Kd.R_slice HO_6.out
                                        subst eo27
                                        have p308 : 0 ≤ (x5_2 : Int) := of_decide_eq_true (by first | (with_reducible assumption) | assumption)
                                        have q308 : x5_2 < (x3_3.length : Int) := of_decide_eq_true (by first | (with_reducible assumption) | assumption)
                                        obtain ⟨ad308, e308, hx308_0⟩ := Kd.at_bool (Kd.R_reads' HO_3.out).2.2 x5_2 p308 q308
                                        (try rw [← Nbq21.out] at hx308_0)
                                        obtain rfl : (⟨go8, 0, none⟩ : Addr) = ad308 := (by injection e308)
                                        (first | simp only [add_plain] at hx308_0 | simp only [add_at] at hx308_0 | simp only [Addr.add, Nat.zero_add] at hx308_0 | skip)
                                        replace p308 := eq_true p308
                                        replace q308 := eq_true q308
                                        have p309 : 0 ≤ (x7_3 : Int) := of_decide_eq_true (by first | (with_reducible assumption) | assumption)
                                        have q309 : x7_3 < (t305.length : Int) := of_decide_eq_true (by first | (with_reducible assumption) | assumption)
                                        obtain ⟨ad309, e309, hx309_0⟩ := Kd.at_int (Kd.R_reads' HO_6.out).2.2 x7_3 p309 q309
                                        cases e309
                                        replace p309 := eq_true p309
                                        replace q309 := eq_true q309
                                        have p26 : 0 ≤ ((rd t305 x7_3) : Int) := of_decide_eq_true (by first | (with_reducible assumption) | assumption)
                                        have q26 : ((rd t305 x7_3) : Int) < ((x3_3.length : Int) : Int) := of_decide_eq_true (by first | (with_reducible assumption) | assumption)
                                        obtain ⟨hx26_0, hf26_0⟩ := Kd.R_celln false HO_3.out ((rd t305 x7_3) : Int) p26 q26
                                        replace p26 := eq_true p26
                                        replace q26 := eq_true q26
                                        have HP28 := Kd.R_putg HO_3.out ((rd t305 x7_3) : Int) true
                                        go_wp2_with (first | ((with_reducible refine gate_store (t := 4) (p := 49) rfl ?_); refine store_event (t := 4) (p := 49) (v := ?vo_w29) (w1 := (wr.setCell ⟨go8, ((rd t305 x7_3) : Int).toNat, none⟩ (.bool true))) ?hg ?ho ?hn ?hr ?_; (case ho => rfl); (case hg => rfl); (case hn => rfl); (case hr => first | (go_simp; done) | (go_simp; rfl)); intro w29 hw; have hg : wr.grownBy w29 (some go8) := (by rw [hw]; exact HP28.2); have hp_ : Kd.R Kd.bool 4 w29 w.heap.size (fun _ => True) (.slice (some ⟨go8, 0, none⟩) x3_3.length co8) y310 := (by rw [hw, Ny310.out]; exact HP28.1); clear HP28; have n0_ := Aside0.mk (hp_); have n1_ := Aside0.mk (Kd.R_over' (v := (.slice (some ⟨go8, 0, none⟩) x3_3.length co8)) (by (with_reducible repeat (first | apply Kd.R_alloc | apply Kd.R_drewN | apply Kd.R_drew)); exact HO_6.out) (Kd.R_typed HO_3.out) (by decide) hg); have n2_ := Aside0.mk ((by rw [hw]; exact below_set (HB.out) GB8.out : Below w.heap.size w w29)); clear HO_3; clear HO_6; clear HB; have HO_3 := n0_; have HO_6 := n1_; have HB := n2_; clear n0_ n1_ n2_; clear hg hw hp_))
                                        (try simp only [← hl3_3])
                                        go_roundg k3
                                        case measure => have := HK1.out; have := HK2.out; have := HK3.out; omega
                                        case rel => exact ⟨(y310), (wrap64 (x7_3 + 1)), (by first | rfl | (simp; done) | (simp [*]; done) | (simp; rfl) | (simp; decide +kernel)), H', ⟨by have := HK1.out; have := HK2.out; have := HK3.out; omega⟩, ⟨by (try simp only [hl3_1]); (try simp only [hl3_2]); (try simp only [hl3_3]); (with_reducible repeat (first | apply Kd.R_alloc | apply Kd.R_drewN | apply Kd.R_drew)); exact HO_3.out⟩, ⟨by (try simp only [hl3_1]); (try simp only [hl3_2]); (try simp only [hl3_3]); (with_reducible repeat (first | apply Kd.R_alloc | apply Kd.R_drewN | apply Kd.R_drew)); exact HO_6.out⟩, ⟨by repeat (first | (with_reducible first | exact HB.out | apply below_alloc | apply pw_below_drewN | apply below_drew1) | exact HB.out)⟩⟩
                                      · rw [if_neg c25] at H
                                        exact absurd H (by simp)
                                    · rw [if_neg c24] at H
                                      exact absurd H (by simp)
                                  · rw [if_neg c23] at H
                                    exact absurd H (by simp)
                                · replace c22 := Bool.eq_false_iff.mpr c22
                                  subst c22
                                  have H1 : (attestorref26_Reach.l1 k3 l0 x3_3 x4_1 (wrap64 (x5_2 + 1))) = some r := by rw [if_neg (show ¬ (false = true) by decide)] at H; exact H
                                  clear H
                                  have H := H1
                                  clear H1
                                  have H' := Aside0.mk H
                                  clear H
                                  obtain ⟨Ao30, co30, eo30⟩ := Kd.R_slice HO_6.out
                                  subst eo30
                                  have p308 : 0 ≤ (x5_2 : Int) := of_decide_eq_true (by first | (with_reducible assumption) | assumption)
                                  have q308 : x5_2 < (x3_3.length : Int) := of_decide_eq_true (by first | (with_reducible assumption) | assumption)
                                  obtain ⟨ad308, e308, hx308_0⟩ := Kd.at_bool (Kd.R_reads' HO_3.out).2.2 x5_2 p308 q308
                                  (try rw [← Nbq21.out] at hx308_0)
                                  obtain rfl : (⟨go8, 0, none⟩ : Addr) = ad308 := (by injection e308)
                                  (first | simp only [add_plain] at hx308_0 | simp only [add_at] at hx308_0 | simp only [Addr.add, Nat.zero_add] at hx308_0 | skip)
                                  replace p308 := eq_true p308
                                  replace q308 := eq_true q308
                                  go_wp2
                                  (try simp only [← hl3_2, ← hl3_3])
                                  go_roundg k3
                                  case measure => have := HK1.out; have := HK2.out; have := HK3.out; omega
                                  case rel => exact ⟨(x3_3), (wrap64 (x5_2 + 1)), (by first | rfl | (simp; done) | (simp [*]; done) | (simp; rfl) | (simp; decide +kernel)), H', ⟨by have := HK1.out; have := HK2.out; have := HK3.out; omega⟩, ⟨by (try simp only [hl3_1]); (try simp only [hl3_2]); (try simp only [hl3_3]); (with_reducible repeat (first | apply Kd.R_alloc | apply Kd.R_drewN | apply Kd.R_drew)); exact HO_3.out⟩, ⟨by repeat (first | (with_reducible first | exact HB.out | apply below_alloc | apply pw_below_drewN | apply below_drew1) | exact HB.out)⟩⟩
                              · rw [if_neg c20] at H
                                exact absurd H (by simp)
                            · rw [if_neg c19] at H
                              exact absurd H (by simp)
                          · rw [if_neg c18] at H
                            have c18b0 : decide (x7_3 < (t305.length : Int)) = false := decide_eq_false c18
                            (try simp only [hl3_1] at c18b0)
                            (try simp only [hl3_2] at c18b0)
                            (try simp only [hl3_3] at c18b0)
                            clear c18
                            have H' := Aside0.mk H
                            clear H
                            obtain ⟨Ao31, co31, eo31⟩ := Kd.R_slice HO_6.out
                            subst eo31
                            go_wp2
                            (try simp only [← hl3_2, ← hl3_3])
                            go_roundg k3
                            case measure => have := HK1.out; have := HK2.out; have := HK3.out; omega
                            case rel => exact ⟨(x3_3), (wrap64 (x5_2 + 1)), (by first | rfl | (simp; done) | (simp [*]; done) | (simp; rfl) | (simp; decide +kernel)), H', ⟨by have := HK1.out; have := HK2.out; have := HK3.out; omega⟩, ⟨by (try simp only [hl3_1]); (try simp only [hl3_2]); (try simp only [hl3_3]); (with_reducible repeat (first | apply Kd.R_alloc | apply Kd.R_drewN | apply Kd.R_drew)); exact HO_3.out⟩, ⟨by repeat (first | (with_reducible first | exact HB.out | apply below_alloc | apply pw_below_drewN | apply below_drew1) | exact HB.out)⟩⟩
                    · rw [if_neg c15] at H
                      have c15b0 : decide (x5_2 ≤ (l0.length : Int)) = false := decide_eq_false c15
                      (try simp only [hl3_1] at c15b0)
                      (try simp only [hl3_2] at c15b0)
                      clear c15
                      have H' := Aside0.mk H
                      clear H
                      go_wp2
                      (try simp only [← hl3_1, ← hl3_2])
                      go_roundg k2
                      case measure => have := HK1.out; have := HK2.out; omega
                      case rel => exact ⟨(x3_2), (wrap64 (x4_1 + 1)), (by first | rfl | (simp; done) | (simp [*]; done) | (simp; rfl) | (simp; decide +kernel)), H', ⟨by have := HK1.out; have := HK2.out; omega⟩, ⟨by (try simp only [hl3_1]); (try simp only [hl3_2]); (with_reducible repeat (first | apply Kd.R_alloc | apply Kd.R_drewN | apply Kd.R_drew)); exact HO_3.out⟩, ⟨by repeat (first | (with_reducible first | exact HB.out | apply below_alloc | apply pw_below_drewN | apply below_drew1) | exact HB.out)⟩⟩
              · rw [if_neg c14] at H
                have c14b0 : decide (x4_1 ≤ (l0.length : Int)) = false := decide_eq_false c14
                (try simp only [hl3_1] at c14b0)
                clear c14
                obtain rfl := Option.some.inj H
                go_wp2
                go_ret
                exact ⟨_, by first | rfl | (simp [errW_none, errW_some] <;> rfl) | (simp only [← hji4]; first | rfl | (simp [errW_none, errW_some] <;> rfl)) | (simp [*, errW_none, errW_some] <;> rfl), by (with_reducible repeat (first | apply Kd.R_alloc | apply Kd.R_drewN | apply Kd.R_drew)); exact HO_3.out, by repeat (first | (with_reducible first | exact HB.out | apply below_alloc | apply pw_below_drewN | apply below_drew1) | exact HB.out)⟩
        · rw [if_neg c7] at H
          exact absurd H (by simp)
      · rw [if_neg c6] at H
        exact absurd H (by simp)
    · rw [if_neg c5] at H
      exact absurd H (by simp)
  · rw [if_neg c3] at H
    have c3b0 : (t300 == 0) = false := beq_eq_false_iff_ne.mpr c3
    have c3b1 : (t300 != 0) = true := bne_iff_ne.mpr c3
    obtain rfl := Option.some.inj H
    go_enter Tryd.func24, Tryd.ntmps24
    go_wp2_with (first | ((with_reducible refine gate_callee (f := 17) rfl ?_); refine goesL_ (some 9) rfl rfl Tryd.func17 (by kernel_rfl) rfl #[.slice A0 l0.length c0] rfl (by (try simp only [List.map_toArray, List.map_cons, List.map_nil]); first | done | rfl | (simp only [List.length_drop, List.length_take]; rfl) | (go_simp; done) | (go_simp; rw [Int.tmod_eq_emod_of_nonneg (by omega)]; omega)) ?_; (with_reducible refine (attestorref26_Valid.calls k _ _ l0 t300 _ ?side1 ?side2 A2.out).mono ?_); (case side1 => repeat (first | exact HR0.out | (with_reducible refine Kd.C_alloc ?_ _) | (with_reducible refine Kd.C_drewN ?_ _) | (with_reducible refine Kd.C_drew ?_))); (case side2 => exact HC0.out); rintro e w32 ⟨rfl, hb⟩; refine ⟨_, rfl, ?_⟩; have n0_ := Aside0.mk (below_step (by repeat (first | (with_reducible first | exact HB.out | apply below_alloc | apply pw_below_drewN | apply below_drew1) | exact HB.out)) hb); clear HB; have HB := n0_; clear n0_; (try clear hb); (try clear hb2); (try clear hk); (try clear hi)))
    go_ret
    exact ⟨_, by first | rfl | (simp [errW_none, errW_some] <;> rfl) | (simp [*, errW_none, errW_some] <;> rfl), by first | exact Kd.R_nil _ _ _ _ _ | exact Kd.N_nil _ _ _ _ _ | exact Kd.V_nil _ _ _ _ _ | exact Kd.Q_nil _ _ _ _ _ | exact Kd.S_nil _ _ _ _ _, by repeat (first | (with_reducible first | exact HB.out | apply below_alloc | apply pw_below_drewN | apply below_drew1) | exact HB.out)⟩

end Go.Proofs.YtamjeglenbokfaaDoor.Q
end
section
namespace Go.Proofs.YtamjeglenbokfaaDoor.Q
open Go.RowKit Go.Proofs.YtamjeglenbokfaaDoorW.PrintWords Go.Proofs.YtamjeglenbokfaaDoorW.PrintLast Go.Proofs.YtamjeglenbokfaaDoorW.PrintMore
set_option linter.unusedVariables false
set_option linter.unusedSimpArgs false
open Go.Proofs.YtamjeglenbokfaaDoor.Dfs (vis R turn swp swps)
def sc (l : List S37) (y : Int) : List Int := nxl (fet l y) y
theorem sc_range {l : List S37} (hP : okP l) : ∀ y : Int, 0 ≤ y → y < ((l.length + 1 : Nat) : Int) → ∀ z ∈ sc l y, 0 ≤ z ∧ z < ((l.length + 1 : Nat) : Int) := by
  intro y h0 h1 z hz
  have := nxl_range hP y h0 (by omega) z hz
  omega
theorem sc_length (l : List S37) (y : Int) : (sc l y).length ≤ 2 := by
  unfold sc nxl
  repeat' split
  all_goals first | exact Nat.le_succ 1 | exact Nat.le_refl 2
theorem foldM_len (f : List Bool → Int → Option (List Bool)) (hf : ∀ s x t, f s x = some t → t.length = s.length) : ∀ (L : List Int) (s t : List Bool), L.foldlM f s = some t → t.length = s.length
  | [], s, t, h => by injection h with h; rw [h]
  | a :: L, s, t, h => by
    rw [List.foldlM_cons] at h
    obtain ⟨u, h1, h2⟩ := Option.bind_eq_some_iff.mp h
    exact (foldM_len f hf L u t h2).trans (hf _ _ _ h1)
theorem vis_len (g : Int → List Int) : ∀ (k : Nat) (s : List Bool) (x : Int) (t : List Bool), vis g k s x = some t → t.length = s.length
  | 0, s, x, t, h => absurd h (by simp [vis])
  | k + 1, s, x, t, h => by
    rw [vis] at h
    by_cases c : Dfs.mk s x = true
    · rw [if_pos c] at h; injection h with h; rw [h]
    · rw [if_neg c] at h
      exact (foldM_len _ (vis_len g k) _ _ _ h).trans List.length_set
theorem drop_cons {ts rest : List Int} {j : Nat} {a : Int} (h : ts.drop j = a :: rest) : j < ts.length ∧ rd ts (j : Int) = a ∧ ts.drop (j + 1) = rest := by
  have hj : j < ts.length := by
    rcases Nat.lt_or_ge j ts.length with q | q
    · exact q
    · rw [List.drop_eq_nil_of_le q] at h; exact absurd h (by simp)
  rw [List.drop_eq_getElem_cons hj] at h
  injection h with h1 h2
  refine ⟨hj, ?_, h2⟩
  unfold rd
  rw [show ((j : Nat) : Int).toNat = j from rfl, List.getD_eq_getElem?_getD, List.getElem?_eq_getElem hj]
  exact h1
theorem drop_nil {ts : List Int} {j : Nat} (h : ts.drop j = []) : ts.length ≤ j := List.drop_eq_nil_iff.mp h
theorem jlt {j m : Nat} (h : j < m) : (j : Int) < (m : Int) := Int.ofNat_lt.2 h
theorem jge {j m : Nat} (h : m ≤ j) : ¬ (j : Int) < (m : Int) := fun q => Nat.not_lt.2 h (Int.ofNat_lt.1 q)
theorem v_of_vis {l : List S37} (hP : okP l) (hn : l.length ≤ 40) : ∀ (k : Nat) (s : List Bool) (x : Int) (t : List Bool), s.length = l.length + 1 → 0 ≤ x → x < ((l.length + 1 : Nat) : Int) → vis (sc l) k s x = some t → ∀ K : Nat, 5 * k + 5 ≤ K → isa_Reach.v K l s x = some t := by
  intro k
  induction k with
  | zero => intro s x t _ _ _ h; exact absurd h (by simp [vis])
  | succ k ih =>
    have fold : ∀ (ts rest : List Int) (j : Nat) (s t : List Bool), ts.drop j = rest → ts.length ≤ 2 → (∀ y ∈ rest, 0 ≤ y ∧ y < ((l.length + 1 : Nat) : Int)) → s.length = l.length + 1 → rest.foldlM (fun t y => vis (sc l) k t y) s = some t → ∀ K : Nat, 5 * k + 5 + rest.length + 1 ≤ K → isa_Reach.lp K l ts (j : Int) s = some t := by
      intro ts rest
      induction rest with
      | nil =>
        intro j s t hd _ _ _ h K hK
        obtain ⟨K, rfl⟩ : ∃ q, K = q + 1 := ⟨K - 1, by omega⟩
        rw [isa_Reach.lp, if_neg (jge (drop_nil hd))]
        exact h
      | cons a rest ihr =>
        intro j s t hd h2 hr hs h K hK
        obtain ⟨hj, hra, hd'⟩ := drop_cons hd
        obtain ⟨K, rfl⟩ : ∃ q, K = q + 1 := ⟨K - 1, by omega⟩
        rw [List.foldlM_cons] at h
        obtain ⟨u, h1, h3⟩ := Option.bind_eq_some_iff.mp h
        rw [List.length_cons] at hK
        have ha := hr a (by simp)
        have hu := ih s a u hs ha.1 ha.2 h1 K (by omega)
        rw [isa_Reach.lp, if_pos (jlt hj), if_pos (Int.natCast_nonneg _), hra, wrs hj (by omega)]
        exact bnd hu (ihr (j + 1) u t hd' h2 (fun y hy => hr y (by simp [hy])) ((vis_len _ _ _ _ _ h1).trans hs) h3 K (by omega))
    intro s x t hs h0 h1 h K hK
    obtain ⟨K, rfl⟩ : ∃ q, K = q + 2 := ⟨K - 2, by omega⟩
    rw [vis] at h
    rw [isa_Reach.v, if_pos h0, if_pos (by rw [hs]; exact h1)]
    by_cases c : Dfs.mk s x = true
    · rw [if_pos c] at h
      rw [if_pos (show rdOf false s x = true from c)]
      exact h
    · rw [if_neg c] at h
      rw [if_neg (show ¬ rdOf false s x = true from c)]
      obtain ⟨⟨_, _, _, w3⟩, _⟩ := fet_ok hP x
      refine bnd (after_f l x K h0 (by omega) hn w3) ?_
      exact fold (sc l x) (sc l x) 0 _ t rfl (sc_length l x) (sc_range hP x h0 h1) (by rw [List.length_set]; exact hs) h (K + 1) (by have := sc_length l x; omega)
theorem wl {m : Nat} (h : m ≤ 40) : wrap64 ((m : Int) + 1) = ((m + 1 : Nat) : Int) := by unfold wrap64; omega
theorem reach_f (l : List S37) (hw : ∀ i ∈ l, wfI i) (hn : l.length ≤ 40) (K : Nat) (hK : 300 ≤ K) : ∃ t, isa_Reach.f K l = some t ∧ (okP l → t.length = l.length + 1 ∧ ∀ y : Int, 0 ≤ y → y < ((l.length + 1 : Nat) : Int) → (Dfs.mk t y = true ↔ R (sc l) 0 y)) ∧ (¬ okP l → t = []) := by
  obtain ⟨e, hE, _, hE2⟩ := valid_same l hw hn K (by omega)
  unfold isa_Reach.f
  by_cases he : e = 0
  · have hP := hE2.1 he
    obtain ⟨t, h1, h2, h3⟩ := Dfs.vis_zero (sc l) (l.length + 1) (Nat.succ_pos _) (sc_range hP) (l.length + 2) (Nat.lt_succ_self _)
    refine ⟨t, ?_, fun _ => ⟨h2, h3⟩, fun q => absurd hP q⟩
    refine bnd hE ((if_pos he).trans ?_)
    rw [wl hn, if_pos (Int.natCast_nonneg _), Int.toNat_natCast, if_pos (show l.length + 1 ≤ 281474976710656 by omega)]
    exact v_of_vis hP hn (l.length + 2) _ 0 t (by simp) (by omega) (by omega) h1 K (by omega)
  · exact ⟨[], bnd hE (if_neg he), fun q => absurd (hE2.2 q) he, fun _ => rfl⟩
theorem r_l2 {l : List S37} (hP : okP l) (hn : l.length ≤ 40) (c : Int) (a : Nat) (ha : a < l.length + 1) (B : Nat) (r : List Bool) (ts : List Int) (h2 : ts.length ≤ 2) : ∀ (rest : List Int) (j : Nat) (s : List Bool), ts.drop j = rest → (∀ y ∈ rest, 0 ≤ y ∧ y < ((l.length + 1 : Nat) : Int)) → s.length = l.length + 1 → Dfs.mk s (a : Int) = true → (∀ K, B ≤ K → attestorref26_Reach.l1 K l (rest.foldl (fun t z => t.set z.toNat true) s) c ((a + 1 : Nat) : Int) = some r) → ∀ K, B + rest.length + 1 ≤ K → attestorref26_Reach.l2 K l s c (a : Int) ts (j : Int) = some r := by
  intro rest
  induction rest with
  | nil =>
    intro j s hd _ hs _ h K hK
    obtain ⟨K, rfl⟩ : ∃ q, K = q + 1 := ⟨K - 1, by omega⟩
    rw [attestorref26_Reach.l2, if_neg (jge (drop_nil hd)), wrs ha (by omega)]
    exact h K (by simpa using hK)
  | cons b rest ih =>
    intro j s hd hr hs hm h K hK
    obtain ⟨hj, hra, hd'⟩ := drop_cons hd
    obtain ⟨K, rfl⟩ : ∃ q, K = q + 1 := ⟨K - 1, by omega⟩
    rw [List.length_cons] at hK
    have hb := hr b (by simp)
    rw [attestorref26_Reach.l2, if_pos (jlt hj), if_pos (Int.natCast_nonneg _), if_pos (by rw [hs]; exact jlt ha), if_pos (show rdOf false s (a : Int) = true from hm), if_pos (Int.natCast_nonneg _), hra, if_pos hb.1, if_pos (by rw [hs]; exact hb.2), wrs hj (by omega)]
    refine ih (j + 1) (s.set b.toNat true) hd' (fun y hy => hr y (by simp [hy])) (by rw [List.length_set]; exact hs) ?_ (fun K hK => h K hK) K (by omega)
    exact (Dfs.mk_set (by omega) hb.1 (Int.natCast_nonneg _)).2 (Or.inr hm)
theorem r_l1 (l : List S37) (hw : ∀ i ∈ l, wfI i) (hn : l.length ≤ 40) (hP : okP l) (c : Nat) (hc : c < l.length + 1) (B : Nat) (hB : 50 ≤ B) (r : List Bool) : ∀ (d a : Nat) (s : List Bool), a + d = l.length + 1 → s.length = l.length + 1 → (∀ K, B ≤ K → attestorref26_Reach.l0 K l (swp (sc l) d a s) ((c + 1 : Nat) : Int) = some r) → ∀ K, B + 5 * d + 1 ≤ K → attestorref26_Reach.l1 K l s (c : Int) (a : Int) = some r := by
  intro d
  induction d with
  | zero =>
    intro a s had hs h K hK
    obtain ⟨K, rfl⟩ : ∃ q, K = q + 1 := ⟨K - 1, by omega⟩
    rw [attestorref26_Reach.l1, if_neg (by omega), wrs hc (by omega)]
    exact h K (by omega)
  | succ d ih =>
    intro a s had hs h K hK
    obtain ⟨K, rfl⟩ : ∃ q, K = q + 1 := ⟨K - 1, by omega⟩
    obtain ⟨ts, _, hN, hT, hE⟩ := next_all l hw hn (a : Int) K (by omega)
    have hts : ts = sc l (a : Int) := hE hP (by omega) (by omega)
    rw [attestorref26_Reach.l1, if_pos (by omega)]
    refine bnd hN ?_
    have hr := sc_range hP (a : Int) (by omega) (by omega)
    rw [← hts] at hr
    have key : ∀ K, B + 5 * d + 1 ≤ K → attestorref26_Reach.l1 K l (turn (sc l) s (a : Int)) (c : Int) ((a + 1 : Nat) : Int) = some r := by
      refine ih (a + 1) _ (by omega) ?_ h
      unfold turn
      split
      · rw [Dfs.set_len]; exact hs
      · exact hs
    by_cases hm : Dfs.mk s (a : Int) = true
    · refine r_l2 hP hn (c : Int) a (by omega) (B + 5 * d + 1) r ts hT ts 0 s rfl hr hs hm ?_ K (by omega)
      intro K hK
      have := key K hK
      unfold turn at this
      rw [if_pos hm, ← hts] at this
      exact this
    · obtain ⟨K, rfl⟩ : ∃ q, K = q + 1 := ⟨K - 1, by omega⟩
      have := key K (by omega)
      unfold turn at this
      rw [if_neg hm] at this
      rw [attestorref26_Reach.l2, wrs (show a < l.length + 1 by omega) (by omega)]
      refine iteb (fun _ => ?_) (fun _ => this)
      rw [if_pos (Int.natCast_nonneg _), if_pos (by rw [hs]; exact jlt (by omega)), if_neg (show ¬ rdOf false s (a : Int) = true from hm)]
      exact this
theorem r_l0 (l : List S37) (hw : ∀ i ∈ l, wfI i) (hn : l.length ≤ 40) (hP : okP l) : ∀ (d c : Nat) (s : List Bool), c + d = l.length + 1 → s.length = l.length + 1 → ∀ K, 51 + 300 * d ≤ K → attestorref26_Reach.l0 K l s (c : Int) = some (swps (sc l) (l.length + 1) d s) := by
  intro d
  induction d with
  | zero =>
    intro c s hcd hs K hK
    obtain ⟨K, rfl⟩ : ∃ q, K = q + 1 := ⟨K - 1, by omega⟩
    rw [attestorref26_Reach.l0, if_neg (by omega)]
    rfl
  | succ d ih =>
    intro c s hcd hs K hK
    obtain ⟨K, rfl⟩ : ∃ q, K = q + 1 := ⟨K - 1, by omega⟩
    rw [attestorref26_Reach.l0, if_pos (by omega)]
    refine r_l1 l hw hn hP c (by omega) (51 + 300 * d) (by omega) _ (l.length + 1) 0 s (Nat.zero_add _) hs (fun K hK => ?_) K (by omega)
    exact ih (c + 1) _ (by omega) ((Dfs.swp_len (sc l) (l.length + 1) (sc_range hP) _ _ _).trans hs) K hK
set_option maxRecDepth 100000 in
theorem rreach_f (l : List S37) (hw : ∀ i ∈ l, wfI i) (hn : l.length ≤ 40) (K : Nat) (hK : 13000 ≤ K) : ∃ t, attestorref26_Reach.f K l = some t ∧ (okP l → t.length = l.length + 1 ∧ ∀ y : Int, 0 ≤ y → y < ((l.length + 1 : Nat) : Int) → (Dfs.mk t y = true ↔ R (sc l) 0 y)) ∧ (¬ okP l → t = []) := by
  have hK2 : 51 + 300 * (l.length + 1) ≤ K := by omega
  obtain ⟨e, _, hE, hE2⟩ := valid_same l hw hn K (by omega)
  unfold attestorref26_Reach.f
  by_cases he : e = 0
  · have hP := hE2.1 he
    obtain ⟨h2, h3⟩ := Dfs.swps_zero (sc l) (l.length + 1) (sc_range hP) (Nat.succ_pos _) _ rfl
    refine ⟨_, ?_, fun _ => ⟨h2, h3⟩, fun q => absurd hP q⟩
    refine bnd hE ((if_pos he).trans ?_)
    rw [wl hn, if_pos (Int.natCast_nonneg _), Int.toNat_natCast, if_pos (show l.length + 1 ≤ 281474976710656 by omega)]
    refine bnd rfl ?_
    rw [if_pos (by rw [List.length_replicate]; omega)]
    exact r_l0 l hw hn hP (l.length + 1) 0 _ (Nat.zero_add _) (by rw [List.length_set, List.length_replicate]) K hK2
  · exact ⟨[], bnd hE (if_neg he), fun q => absurd (hE2.2 q) he, fun _ => rfl⟩
theorem marks_ext {n : Nat} {s t : List Bool} (hs : s.length = n) (ht : t.length = n) (h : ∀ y : Int, 0 ≤ y → y < (n : Int) → (Dfs.mk s y = true ↔ Dfs.mk t y = true)) : s = t := by
  apply List.ext_getElem (hs.trans ht.symm)
  intro i h1 h2
  have := h (i : Int) (Int.natCast_nonneg _) (by omega)
  unfold Dfs.mk at this
  rw [Int.toNat_natCast, List.getD_eq_getElem?_getD, List.getD_eq_getElem?_getD, List.getElem?_eq_getElem h1, List.getElem?_eq_getElem h2] at this
  simp only [Option.getD_some] at this
  cases hsi : s[i] <;> cases hti : t[i] <;> simp_all
set_option maxRecDepth 100000 in
theorem reach_both (l : List S37) (hw : ∀ i ∈ l, wfI i) (hn : l.length ≤ 40) (K : Nat) (hK : 13000 ≤ K) : ∃ t, isa_Reach.f K l = some t ∧ attestorref26_Reach.f K l = some t ∧ t.length ≤ 41 := by
  obtain ⟨t, h1, h2, h3⟩ := reach_f l hw hn K (by omega)
  obtain ⟨u, g1, g2, g3⟩ := rreach_f l hw hn K hK
  by_cases hP : okP l
  · obtain ⟨a1, a2⟩ := h2 hP
    obtain ⟨b1, b2⟩ := g2 hP
    have e : t = u := marks_ext a1 b1 (fun y h0 h1 => (a2 y h0 h1).trans (b2 y h0 h1).symm)
    exact ⟨t, h1, by rw [e]; exact g1, by omega⟩
  · rw [h3 hP] at h1
    rw [g3 hP] at g1
    exact ⟨[], h1, g1, Nat.zero_le _⟩
end Go.Proofs.YtamjeglenbokfaaDoor.Q
end
section
namespace Go.Proofs.YtamjeglenbokfaaDoor.Q
open Go.RowKit Go.Proofs.YtamjeglenbokfaaDoorW.PrintWords Go.Proofs.YtamjeglenbokfaaDoorW.PrintLast Go.Proofs.YtamjeglenbokfaaDoorW.PrintMore
attribute [local go_sem] max2_int min2_int max_two min_two max_three min_three max_four min_four   -- for this text's walks alone
set_option linter.unusedVariables false
set_option linter.unusedSimpArgs false

/-! ### attestorlaw26_places: function 20 -/
def attestorlaw26_places.l0 : Nat → List Int → List Int → Int → Option (Bool)
  | 0, _, _, _ => none
  | k + 1, x0, x1, x5 => if x5 < (x0.length : Int) then (if 0 ≤ x5 then (if x5 < (x1.length : Int) then (if (rd x0 x5) = (rd x1 x5) then (attestorlaw26_places.l0 k x0 x1 (wrap64 (x5 + 1))) else (some false)) else (none)) else (none)) else (some true)
def attestorlaw26_places.f (k : Nat) (l0 : List Int) (l1 : List Int) : Option (Bool) := if (l0.length : Int) = (l1.length : Int) then (attestorlaw26_places.l0 k l0 l1 0) else (some false)
theorem attestorlaw26_places.mono_l : ∀ k, (∀ y0 y1 y2, LeO (attestorlaw26_places.l0 k y0 y1 y2) (attestorlaw26_places.l0 (k + 1) y0 y1 y2))
  | 0 => fun _ _ _ r h => by simp [attestorlaw26_places.l0] at h
  | k + 1 => by
    have ih0 := attestorlaw26_places.mono_l k
    · intro y0 y1 y2
      unfold attestorlaw26_places.l0
      repeat' first
      | (with_reducible exact ih0 _ _ _)
      | (with_reducible exact LeO.refl _)
      | (with_reducible exact LeO.none _)
      | (with_reducible refine LeO.ite ?_ ?_)
      | (with_reducible refine LeO.bind ?_ (fun _ => ?_))
      | exact ih0 _ _ _
      | exact LeO.none _
      | refine LeO.ite ?_ ?_
      | refine LeO.bind ?_ (fun _ => ?_)
theorem attestorlaw26_places.mono : ∀ a0 a1 k, LeO (attestorlaw26_places.f k a0 a1) (attestorlaw26_places.f (k + 1) a0 a1) := by
  intro a0 a1 k
  have ih0 := attestorlaw26_places.mono_l k
  unfold attestorlaw26_places.f
  repeat' first
      | (with_reducible exact ih0 _ _ _)
      | (with_reducible exact LeO.refl _)
      | (with_reducible exact LeO.none _)
      | (with_reducible refine LeO.ite ?_ ?_)
      | (with_reducible refine LeO.bind ?_ (fun _ => ?_))
      | exact ih0 _ _ _
      | exact LeO.none _
      | refine LeO.ite ?_ ?_
      | refine LeO.bind ?_ (fun _ => ?_)
set_option maxHeartbeats 8000000 in
set_option maxRecDepth 100000 in
theorem attestorlaw26_places.calls (k : Nat) (A0 : Option Addr) (c0 : Nat) (l0 : List Int) (A1 : Option Addr) (c1 : Nat) (l1 : List Int) (r : Bool) (w : World) (hr0 : Kd.C (Kd.int .i64) w A0 l0.length l0) (hc0 : l0.length ≤ c0) (hr1 : Kd.C (Kd.int .i64) w A1 l1.length l1) (hc1 : l1.length ≤ c1) (h : attestorlaw26_places.f k l0 l1 = some r) :
    Calls Tryd.prog 20 #[.slice A0 l0.length c0, .slice A1 l1.length c1] w fun e w' => e = .returned (.bool r) ∧ Drawn0 w w' := by
  have HR0 := Aside0.mk hr0
  have HC0 := Aside0.mk hc0
  clear hr0 hc0
  have HR1 := Aside0.mk hr1
  have HC1 := Aside0.mk hc1
  clear hr1 hc1
  have H : (if (l0.length : Int) = (l1.length : Int) then (attestorlaw26_places.l0 k l0 l1 0) else (some false)) = some r := h
  clear h
  by_cases c3 : (l0.length : Int) = (l1.length : Int)
  · rw [if_pos c3] at H
    have c3b0 : ((l0.length : Int) == (l1.length : Int)) = true := beq_iff_eq.mpr c3
    have c3b1 : ((l0.length : Int) != (l1.length : Int)) = false := bne_eq_false_iff_eq.mpr c3
    have c3b2 : (l0.length == l1.length) = true := by first | simpa using c3 | (simp at c3 ⊢; omega)
    clear c3
    have H' := Aside0.mk H
    clear H
    go_enter Tryd.func20, Tryd.ntmps20
    go_wp2
    repeat (go_quiet (fail); try go_wp2)
    go_loopg [5] k (fun kq v5 w' => ∃ (x5_1 : Int), v5 = .int .i64 x5_1 ∧ Aside0 (attestorlaw26_places.l0 kq l0 l1 x5_1 = some r) ∧ Aside0 (kq ≤ k) ∧ Drawn0 w w')
    case atStart => exact ⟨(0), (by first | rfl | (simp; done) | (simp [*]; done) | (simp; rfl) | (simp; decide +kernel)), H', ⟨Nat.le_refl _⟩, by repeat (first | exact Drawn0.refl _ | apply Drawn0.step)⟩
    case round =>
      clear H'
      try clear c1
      try clear c2
      try clear p2
      try clear c3
      try clear c3b0
      try clear c3b1
      try clear c3b2
      obtain ⟨x5_1, rfl, HA, HK1, ⟨m1, rfl⟩⟩ := hrel
      cases gk with
      | zero => exact absurd HA.out (by simp [attestorlaw26_places.l0])
      | succ k1 =>
        have H := HA.out
        clear HA
        simp only [attestorlaw26_places.l0] at H
        by_cases c4 : x5_1 < (l0.length : Int)
        · rw [if_pos c4] at H
          have c4b0 : decide (x5_1 < (l0.length : Int)) = true := decide_eq_true c4
          clear c4
          by_cases c5 : 0 ≤ x5_1
          · rw [if_pos c5] at H
            have c5b0 : decide (0 ≤ x5_1) = true := decide_eq_true c5
            clear c5
            by_cases c6 : x5_1 < (l1.length : Int)
            · rw [if_pos c6] at H
              have c6b0 : decide (x5_1 < (l1.length : Int)) = true := decide_eq_true c6
              clear c6
              by_cases c7 : (rd l0 x5_1) = (rd l1 x5_1)
              · rw [if_pos c7] at H
                have c7b0 : ((rd l0 x5_1) == (rd l1 x5_1)) = true := beq_iff_eq.mpr c7
                have c7b1 : ((rd l0 x5_1) != (rd l1 x5_1)) = false := bne_eq_false_iff_eq.mpr c7
                clear c7
                have H' := Aside0.mk H
                clear H
                have p280 : 0 ≤ (x5_1 : Int) := of_decide_eq_true (by first | (with_reducible assumption) | assumption)
                have q280 : x5_1 < (l0.length : Int) := of_decide_eq_true (by first | (with_reducible assumption) | assumption)
                obtain ⟨ad280, e280, hx280_0⟩ := Kd.at_int HR0.out x5_1 p280 q280
                cases e280
                replace p280 := eq_true p280
                replace q280 := eq_true q280
                have p281 : 0 ≤ (x5_1 : Int) := of_decide_eq_true (by first | (with_reducible assumption) | assumption)
                have q281 : x5_1 < (l1.length : Int) := of_decide_eq_true (by first | (with_reducible assumption) | assumption)
                obtain ⟨ad281, e281, hx281_0⟩ := Kd.at_int HR1.out x5_1 p281 q281
                cases e281
                replace p281 := eq_true p281
                replace q281 := eq_true q281
                go_wp2
                repeat (go_quiet (fail); try go_wp2)
                go_roundg k1
                case measure => have := HK1.out; omega
                case rel => exact ⟨(wrap64 (x5_1 + 1)), (by first | rfl | (simp; done) | (simp [*]; done) | (simp; rfl) | (simp; decide +kernel)), H', ⟨by have := HK1.out; omega⟩, by repeat (first | exact Drawn0.refl _ | apply Drawn0.step)⟩
              · rw [if_neg c7] at H
                have c7b0 : ((rd l0 x5_1) == (rd l1 x5_1)) = false := beq_eq_false_iff_ne.mpr c7
                have c7b1 : ((rd l0 x5_1) != (rd l1 x5_1)) = true := bne_iff_ne.mpr c7
                obtain rfl := Option.some.inj H
                have p280 : 0 ≤ (x5_1 : Int) := of_decide_eq_true (by first | (with_reducible assumption) | assumption)
                have q280 : x5_1 < (l0.length : Int) := of_decide_eq_true (by first | (with_reducible assumption) | assumption)
                obtain ⟨ad280, e280, hx280_0⟩ := Kd.at_int HR0.out x5_1 p280 q280
                cases e280
                replace p280 := eq_true p280
                replace q280 := eq_true q280
                have p281 : 0 ≤ (x5_1 : Int) := of_decide_eq_true (by first | (with_reducible assumption) | assumption)
                have q281 : x5_1 < (l1.length : Int) := of_decide_eq_true (by first | (with_reducible assumption) | assumption)
                obtain ⟨ad281, e281, hx281_0⟩ := Kd.at_int HR1.out x5_1 p281 q281
                cases e281
                replace p281 := eq_true p281
                replace q281 := eq_true q281
                go_wp2
                repeat (go_quiet (fail); try go_wp2)
                go_ret
                exact ⟨by first | rfl | (simp; done) | (simp [*]; done), by repeat (first | exact Drawn0.refl _ | apply Drawn0.step)⟩
            · rw [if_neg c6] at H
              exact absurd H (by simp)
          · rw [if_neg c5] at H
            exact absurd H (by simp)
        · rw [if_neg c4] at H
          have c4b0 : decide (x5_1 < (l0.length : Int)) = false := decide_eq_false c4
          clear c4
          obtain rfl := Option.some.inj H
          go_wp2
          repeat (go_quiet (fail); try go_wp2)
          go_ret
          exact ⟨by first | rfl | (simp; done) | (simp [*]; done), by repeat (first | exact Drawn0.refl _ | apply Drawn0.step)⟩
  · rw [if_neg c3] at H
    have c3b0 : ((l0.length : Int) == (l1.length : Int)) = false := beq_eq_false_iff_ne.mpr c3
    have c3b1 : ((l0.length : Int) != (l1.length : Int)) = true := bne_iff_ne.mpr c3
    have c3b2 : (l0.length == l1.length) = false := by first | simpa using c3 | (simp at c3 ⊢; omega)
    obtain rfl := Option.some.inj H
    go_enter Tryd.func20, Tryd.ntmps20
    go_wp2
    repeat (go_quiet (fail); try go_wp2)
    go_ret
    exact ⟨by first | rfl | (simp; done) | (simp [*]; done), by repeat (first | exact Drawn0.refl _ | apply Drawn0.step)⟩

end Go.Proofs.YtamjeglenbokfaaDoor.Q
end
section
namespace Go.Proofs.YtamjeglenbokfaaDoor.Q
open Go.RowKit Go.Proofs.YtamjeglenbokfaaDoorW.PrintWords Go.Proofs.YtamjeglenbokfaaDoorW.PrintLast Go.Proofs.YtamjeglenbokfaaDoorW.PrintMore
attribute [local go_sem] max2_int min2_int max_two min_two max_three min_three max_four min_four   -- for this text's walks alone
set_option linter.unusedVariables false
set_option linter.unusedSimpArgs false

theorem eqA37 (d : Nat) (w : World) (x0 y0 : Int) (x1 y1 : Int) (x2 y2 : Int) (x3 y3 : Int) :
    (Op.equalIn (d + 2) 37 (.agg #[.int .u8 x0, .int .u8 x1, .int .u8 x2, .int .u8 x3]) (.agg #[.int .u8 y0, .int .u8 y1, .int .u8 y2, .int .u8 y3])).run Tryd.prog w = .ok (x0 == y0 && (x1 == y1 && (x2 == y2 && (x3 == y3)))) w := by
  refine eqA_of Tryd.underlying37 (by kernel_rfl) ?_
  refine eqf_cons (by rfl) (by go_simp; rfl) (by go_simp; rfl) (by go_simp) ?_
  refine eqf_cons (by rfl) (by go_simp; rfl) (by go_simp; rfl) (by go_simp) ?_
  refine eqf_cons (by rfl) (by go_simp; rfl) (by go_simp; rfl) (by go_simp) ?_
  exact eqf_last (by rfl) (by go_simp; rfl) (by go_simp; rfl) (by go_simp)
end Go.Proofs.YtamjeglenbokfaaDoor.Q
end
section
namespace Go.Proofs.YtamjeglenbokfaaDoor.Q
open Go.RowKit Go.Proofs.YtamjeglenbokfaaDoorW.PrintWords Go.Proofs.YtamjeglenbokfaaDoorW.PrintLast Go.Proofs.YtamjeglenbokfaaDoorW.PrintMore
attribute [local go_sem] max2_int min2_int max_two min_two max_three min_three max_four min_four   -- for this text's walks alone
set_option linter.unusedVariables false
set_option linter.unusedSimpArgs false

attribute [local go_sem high] eqA37
/-! ### attestorlaw26_IsaValids: function 6 -/
mutual
def attestorlaw26_IsaValids.l0 : Nat → List (S37) → Int → Int → Option (Bool)
  | 0, _, _, _ => none
  | k + 1, x0, x1, x5 => if x5 ≤ (wrap64 ((x0.length : Int) + 2)) then (if x5 = (-2) then (attestorlaw26_IsaValids.j1 k x0 x1 x5 x1) else (attestorlaw26_IsaValids.j1 k x0 x1 x5 x5)) else ((isa_Reach.f k x0).bind fun t331 => ((attestorref26_Reach.f k x0).bind fun t334 => (if (t331.length : Int) = (t334.length : Int) then (attestorlaw26_IsaValids.l1 k t331 t334 0) else (none))))
def attestorlaw26_IsaValids.j1 : Nat → List (S37) → Int → Int → Int → Option (Bool)
  | 0, _, _, _, _ => none
  | k + 1, x0, x1, x5, x6 => (isa_Fetch.f x0 x6).bind fun bt316 => ((attestorref26_Fetch.f x0 x6).bind fun bt320 => (if (!(bt316.1 == bt320.1) || (!(bt316.2.1 == bt320.2.1) || (!(bt316.2.2.1 == bt320.2.2.1) || (!(bt316.2.2.2 == bt320.2.2.2))))) = true then (none) else ((isa_Next.f k x0 x6).bind fun t324 => ((attestorref26_Next.f k x0 x6).bind fun t327 => ((attestorlaw26_places.f k t324 t327).bind fun t330 => (if t330 = true then (attestorlaw26_IsaValids.l0 k x0 x1 (wrap64 (x5 + 1))) else (none)))))))
def attestorlaw26_IsaValids.l1 : Nat → List Bool → List Bool → Int → Option (Bool)
  | 0, _, _, _ => none
  | k + 1, x7, x8, x9 => if x9 < (x8.length : Int) then (if 0 ≤ x9 then (if x9 < (x7.length : Int) then (if ((rdOf false x7 x9) != (rdOf false x8 x9)) = true then (none) else (attestorlaw26_IsaValids.l1 k x7 x8 (wrap64 (x9 + 1)))) else (none)) else (none)) else ((attestorlaw26_lives.f k).bind fun t339 => (some t339))
end
def attestorlaw26_IsaValids.f (k : Nat) (l0 : List (S37)) (a1 : Int) : Option (Bool) := (attestorlaw26_cut.f l0).bind fun t311 => ((isa_Valid.f k t311).bind fun t314 => ((attestorref26_Valid.f k t311).bind fun t315 => (if t314 = t315 then (attestorlaw26_IsaValids.l0 k t311 a1 (-2)) else (none))))
theorem attestorlaw26_IsaValids.mono_l : ∀ k, (∀ y0 y1 y2, LeO (attestorlaw26_IsaValids.l0 k y0 y1 y2) (attestorlaw26_IsaValids.l0 (k + 1) y0 y1 y2)) ∧ (∀ y0 y1 y2 y3, LeO (attestorlaw26_IsaValids.j1 k y0 y1 y2 y3) (attestorlaw26_IsaValids.j1 (k + 1) y0 y1 y2 y3)) ∧ (∀ y0 y1 y2, LeO (attestorlaw26_IsaValids.l1 k y0 y1 y2) (attestorlaw26_IsaValids.l1 (k + 1) y0 y1 y2))
  | 0 => ⟨fun _ _ _ r h => by simp [attestorlaw26_IsaValids.l0] at h, fun _ _ _ _ r h => by simp [attestorlaw26_IsaValids.j1] at h, fun _ _ _ r h => by simp [attestorlaw26_IsaValids.l1] at h⟩
  | k + 1 => by
    obtain ⟨ih0, ih1, ih2⟩ := attestorlaw26_IsaValids.mono_l k
    refine ⟨?_, ?_, ?_⟩
    · intro y0 y1 y2
      unfold attestorlaw26_IsaValids.l0
      repeat' first
      | (with_reducible exact ih0 _ _ _)
      | (with_reducible exact ih1 _ _ _ _)
      | (with_reducible exact ih2 _ _ _)
      | (with_reducible exact attestorlaw26_lives.mono _)
      | (with_reducible exact attestorlaw26_places.mono _ _ _)
      | (with_reducible exact attestorref26_Next.mono _ _ _)
      | (with_reducible exact attestorref26_Reach.mono _ _)
      | (with_reducible exact attestorref26_Valid.mono _ _)
      | (with_reducible exact isa_Next.mono _ _ _)
      | (with_reducible exact isa_Reach.mono _ _)
      | (with_reducible exact isa_Valid.mono _ _)
      | (with_reducible exact LeO.refl _)
      | (with_reducible exact LeO.none _)
      | (with_reducible refine LeO.ite ?_ ?_)
      | (with_reducible refine LeO.bind ?_ (fun _ => ?_))
      | exact ih0 _ _ _
      | exact ih1 _ _ _ _
      | exact ih2 _ _ _
      | exact attestorlaw26_lives.mono _
      | exact attestorlaw26_places.mono _ _ _
      | exact attestorref26_Next.mono _ _ _
      | exact attestorref26_Reach.mono _ _
      | exact attestorref26_Valid.mono _ _
      | exact isa_Next.mono _ _ _
      | exact isa_Reach.mono _ _
      | exact isa_Valid.mono _ _
      | exact LeO.none _
      | refine LeO.ite ?_ ?_
      | refine LeO.bind ?_ (fun _ => ?_)
    · intro y0 y1 y2 y3
      unfold attestorlaw26_IsaValids.j1
      repeat' first
      | (with_reducible exact ih0 _ _ _)
      | (with_reducible exact ih1 _ _ _ _)
      | (with_reducible exact ih2 _ _ _)
      | (with_reducible exact attestorlaw26_lives.mono _)
      | (with_reducible exact attestorlaw26_places.mono _ _ _)
      | (with_reducible exact attestorref26_Next.mono _ _ _)
      | (with_reducible exact attestorref26_Reach.mono _ _)
      | (with_reducible exact attestorref26_Valid.mono _ _)
      | (with_reducible exact isa_Next.mono _ _ _)
      | (with_reducible exact isa_Reach.mono _ _)
      | (with_reducible exact isa_Valid.mono _ _)
      | (with_reducible exact LeO.refl _)
      | (with_reducible exact LeO.none _)
      | (with_reducible refine LeO.ite ?_ ?_)
      | (with_reducible refine LeO.bind ?_ (fun _ => ?_))
      | exact ih0 _ _ _
      | exact ih1 _ _ _ _
      | exact ih2 _ _ _
      | exact attestorlaw26_lives.mono _
      | exact attestorlaw26_places.mono _ _ _
      | exact attestorref26_Next.mono _ _ _
      | exact attestorref26_Reach.mono _ _
      | exact attestorref26_Valid.mono _ _
      | exact isa_Next.mono _ _ _
      | exact isa_Reach.mono _ _
      | exact isa_Valid.mono _ _
      | exact LeO.none _
      | refine LeO.ite ?_ ?_
      | refine LeO.bind ?_ (fun _ => ?_)
    · intro y0 y1 y2
      unfold attestorlaw26_IsaValids.l1
      repeat' first
      | (with_reducible exact ih0 _ _ _)
      | (with_reducible exact ih1 _ _ _ _)
      | (with_reducible exact ih2 _ _ _)
      | (with_reducible exact attestorlaw26_lives.mono _)
      | (with_reducible exact attestorlaw26_places.mono _ _ _)
      | (with_reducible exact attestorref26_Next.mono _ _ _)
      | (with_reducible exact attestorref26_Reach.mono _ _)
      | (with_reducible exact attestorref26_Valid.mono _ _)
      | (with_reducible exact isa_Next.mono _ _ _)
      | (with_reducible exact isa_Reach.mono _ _)
      | (with_reducible exact isa_Valid.mono _ _)
      | (with_reducible exact LeO.refl _)
      | (with_reducible exact LeO.none _)
      | (with_reducible refine LeO.ite ?_ ?_)
      | (with_reducible refine LeO.bind ?_ (fun _ => ?_))
      | exact ih0 _ _ _
      | exact ih1 _ _ _ _
      | exact ih2 _ _ _
      | exact attestorlaw26_lives.mono _
      | exact attestorlaw26_places.mono _ _ _
      | exact attestorref26_Next.mono _ _ _
      | exact attestorref26_Reach.mono _ _
      | exact attestorref26_Valid.mono _ _
      | exact isa_Next.mono _ _ _
      | exact isa_Reach.mono _ _
      | exact isa_Valid.mono _ _
      | exact LeO.none _
      | refine LeO.ite ?_ ?_
      | refine LeO.bind ?_ (fun _ => ?_)
theorem attestorlaw26_IsaValids.mono : ∀ a0 a1 k, LeO (attestorlaw26_IsaValids.f k a0 a1) (attestorlaw26_IsaValids.f (k + 1) a0 a1) := by
  intro a0 a1 k
  obtain ⟨ih0, ih1, ih2⟩ := attestorlaw26_IsaValids.mono_l k
  unfold attestorlaw26_IsaValids.f
  repeat' first
      | (with_reducible exact ih0 _ _ _)
      | (with_reducible exact ih1 _ _ _ _)
      | (with_reducible exact ih2 _ _ _)
      | (with_reducible exact attestorlaw26_lives.mono _)
      | (with_reducible exact attestorlaw26_places.mono _ _ _)
      | (with_reducible exact attestorref26_Next.mono _ _ _)
      | (with_reducible exact attestorref26_Reach.mono _ _)
      | (with_reducible exact attestorref26_Valid.mono _ _)
      | (with_reducible exact isa_Next.mono _ _ _)
      | (with_reducible exact isa_Reach.mono _ _)
      | (with_reducible exact isa_Valid.mono _ _)
      | (with_reducible exact LeO.refl _)
      | (with_reducible exact LeO.none _)
      | (with_reducible refine LeO.ite ?_ ?_)
      | (with_reducible refine LeO.bind ?_ (fun _ => ?_))
      | exact ih0 _ _ _
      | exact ih1 _ _ _ _
      | exact ih2 _ _ _
      | exact attestorlaw26_lives.mono _
      | exact attestorlaw26_places.mono _ _ _
      | exact attestorref26_Next.mono _ _ _
      | exact attestorref26_Reach.mono _ _
      | exact attestorref26_Valid.mono _ _
      | exact isa_Next.mono _ _ _
      | exact isa_Reach.mono _ _
      | exact isa_Valid.mono _ _
      | exact LeO.none _
      | refine LeO.ite ?_ ?_
      | refine LeO.bind ?_ (fun _ => ?_)
set_option maxHeartbeats 8000000 in
set_option maxRecDepth 100000 in
theorem attestorlaw26_IsaValids.calls (k : Nat) (A0 : Option Addr) (c0 : Nat) (l0 : List (S37)) (a1 : Int) (r : Bool) (w : World) (hr0 : Kd.C k37 w A0 l0.length l0) (hc0 : l0.length ≤ c0) (hrG : GL w) (h : attestorlaw26_IsaValids.f k l0 a1 = some r) :
    Calls Tryd.prog 6 #[.slice A0 l0.length c0, .int .i64 a1] w fun e w' => e = .returned (.bool r) ∧ Below w.heap.size w w' := by
  have HRG := Aside0.mk hrG
  clear hrG
  have HR0 := Aside0.mk hr0
  have HC0 := Aside0.mk hc0
  clear hr0 hc0
  have HB := Aside0.mk (Below.refl w.heap.size w)
  have H : ((attestorlaw26_cut.f l0).bind fun t311 => ((isa_Valid.f k t311).bind fun t314 => ((attestorref26_Valid.f k t311).bind fun t315 => (if t314 = t315 then (attestorlaw26_IsaValids.l0 k t311 a1 (-2)) else (none))))) = some r := h
  clear h
  replace H := Option.bind_eq_some_iff.mp H
  obtain ⟨t311, A30, H⟩ := H
  replace H : ((isa_Valid.f k t311).bind fun t314 => ((attestorref26_Valid.f k t311).bind fun t315 => (if t314 = t315 then (attestorlaw26_IsaValids.l0 k t311 a1 (-2)) else (none)))) = some r := H
  have A3 := Aside0.mk A30
  clear A30
  replace H := Option.bind_eq_some_iff.mp H
  obtain ⟨t314, A40, H⟩ := H
  replace H : ((attestorref26_Valid.f k t311).bind fun t315 => (if t314 = t315 then (attestorlaw26_IsaValids.l0 k t311 a1 (-2)) else (none))) = some r := H
  have A4 := Aside0.mk A40
  clear A40
  replace H := Option.bind_eq_some_iff.mp H
  obtain ⟨t315, A50, H⟩ := H
  replace H : (if t314 = t315 then (attestorlaw26_IsaValids.l0 k t311 a1 (-2)) else (none)) = some r := H
  have A5 := Aside0.mk A50
  clear A50
  by_cases c6 : t314 = t315
  · rw [if_pos c6] at H
    have c6b0 : (t314 == t315) = true := beq_iff_eq.mpr c6
    have c6b1 : (t314 != t315) = false := bne_eq_false_iff_eq.mpr c6
    clear c6
    have H' := Aside0.mk H
    clear H
    go_enter Tryd.func6, Tryd.ntmps6
    go_wp2_with (first | (go_at_call 14; (with_reducible refine (attestorlaw26_cut.calls _ _ l0 t311 _ ?side1 ?side2 A3.out).mono ?_); (case side1 => repeat (first | exact HR0.out | (with_reducible refine Kd.C_alloc ?_ _) | (with_reducible refine Kd.C_drewN ?_ _) | (with_reducible refine Kd.C_drew ?_))); (case side2 => exact HC0.out); rintro e w7 ⟨v312, rfl, ho0, hb⟩; have n0_ := Aside0.mk (Kd.R_lower ho0 (below_size (by repeat (first | (with_reducible first | exact HB.out | apply below_alloc | apply pw_below_drewN | apply below_drew1) | exact HB.out)))); have n1_ := Aside0.mk (below_step (by repeat (first | (with_reducible first | exact HB.out | apply below_alloc | apply pw_below_drewN | apply below_drew1) | exact HB.out)) hb); clear HB; have HO313 := n0_; have HB := n1_; clear n0_ n1_; (try clear hb); (try clear hb2); (try clear hk); (try clear hi); (try clear ho0); obtain ⟨Ao8, co8, eo8⟩ := Kd.R_slice HO313.out; subst eo8) | (go_at_call 16; (with_reducible refine (isa_Valid.calls k _ _ t311 t314 _ ?side1 ?side2 ?side3 A4.out).mono ?_); (case side1 => repeat (first | exact (Kd.R_reads' HO313.out).2.2 | (with_reducible refine Kd.C_alloc ?_ _) | (with_reducible refine Kd.C_drewN ?_ _) | (with_reducible refine Kd.C_drew ?_))); (case side2 => exact (Kd.R_reads' HO313.out).2.1); (case side3 => repeat (first | exact (GL.below HRG.out HB.out) | (with_reducible refine GL.alloc ?_ _) | (with_reducible refine GL.drewN ?_ _) | (with_reducible refine GL.drew ?_))); rintro e w9 ⟨rfl, hb⟩; have n0_ := Aside0.mk (Kd.R_below (by (with_reducible repeat (first | apply Kd.R_alloc | apply Kd.R_drewN | apply Kd.R_drew)); exact HO313.out) hb); have n1_ := Aside0.mk (below_step (by repeat (first | (with_reducible first | exact HB.out | apply below_alloc | apply pw_below_drewN | apply below_drew1) | exact HB.out)) hb); clear HO313; clear HB; have HO313 := n0_; have HB := n1_; clear n0_ n1_; (try clear hb); (try clear hb2); (try clear hk); (try clear hi)) | (go_at_call 17; (with_reducible refine (attestorref26_Valid.calls k _ _ t311 t315 _ ?side1 ?side2 A5.out).mono ?_); (case side1 => repeat (first | exact (Kd.R_reads' HO313.out).2.2 | (with_reducible refine Kd.C_alloc ?_ _) | (with_reducible refine Kd.C_drewN ?_ _) | (with_reducible refine Kd.C_drew ?_))); (case side2 => exact (Kd.R_reads' HO313.out).2.1); rintro e w10 ⟨rfl, hb⟩; have n0_ := Aside0.mk (Kd.R_below (by (with_reducible repeat (first | apply Kd.R_alloc | apply Kd.R_drewN | apply Kd.R_drew)); exact HO313.out) hb); have n1_ := Aside0.mk (below_step (by repeat (first | (with_reducible first | exact HB.out | apply below_alloc | apply pw_below_drewN | apply below_drew1) | exact HB.out)) hb); clear HO313; clear HB; have HO313 := n0_; have HB := n1_; clear n0_ n1_; (try clear hb); (try clear hb2); (try clear hk); (try clear hi)))
    repeat (go_quiet (first | (go_at_call 14; (with_reducible refine (attestorlaw26_cut.calls _ _ l0 t311 _ ?side1 ?side2 A3.out).mono ?_); (case side1 => repeat (first | exact HR0.out | (with_reducible refine Kd.C_alloc ?_ _) | (with_reducible refine Kd.C_drewN ?_ _) | (with_reducible refine Kd.C_drew ?_))); (case side2 => exact HC0.out); rintro e w7 ⟨v312, rfl, ho0, hb⟩; have n0_ := Aside0.mk (Kd.R_lower ho0 (below_size (by repeat (first | (with_reducible first | exact HB.out | apply below_alloc | apply pw_below_drewN | apply below_drew1) | exact HB.out)))); have n1_ := Aside0.mk (below_step (by repeat (first | (with_reducible first | exact HB.out | apply below_alloc | apply pw_below_drewN | apply below_drew1) | exact HB.out)) hb); clear HB; have HO313 := n0_; have HB := n1_; clear n0_ n1_; (try clear hb); (try clear hb2); (try clear hk); (try clear hi); (try clear ho0); obtain ⟨Ao8, co8, eo8⟩ := Kd.R_slice HO313.out; subst eo8) | (go_at_call 16; (with_reducible refine (isa_Valid.calls k _ _ t311 t314 _ ?side1 ?side2 ?side3 A4.out).mono ?_); (case side1 => repeat (first | exact (Kd.R_reads' HO313.out).2.2 | (with_reducible refine Kd.C_alloc ?_ _) | (with_reducible refine Kd.C_drewN ?_ _) | (with_reducible refine Kd.C_drew ?_))); (case side2 => exact (Kd.R_reads' HO313.out).2.1); (case side3 => repeat (first | exact (GL.below HRG.out HB.out) | (with_reducible refine GL.alloc ?_ _) | (with_reducible refine GL.drewN ?_ _) | (with_reducible refine GL.drew ?_))); rintro e w9 ⟨rfl, hb⟩; have n0_ := Aside0.mk (Kd.R_below (by (with_reducible repeat (first | apply Kd.R_alloc | apply Kd.R_drewN | apply Kd.R_drew)); exact HO313.out) hb); have n1_ := Aside0.mk (below_step (by repeat (first | (with_reducible first | exact HB.out | apply below_alloc | apply pw_below_drewN | apply below_drew1) | exact HB.out)) hb); clear HO313; clear HB; have HO313 := n0_; have HB := n1_; clear n0_ n1_; (try clear hb); (try clear hb2); (try clear hk); (try clear hi)) | (go_at_call 17; (with_reducible refine (attestorref26_Valid.calls k _ _ t311 t315 _ ?side1 ?side2 A5.out).mono ?_); (case side1 => repeat (first | exact (Kd.R_reads' HO313.out).2.2 | (with_reducible refine Kd.C_alloc ?_ _) | (with_reducible refine Kd.C_drewN ?_ _) | (with_reducible refine Kd.C_drew ?_))); (case side2 => exact (Kd.R_reads' HO313.out).2.1); rintro e w10 ⟨rfl, hb⟩; have n0_ := Aside0.mk (Kd.R_below (by (with_reducible repeat (first | apply Kd.R_alloc | apply Kd.R_drewN | apply Kd.R_drew)); exact HO313.out) hb); have n1_ := Aside0.mk (below_step (by repeat (first | (with_reducible first | exact HB.out | apply below_alloc | apply pw_below_drewN | apply below_drew1) | exact HB.out)) hb); clear HO313; clear HB; have HO313 := n0_; have HB := n1_; clear n0_ n1_; (try clear hb); (try clear hb2); (try clear hk); (try clear hi))); try go_wp2_with (first | (go_at_call 14; (with_reducible refine (attestorlaw26_cut.calls _ _ l0 t311 _ ?side1 ?side2 A3.out).mono ?_); (case side1 => repeat (first | exact HR0.out | (with_reducible refine Kd.C_alloc ?_ _) | (with_reducible refine Kd.C_drewN ?_ _) | (with_reducible refine Kd.C_drew ?_))); (case side2 => exact HC0.out); rintro e w7 ⟨v312, rfl, ho0, hb⟩; have n0_ := Aside0.mk (Kd.R_lower ho0 (below_size (by repeat (first | (with_reducible first | exact HB.out | apply below_alloc | apply pw_below_drewN | apply below_drew1) | exact HB.out)))); have n1_ := Aside0.mk (below_step (by repeat (first | (with_reducible first | exact HB.out | apply below_alloc | apply pw_below_drewN | apply below_drew1) | exact HB.out)) hb); clear HB; have HO313 := n0_; have HB := n1_; clear n0_ n1_; (try clear hb); (try clear hb2); (try clear hk); (try clear hi); (try clear ho0); obtain ⟨Ao8, co8, eo8⟩ := Kd.R_slice HO313.out; subst eo8) | (go_at_call 16; (with_reducible refine (isa_Valid.calls k _ _ t311 t314 _ ?side1 ?side2 ?side3 A4.out).mono ?_); (case side1 => repeat (first | exact (Kd.R_reads' HO313.out).2.2 | (with_reducible refine Kd.C_alloc ?_ _) | (with_reducible refine Kd.C_drewN ?_ _) | (with_reducible refine Kd.C_drew ?_))); (case side2 => exact (Kd.R_reads' HO313.out).2.1); (case side3 => repeat (first | exact (GL.below HRG.out HB.out) | (with_reducible refine GL.alloc ?_ _) | (with_reducible refine GL.drewN ?_ _) | (with_reducible refine GL.drew ?_))); rintro e w9 ⟨rfl, hb⟩; have n0_ := Aside0.mk (Kd.R_below (by (with_reducible repeat (first | apply Kd.R_alloc | apply Kd.R_drewN | apply Kd.R_drew)); exact HO313.out) hb); have n1_ := Aside0.mk (below_step (by repeat (first | (with_reducible first | exact HB.out | apply below_alloc | apply pw_below_drewN | apply below_drew1) | exact HB.out)) hb); clear HO313; clear HB; have HO313 := n0_; have HB := n1_; clear n0_ n1_; (try clear hb); (try clear hb2); (try clear hk); (try clear hi)) | (go_at_call 17; (with_reducible refine (attestorref26_Valid.calls k _ _ t311 t315 _ ?side1 ?side2 A5.out).mono ?_); (case side1 => repeat (first | exact (Kd.R_reads' HO313.out).2.2 | (with_reducible refine Kd.C_alloc ?_ _) | (with_reducible refine Kd.C_drewN ?_ _) | (with_reducible refine Kd.C_drew ?_))); (case side2 => exact (Kd.R_reads' HO313.out).2.1); rintro e w10 ⟨rfl, hb⟩; have n0_ := Aside0.mk (Kd.R_below (by (with_reducible repeat (first | apply Kd.R_alloc | apply Kd.R_drewN | apply Kd.R_drew)); exact HO313.out) hb); have n1_ := Aside0.mk (below_step (by repeat (first | (with_reducible first | exact HB.out | apply below_alloc | apply pw_below_drewN | apply below_drew1) | exact HB.out)) hb); clear HO313; clear HB; have HO313 := n0_; have HB := n1_; clear n0_ n1_; (try clear hb); (try clear hb2); (try clear hk); (try clear hi))))
    go_loopg [5] k (fun kq v5 w' => ∃ (x5_1 : Int), v5 = .int .i64 x5_1 ∧ Aside0 (attestorlaw26_IsaValids.l0 kq t311 a1 x5_1 = some r) ∧ Aside0 (kq ≤ k) ∧ Aside0 (Kd.R k37 37 w' w.heap.size (fun _ => True) (.slice Ao8 t311.length co8) t311) ∧ Aside0 (Below w.heap.size w w'))
    case atStart => exact ⟨((-2)), (by first | rfl | (simp; done) | (simp [*]; done) | (simp; rfl) | (simp; decide +kernel)), H', ⟨Nat.le_refl _⟩, ⟨by (with_reducible repeat (first | apply Kd.R_alloc | apply Kd.R_drewN | apply Kd.R_drew)); exact HO313.out⟩, ⟨by repeat (first | (with_reducible first | exact HB.out | apply below_alloc | apply pw_below_drewN | apply below_drew1) | exact HB.out)⟩⟩
    case round =>
      clear H'
      try clear p2
      try clear c6
      try clear c6b0
      try clear c6b1
      obtain ⟨x5_1, rfl, HA, HK1, HO_0, HB⟩ := hrel
      cases gk with
      | zero => exact absurd HA.out (by simp [attestorlaw26_IsaValids.l0])
      | succ k1 =>
        have H := HA.out
        clear HA
        simp only [attestorlaw26_IsaValids.l0] at H
        by_cases c11 : x5_1 ≤ (wrap64 ((t311.length : Int) + 2))
        · rw [if_pos c11] at H
          have c11b0 : decide (x5_1 ≤ (wrap64 ((t311.length : Int) + 2))) = true := decide_eq_true c11
          clear c11
          have HC12 := Aside0.mk H
          clear H
          go_upto_if 26 with (fail)
          repeat (go_quiet (fail); go_upto_if 26 with (fail))
          go_cut [6] (fun v6 wc => ∃ (kq : Nat) (x6_11 : Int), v6 = .int .i64 x6_11 ∧ Aside0 (attestorlaw26_IsaValids.j1 kq t311 a1 x5_1 x6_11 = some r) ∧ Aside0 (kq ≤ k1) ∧ Aside0 (Kd.R k37 37 wc w.heap.size (fun _ => True) (.slice Ao8 t311.length co8) t311) ∧ Aside0 (Below w.heap.size w wc))
          case first =>
            have H := HC12.out
            clear HC12
            by_cases c13 : x5_1 = (-2)
            · rw [if_pos c13] at H
              have c13b0 : (x5_1 == (-2)) = true := beq_iff_eq.mpr c13
              have c13b1 : (x5_1 != (-2)) = false := bne_eq_false_iff_eq.mpr c13
              clear c13
              (first | rw [c13b0] | (simp only [i64_w, i32_w]; rw [c13b0]) | skip)
              have H' := Aside0.mk H
              clear H
              go_wp2
              repeat (go_quiet (fail); try go_wp2)
              go_meet
              case rel => exact ⟨_, (a1), (by first | rfl | (simp; done) | (simp [*]; done) | (simp; rfl) | (simp; decide +kernel)), H', ⟨by have := HK1.out; first | omega | exact Nat.le_refl _⟩, ⟨by (with_reducible repeat (first | apply Kd.R_alloc | apply Kd.R_drewN | apply Kd.R_drew)); exact HO_0.out⟩, ⟨by repeat (first | (with_reducible first | exact HB.out | apply below_alloc | apply pw_below_drewN | apply below_drew1) | exact HB.out)⟩⟩
            · rw [if_neg c13] at H
              have c13b0 : (x5_1 == (-2)) = false := beq_eq_false_iff_ne.mpr c13
              have c13b1 : (x5_1 != (-2)) = true := bne_iff_ne.mpr c13
              (first | rw [c13b0] | (simp only [i64_w, i32_w]; rw [c13b0]) | skip)
              have H' := Aside0.mk H
              clear H
              go_wp2
              repeat (go_quiet (fail); try go_wp2)
              go_meet
              case rel => exact ⟨_, (x5_1), (by first | rfl | (simp; done) | (simp [*]; done) | (simp; rfl) | (simp; decide +kernel)), H', ⟨by have := HK1.out; first | omega | exact Nat.le_refl _⟩, ⟨by (with_reducible repeat (first | apply Kd.R_alloc | apply Kd.R_drewN | apply Kd.R_drew)); exact HO_0.out⟩, ⟨by repeat (first | (with_reducible first | exact HB.out | apply below_alloc | apply pw_below_drewN | apply below_drew1) | exact HB.out)⟩⟩
          case rest =>
            clear HC12
            try clear c1
            try clear p2
            try clear c6
            try clear c6b0
            try clear c6b1
            try clear p6
            try clear c11
            try clear c11b0
            try clear c13
            try clear c13b0
            try clear c13b1
            try clear p2
            obtain ⟨kq, x6_11, rfl, HA, HJ11, HO_0, HB⟩ := hcut
            cases kq with
            | zero => exact absurd HA.out (by simp [attestorlaw26_IsaValids.j1])
            | succ kj11 =>
              have H := HA.out
              clear HA
              simp only [attestorlaw26_IsaValids.j1] at H
              replace H := Option.bind_eq_some_iff.mp H
              obtain ⟨⟨t316, t317, t318, t319⟩, A140, H⟩ := H
              replace H : ((attestorref26_Fetch.f t311 x6_11).bind fun bt320 => (if (!(t316 == bt320.1) || (!(t317 == bt320.2.1) || (!(t318 == bt320.2.2.1) || (!(t319 == bt320.2.2.2))))) = true then (none) else ((isa_Next.f kj11 t311 x6_11).bind fun t324 => ((attestorref26_Next.f kj11 t311 x6_11).bind fun t327 => ((attestorlaw26_places.f kj11 t324 t327).bind fun t330 => (if t330 = true then (attestorlaw26_IsaValids.l0 kj11 t311 a1 (wrap64 (x5_1 + 1))) else (none))))))) = some r := H
              have A14 := Aside0.mk A140
              clear A140
              replace H := Option.bind_eq_some_iff.mp H
              obtain ⟨⟨t320, t321, t322, t323⟩, A150, H⟩ := H
              replace H : (if (!(t316 == t320) || (!(t317 == t321) || (!(t318 == t322) || (!(t319 == t323))))) = true then (none) else ((isa_Next.f kj11 t311 x6_11).bind fun t324 => ((attestorref26_Next.f kj11 t311 x6_11).bind fun t327 => ((attestorlaw26_places.f kj11 t324 t327).bind fun t330 => (if t330 = true then (attestorlaw26_IsaValids.l0 kj11 t311 a1 (wrap64 (x5_1 + 1))) else (none)))))) = some r := H
              have A15 := Aside0.mk A150
              clear A150
              by_cases c16 : (!(t316 == t320) || (!(t317 == t321) || (!(t318 == t322) || (!(t319 == t323))))) = true
              · rw [if_pos c16] at H
                exact absurd H (by simp)
              · rw [if_neg c16] at H
                have c16b0 : (!(t316 == t320) || (!(t317 == t321) || (!(t318 == t322) || (!(t319 == t323))))) = false := by simpa using c16
                clear c16
                replace H := Option.bind_eq_some_iff.mp H
                obtain ⟨t324, A170, H⟩ := H
                replace H : ((attestorref26_Next.f kj11 t311 x6_11).bind fun t327 => ((attestorlaw26_places.f kj11 t324 t327).bind fun t330 => (if t330 = true then (attestorlaw26_IsaValids.l0 kj11 t311 a1 (wrap64 (x5_1 + 1))) else (none)))) = some r := H
                have A17 := Aside0.mk A170
                clear A170
                replace H := Option.bind_eq_some_iff.mp H
                obtain ⟨t327, A180, H⟩ := H
                replace H : ((attestorlaw26_places.f kj11 t324 t327).bind fun t330 => (if t330 = true then (attestorlaw26_IsaValids.l0 kj11 t311 a1 (wrap64 (x5_1 + 1))) else (none))) = some r := H
                have A18 := Aside0.mk A180
                clear A180
                replace H := Option.bind_eq_some_iff.mp H
                obtain ⟨t330, A190, H⟩ := H
                replace H : (if t330 = true then (attestorlaw26_IsaValids.l0 kj11 t311 a1 (wrap64 (x5_1 + 1))) else (none)) = some r := H
                have A19 := Aside0.mk A190
                clear A190
                by_cases c20 : t330 = true
                · subst c20
                  have H1 : (attestorlaw26_IsaValids.l0 kj11 t311 a1 (wrap64 (x5_1 + 1))) = some r := by rw [if_pos rfl] at H; exact H
                  clear H
                  have H := H1
                  clear H1
                  have H' := Aside0.mk H
                  clear H
                  go_wp2_with (first | (go_at_call 18; (with_reducible refine (isa_Fetch.calls _ _ t311 x6_11 t316 t317 t318 t319 _ ?side1 ?side2 A14.out).mono ?_); (case side1 => repeat (first | exact (Kd.R_reads' HO_0.out).2.2 | (with_reducible refine Kd.C_alloc ?_ _) | (with_reducible refine Kd.C_drewN ?_ _) | (with_reducible refine Kd.C_drew ?_))); (case side2 => exact (Kd.R_reads' HO_0.out).2.1); rintro e w21 ⟨rfl, hb⟩; have n0_ := Aside0.mk (Kd.R_below (by (with_reducible repeat (first | apply Kd.R_alloc | apply Kd.R_drewN | apply Kd.R_drew)); exact HO_0.out) hb); have n1_ := Aside0.mk (below_step (by repeat (first | (with_reducible first | exact HB.out | apply below_alloc | apply pw_below_drewN | apply below_drew1) | exact HB.out)) hb); clear HO_0; clear HB; have HO_0 := n0_; have HB := n1_; clear n0_ n1_; (try clear hb); (try clear hb2); (try clear hk); (try clear hi)) | (go_at_call 19; (with_reducible refine (attestorref26_Fetch.calls _ _ t311 x6_11 t320 t321 t322 t323 _ ?side1 ?side2 A15.out).mono ?_); (case side1 => repeat (first | exact (Kd.R_reads' HO_0.out).2.2 | (with_reducible refine Kd.C_alloc ?_ _) | (with_reducible refine Kd.C_drewN ?_ _) | (with_reducible refine Kd.C_drew ?_))); (case side2 => exact (Kd.R_reads' HO_0.out).2.1); rintro e w22 ⟨rfl, hb⟩; have n0_ := Aside0.mk (Kd.R_below (by (with_reducible repeat (first | apply Kd.R_alloc | apply Kd.R_drewN | apply Kd.R_drew)); exact HO_0.out) hb); have n1_ := Aside0.mk (below_step (by repeat (first | (with_reducible first | exact HB.out | apply below_alloc | apply pw_below_drewN | apply below_drew1) | exact HB.out)) hb); clear HO_0; clear HB; have HO_0 := n0_; have HB := n1_; clear n0_ n1_; (try clear hb); (try clear hb2); (try clear hk); (try clear hi)) | (go_at_call 21; (with_reducible refine (isa_Next.calls kj11 _ _ t311 x6_11 t324 _ ?side1 ?side2 ?side3 A17.out).mono ?_); (case side1 => repeat (first | exact (Kd.R_reads' HO_0.out).2.2 | (with_reducible refine Kd.C_alloc ?_ _) | (with_reducible refine Kd.C_drewN ?_ _) | (with_reducible refine Kd.C_drew ?_))); (case side2 => exact (Kd.R_reads' HO_0.out).2.1); (case side3 => repeat (first | exact (GL.below HRG.out HB.out) | (with_reducible refine GL.alloc ?_ _) | (with_reducible refine GL.drewN ?_ _) | (with_reducible refine GL.drew ?_))); rintro e w23 ⟨v325, rfl, ho0, hb⟩; have n0_ := Aside0.mk (Kd.R_below (by (with_reducible repeat (first | apply Kd.R_alloc | apply Kd.R_drewN | apply Kd.R_drew)); exact HO_0.out) hb); have n1_ := Aside0.mk (Kd.R_lower ho0 (below_size (by repeat (first | (with_reducible first | exact HB.out | apply below_alloc | apply pw_below_drewN | apply below_drew1) | exact HB.out)))); have n2_ := Aside0.mk (below_step (by repeat (first | (with_reducible first | exact HB.out | apply below_alloc | apply pw_below_drewN | apply below_drew1) | exact HB.out)) hb); clear HO_0; clear HB; have HO_0 := n0_; have HO326 := n1_; have HB := n2_; clear n0_ n1_ n2_; (try clear hb); (try clear hb2); (try clear hk); (try clear hi); (try clear ho0)) | (go_at_call 22; (with_reducible refine (attestorref26_Next.calls kj11 _ _ t311 x6_11 t327 _ ?side1 ?side2 A18.out).mono ?_); (case side1 => repeat (first | exact (Kd.R_reads' HO_0.out).2.2 | (with_reducible refine Kd.C_alloc ?_ _) | (with_reducible refine Kd.C_drewN ?_ _) | (with_reducible refine Kd.C_drew ?_))); (case side2 => exact (Kd.R_reads' HO_0.out).2.1); rintro e w24 ⟨v328, rfl, ho0, hb⟩; have n0_ := Aside0.mk (Kd.R_below (by (with_reducible repeat (first | apply Kd.R_alloc | apply Kd.R_drewN | apply Kd.R_drew)); exact HO_0.out) hb); have n1_ := Aside0.mk (Kd.R_elder' (by (with_reducible repeat (first | apply Kd.R_alloc | apply Kd.R_drewN | apply Kd.R_drew)); exact HO326.out) (Kd.R_base ho0) hb); have n2_ := Aside0.mk (Kd.R_lower (Kd.R_new' ho0 (Kd.R_lt (by (with_reducible repeat (first | apply Kd.R_alloc | apply Kd.R_drewN | apply Kd.R_drew)); exact HO326.out))) (below_size (by repeat (first | (with_reducible first | exact HB.out | apply below_alloc | apply pw_below_drewN | apply below_drew1) | exact HB.out)))); have n3_ := Aside0.mk (below_step (by repeat (first | (with_reducible first | exact HB.out | apply below_alloc | apply pw_below_drewN | apply below_drew1) | exact HB.out)) hb); clear HO_0; clear HO326; clear HB; have HO_0 := n0_; have HO326 := n1_; have HO329 := n2_; have HB := n3_; clear n0_ n1_ n2_ n3_; (try clear hb); (try clear hb2); (try clear hk); (try clear hi); (try clear ho0); obtain ⟨Ao25, co25, eo25⟩ := Kd.R_slice HO326.out; subst eo25; obtain ⟨Ao26, co26, eo26⟩ := Kd.R_slice HO329.out; subst eo26) | (go_at_call 20; (with_reducible refine (attestorlaw26_places.calls kj11 _ _ t324 _ _ t327 true _ ?side1 ?side2 ?side3 ?side4 A19.out).mono ?_); (case side1 => repeat (first | exact (Kd.R_reads' HO326.out).2.2 | (with_reducible refine Kd.C_alloc ?_ _) | (with_reducible refine Kd.C_drewN ?_ _) | (with_reducible refine Kd.C_drew ?_))); (case side2 => exact (Kd.R_reads' HO326.out).2.1); (case side3 => repeat (first | exact (Kd.R_reads' HO329.out).2.2 | (with_reducible refine Kd.C_alloc ?_ _) | (with_reducible refine Kd.C_drewN ?_ _) | (with_reducible refine Kd.C_drew ?_))); (case side4 => exact (Kd.R_reads' HO329.out).2.1); rintro e w' ⟨rfl, ⟨nd, rfl⟩⟩; (try first | exact ⟨rfl, _, World.drewN_drewN _ _ _⟩ | exact ⟨rfl, _, Eq.trans (World.drewN_drewN _ _ _) (congrArg (World.drewN _) (Nat.add_assoc _ _ _))⟩)))
                  repeat (go_quiet (first | (go_at_call 18; (with_reducible refine (isa_Fetch.calls _ _ t311 x6_11 t316 t317 t318 t319 _ ?side1 ?side2 A14.out).mono ?_); (case side1 => repeat (first | exact (Kd.R_reads' HO_0.out).2.2 | (with_reducible refine Kd.C_alloc ?_ _) | (with_reducible refine Kd.C_drewN ?_ _) | (with_reducible refine Kd.C_drew ?_))); (case side2 => exact (Kd.R_reads' HO_0.out).2.1); rintro e w21 ⟨rfl, hb⟩; have n0_ := Aside0.mk (Kd.R_below (by (with_reducible repeat (first | apply Kd.R_alloc | apply Kd.R_drewN | apply Kd.R_drew)); exact HO_0.out) hb); have n1_ := Aside0.mk (below_step (by repeat (first | (with_reducible first | exact HB.out | apply below_alloc | apply pw_below_drewN | apply below_drew1) | exact HB.out)) hb); clear HO_0; clear HB; have HO_0 := n0_; have HB := n1_; clear n0_ n1_; (try clear hb); (try clear hb2); (try clear hk); (try clear hi)) | (go_at_call 19; (with_reducible refine (attestorref26_Fetch.calls _ _ t311 x6_11 t320 t321 t322 t323 _ ?side1 ?side2 A15.out).mono ?_); (case side1 => repeat (first | exact (Kd.R_reads' HO_0.out).2.2 | (with_reducible refine Kd.C_alloc ?_ _) | (with_reducible refine Kd.C_drewN ?_ _) | (with_reducible refine Kd.C_drew ?_))); (case side2 => exact (Kd.R_reads' HO_0.out).2.1); rintro e w22 ⟨rfl, hb⟩; have n0_ := Aside0.mk (Kd.R_below (by (with_reducible repeat (first | apply Kd.R_alloc | apply Kd.R_drewN | apply Kd.R_drew)); exact HO_0.out) hb); have n1_ := Aside0.mk (below_step (by repeat (first | (with_reducible first | exact HB.out | apply below_alloc | apply pw_below_drewN | apply below_drew1) | exact HB.out)) hb); clear HO_0; clear HB; have HO_0 := n0_; have HB := n1_; clear n0_ n1_; (try clear hb); (try clear hb2); (try clear hk); (try clear hi)) | (go_at_call 21; (with_reducible refine (isa_Next.calls kj11 _ _ t311 x6_11 t324 _ ?side1 ?side2 ?side3 A17.out).mono ?_); (case side1 => repeat (first | exact (Kd.R_reads' HO_0.out).2.2 | (with_reducible refine Kd.C_alloc ?_ _) | (with_reducible refine Kd.C_drewN ?_ _) | (with_reducible refine Kd.C_drew ?_))); (case side2 => exact (Kd.R_reads' HO_0.out).2.1); (case side3 => repeat (first | exact (GL.below HRG.out HB.out) | (with_reducible refine GL.alloc ?_ _) | (with_reducible refine GL.drewN ?_ _) | (with_reducible refine GL.drew ?_))); rintro e w23 ⟨v325, rfl, ho0, hb⟩; have n0_ := Aside0.mk (Kd.R_below (by (with_reducible repeat (first | apply Kd.R_alloc | apply Kd.R_drewN | apply Kd.R_drew)); exact HO_0.out) hb); have n1_ := Aside0.mk (Kd.R_lower ho0 (below_size (by repeat (first | (with_reducible first | exact HB.out | apply below_alloc | apply pw_below_drewN | apply below_drew1) | exact HB.out)))); have n2_ := Aside0.mk (below_step (by repeat (first | (with_reducible first | exact HB.out | apply below_alloc | apply pw_below_drewN | apply below_drew1) | exact HB.out)) hb); clear HO_0; clear HB; have HO_0 := n0_; have HO326 := n1_; have HB := n2_; clear n0_ n1_ n2_; (try clear hb); (try clear hb2); (try clear hk); (try clear hi); (try clear ho0)) | (go_at_call 22; (with_reducible refine (attestorref26_Next.calls kj11 _ _ t311 x6_11 t327 _ ?side1 ?side2 A18.out).mono ?_); (case side1 => repeat (first | exact (Kd.R_reads' HO_0.out).2.2 | (with_reducible refine Kd.C_alloc ?_ _) | (with_reducible refine Kd.C_drewN ?_ _) | (with_reducible refine Kd.C_drew ?_))); (case side2 => exact (Kd.R_reads' HO_0.out).2.1); rintro e w24 ⟨v328, rfl, ho0, hb⟩; have n0_ := Aside0.mk (Kd.R_below (by (with_reducible repeat (first | apply Kd.R_alloc | apply Kd.R_drewN | apply Kd.R_drew)); exact HO_0.out) hb); have n1_ := Aside0.mk (Kd.R_elder' (by (with_reducible repeat (first | apply Kd.R_alloc | apply Kd.R_drewN | apply Kd.R_drew)); exact HO326.out) (Kd.R_base ho0) hb); have n2_ := Aside0.mk (Kd.R_lower (Kd.R_new' ho0 (Kd.R_lt (by (with_reducible repeat (first | apply Kd.R_alloc | apply Kd.R_drewN | apply Kd.R_drew)); exact HO326.out))) (below_size (by repeat (first | (with_reducible first | exact HB.out | apply below_alloc | apply pw_below_drewN | apply below_drew1) | exact HB.out)))); have n3_ := Aside0.mk (below_step (by repeat (first | (with_reducible first | exact HB.out | apply below_alloc | apply pw_below_drewN | apply below_drew1) | exact HB.out)) hb); clear HO_0; clear HO326; clear HB; have HO_0 := n0_; have HO326 := n1_; have HO329 := n2_; have HB := n3_; clear n0_ n1_ n2_ n3_; (try clear hb); (try clear hb2); (try clear hk); (try clear hi); (try clear ho0); obtain ⟨Ao25, co25, eo25⟩ := Kd.R_slice HO326.out; subst eo25; obtain ⟨Ao26, co26, eo26⟩ := Kd.R_slice HO329.out; subst eo26) | (go_at_call 20; (with_reducible refine (attestorlaw26_places.calls kj11 _ _ t324 _ _ t327 true _ ?side1 ?side2 ?side3 ?side4 A19.out).mono ?_); (case side1 => repeat (first | exact (Kd.R_reads' HO326.out).2.2 | (with_reducible refine Kd.C_alloc ?_ _) | (with_reducible refine Kd.C_drewN ?_ _) | (with_reducible refine Kd.C_drew ?_))); (case side2 => exact (Kd.R_reads' HO326.out).2.1); (case side3 => repeat (first | exact (Kd.R_reads' HO329.out).2.2 | (with_reducible refine Kd.C_alloc ?_ _) | (with_reducible refine Kd.C_drewN ?_ _) | (with_reducible refine Kd.C_drew ?_))); (case side4 => exact (Kd.R_reads' HO329.out).2.1); rintro e w' ⟨rfl, ⟨nd, rfl⟩⟩; (try first | exact ⟨rfl, _, World.drewN_drewN _ _ _⟩ | exact ⟨rfl, _, Eq.trans (World.drewN_drewN _ _ _) (congrArg (World.drewN _) (Nat.add_assoc _ _ _))⟩))); try go_wp2_with (first | (go_at_call 18; (with_reducible refine (isa_Fetch.calls _ _ t311 x6_11 t316 t317 t318 t319 _ ?side1 ?side2 A14.out).mono ?_); (case side1 => repeat (first | exact (Kd.R_reads' HO_0.out).2.2 | (with_reducible refine Kd.C_alloc ?_ _) | (with_reducible refine Kd.C_drewN ?_ _) | (with_reducible refine Kd.C_drew ?_))); (case side2 => exact (Kd.R_reads' HO_0.out).2.1); rintro e w21 ⟨rfl, hb⟩; have n0_ := Aside0.mk (Kd.R_below (by (with_reducible repeat (first | apply Kd.R_alloc | apply Kd.R_drewN | apply Kd.R_drew)); exact HO_0.out) hb); have n1_ := Aside0.mk (below_step (by repeat (first | (with_reducible first | exact HB.out | apply below_alloc | apply pw_below_drewN | apply below_drew1) | exact HB.out)) hb); clear HO_0; clear HB; have HO_0 := n0_; have HB := n1_; clear n0_ n1_; (try clear hb); (try clear hb2); (try clear hk); (try clear hi)) | (go_at_call 19; (with_reducible refine (attestorref26_Fetch.calls _ _ t311 x6_11 t320 t321 t322 t323 _ ?side1 ?side2 A15.out).mono ?_); (case side1 => repeat (first | exact (Kd.R_reads' HO_0.out).2.2 | (with_reducible refine Kd.C_alloc ?_ _) | (with_reducible refine Kd.C_drewN ?_ _) | (with_reducible refine Kd.C_drew ?_))); (case side2 => exact (Kd.R_reads' HO_0.out).2.1); rintro e w22 ⟨rfl, hb⟩; have n0_ := Aside0.mk (Kd.R_below (by (with_reducible repeat (first | apply Kd.R_alloc | apply Kd.R_drewN | apply Kd.R_drew)); exact HO_0.out) hb); have n1_ := Aside0.mk (below_step (by repeat (first | (with_reducible first | exact HB.out | apply below_alloc | apply pw_below_drewN | apply below_drew1) | exact HB.out)) hb); clear HO_0; clear HB; have HO_0 := n0_; have HB := n1_; clear n0_ n1_; (try clear hb); (try clear hb2); (try clear hk); (try clear hi)) | (go_at_call 21; (with_reducible refine (isa_Next.calls kj11 _ _ t311 x6_11 t324 _ ?side1 ?side2 ?side3 A17.out).mono ?_); (case side1 => repeat (first | exact (Kd.R_reads' HO_0.out).2.2 | (with_reducible refine Kd.C_alloc ?_ _) | (with_reducible refine Kd.C_drewN ?_ _) | (with_reducible refine Kd.C_drew ?_))); (case side2 => exact (Kd.R_reads' HO_0.out).2.1); (case side3 => repeat (first | exact (GL.below HRG.out HB.out) | (with_reducible refine GL.alloc ?_ _) | (with_reducible refine GL.drewN ?_ _) | (with_reducible refine GL.drew ?_))); rintro e w23 ⟨v325, rfl, ho0, hb⟩; have n0_ := Aside0.mk (Kd.R_below (by (with_reducible repeat (first | apply Kd.R_alloc | apply Kd.R_drewN | apply Kd.R_drew)); exact HO_0.out) hb); have n1_ := Aside0.mk (Kd.R_lower ho0 (below_size (by repeat (first | (with_reducible first | exact HB.out | apply below_alloc | apply pw_below_drewN | apply below_drew1) | exact HB.out)))); have n2_ := Aside0.mk (below_step (by repeat (first | (with_reducible first | exact HB.out | apply below_alloc | apply pw_below_drewN | apply below_drew1) | exact HB.out)) hb); clear HO_0; clear HB; have HO_0 := n0_; have HO326 := n1_; have HB := n2_; clear n0_ n1_ n2_; (try clear hb); (try clear hb2); (try clear hk); (try clear hi); (try clear ho0)) | (go_at_call 22; (with_reducible refine (attestorref26_Next.calls kj11 _ _ t311 x6_11 t327 _ ?side1 ?side2 A18.out).mono ?_); (case side1 => repeat (first | exact (Kd.R_reads' HO_0.out).2.2 | (with_reducible refine Kd.C_alloc ?_ _) | (with_reducible refine Kd.C_drewN ?_ _) | (with_reducible refine Kd.C_drew ?_))); (case side2 => exact (Kd.R_reads' HO_0.out).2.1); rintro e w24 ⟨v328, rfl, ho0, hb⟩; have n0_ := Aside0.mk (Kd.R_below (by (with_reducible repeat (first | apply Kd.R_alloc | apply Kd.R_drewN | apply Kd.R_drew)); exact HO_0.out) hb); have n1_ := Aside0.mk (Kd.R_elder' (by (with_reducible repeat (first | apply Kd.R_alloc | apply Kd.R_drewN | apply Kd.R_drew)); exact HO326.out) (Kd.R_base ho0) hb); have n2_ := Aside0.mk (Kd.R_lower (Kd.R_new' ho0 (Kd.R_lt (by (with_reducible repeat (first | apply Kd.R_alloc | apply Kd.R_drewN | apply Kd.R_drew)); exact HO326.out))) (below_size (by repeat (first | (with_reducible first | exact HB.out | apply below_alloc | apply pw_below_drewN | apply below_drew1) | exact HB.out)))); have n3_ := Aside0.mk (below_step (by repeat (first | (with_reducible first | exact HB.out | apply below_alloc | apply pw_below_drewN | apply below_drew1) | exact HB.out)) hb); clear HO_0; clear HO326; clear HB; have HO_0 := n0_; have HO326 := n1_; have HO329 := n2_; have HB := n3_; clear n0_ n1_ n2_ n3_; (try clear hb); (try clear hb2); (try clear hk); (try clear hi); (try clear ho0); obtain ⟨Ao25, co25, eo25⟩ := Kd.R_slice HO326.out; subst eo25; obtain ⟨Ao26, co26, eo26⟩ := Kd.R_slice HO329.out; subst eo26) | (go_at_call 20; (with_reducible refine (attestorlaw26_places.calls kj11 _ _ t324 _ _ t327 true _ ?side1 ?side2 ?side3 ?side4 A19.out).mono ?_); (case side1 => repeat (first | exact (Kd.R_reads' HO326.out).2.2 | (with_reducible refine Kd.C_alloc ?_ _) | (with_reducible refine Kd.C_drewN ?_ _) | (with_reducible refine Kd.C_drew ?_))); (case side2 => exact (Kd.R_reads' HO326.out).2.1); (case side3 => repeat (first | exact (Kd.R_reads' HO329.out).2.2 | (with_reducible refine Kd.C_alloc ?_ _) | (with_reducible refine Kd.C_drewN ?_ _) | (with_reducible refine Kd.C_drew ?_))); (case side4 => exact (Kd.R_reads' HO329.out).2.1); rintro e w' ⟨rfl, ⟨nd, rfl⟩⟩; (try first | exact ⟨rfl, _, World.drewN_drewN _ _ _⟩ | exact ⟨rfl, _, Eq.trans (World.drewN_drewN _ _ _) (congrArg (World.drewN _) (Nat.add_assoc _ _ _))⟩))))
                  go_roundg kj11
                  case measure => have := HK1.out; have := HJ11.out; omega
                  case rel => exact ⟨(wrap64 (x5_1 + 1)), (by first | rfl | (simp; done) | (simp [*]; done) | (simp; rfl) | (simp; decide +kernel)), H', ⟨by have := HK1.out; have := HJ11.out; omega⟩, ⟨by (with_reducible repeat (first | apply Kd.R_alloc | apply Kd.R_drewN | apply Kd.R_drew)); exact HO_0.out⟩, ⟨by repeat (first | (with_reducible first | exact HB.out | apply below_alloc | apply pw_below_drewN | apply below_drew1) | exact HB.out)⟩⟩
                · replace c20 := Bool.eq_false_iff.mpr c20
                  subst c20
                  have H1 : (none) = some r := by rw [if_neg (show ¬ (false = true) by decide)] at H; exact H
                  clear H
                  have H := H1
                  clear H1
                  exact absurd H (by simp)
        · rw [if_neg c11] at H
          have c11b0 : decide (x5_1 ≤ (wrap64 ((t311.length : Int) + 2))) = false := decide_eq_false c11
          clear c11
          replace H := Option.bind_eq_some_iff.mp H
          obtain ⟨t331, A270, H⟩ := H
          replace H : ((attestorref26_Reach.f k1 t311).bind fun t334 => (if (t331.length : Int) = (t334.length : Int) then (attestorlaw26_IsaValids.l1 k1 t331 t334 0) else (none))) = some r := H
          have A27 := Aside0.mk A270
          clear A270
          replace H := Option.bind_eq_some_iff.mp H
          obtain ⟨t334, A280, H⟩ := H
          replace H : (if (t331.length : Int) = (t334.length : Int) then (attestorlaw26_IsaValids.l1 k1 t331 t334 0) else (none)) = some r := H
          have A28 := Aside0.mk A280
          clear A280
          by_cases c29 : (t331.length : Int) = (t334.length : Int)
          · rw [if_pos c29] at H
            have c29b0 : ((t331.length : Int) == (t334.length : Int)) = true := beq_iff_eq.mpr c29
            have c29b1 : ((t331.length : Int) != (t334.length : Int)) = false := bne_eq_false_iff_eq.mpr c29
            have c29b2 : (t331.length == t334.length) = true := by first | simpa using c29 | (simp at c29 ⊢; omega)
            clear c29
            have H' := Aside0.mk H
            clear H
            go_wp2_with (first | (go_at_call 23; (with_reducible refine (isa_Reach.calls k1 _ _ t311 t331 _ ?side1 ?side2 ?side3 A27.out).mono ?_); (case side1 => repeat (first | exact (Kd.R_reads' HO_0.out).2.2 | (with_reducible refine Kd.C_alloc ?_ _) | (with_reducible refine Kd.C_drewN ?_ _) | (with_reducible refine Kd.C_drew ?_))); (case side2 => exact (Kd.R_reads' HO_0.out).2.1); (case side3 => repeat (first | exact (GL.below HRG.out HB.out) | (with_reducible refine GL.alloc ?_ _) | (with_reducible refine GL.drewN ?_ _) | (with_reducible refine GL.drew ?_))); rintro e w30 ⟨v332, rfl, ho0, hb⟩; have n0_ := Aside0.mk (Kd.R_below (by (with_reducible repeat (first | apply Kd.R_alloc | apply Kd.R_drewN | apply Kd.R_drew)); exact HO_0.out) hb); have n1_ := Aside0.mk (Kd.R_lower ho0 (below_size (by repeat (first | (with_reducible first | exact HB.out | apply below_alloc | apply pw_below_drewN | apply below_drew1) | exact HB.out)))); have n2_ := Aside0.mk (below_step (by repeat (first | (with_reducible first | exact HB.out | apply below_alloc | apply pw_below_drewN | apply below_drew1) | exact HB.out)) hb); clear HO_0; clear HB; have HO_0 := n0_; have HO333 := n1_; have HB := n2_; clear n0_ n1_ n2_; (try clear hb); (try clear hb2); (try clear hk); (try clear hi); (try clear ho0)) | (go_at_call 24; (with_reducible refine (attestorref26_Reach.calls k1 _ _ t311 t334 _ ?side1 ?side2 A28.out).mono ?_); (case side1 => repeat (first | exact (Kd.R_reads' HO_0.out).2.2 | (with_reducible refine Kd.C_alloc ?_ _) | (with_reducible refine Kd.C_drewN ?_ _) | (with_reducible refine Kd.C_drew ?_))); (case side2 => exact (Kd.R_reads' HO_0.out).2.1); rintro e w31 ⟨v335, rfl, ho0, hb⟩; have n0_ := Aside0.mk (Kd.R_below (by (with_reducible repeat (first | apply Kd.R_alloc | apply Kd.R_drewN | apply Kd.R_drew)); exact HO_0.out) hb); have n1_ := Aside0.mk (Kd.R_elder' (by (with_reducible repeat (first | apply Kd.R_alloc | apply Kd.R_drewN | apply Kd.R_drew)); exact HO333.out) (Kd.R_base ho0) hb); have n2_ := Aside0.mk (Kd.R_lower (Kd.R_new' ho0 (Kd.R_lt (by (with_reducible repeat (first | apply Kd.R_alloc | apply Kd.R_drewN | apply Kd.R_drew)); exact HO333.out))) (below_size (by repeat (first | (with_reducible first | exact HB.out | apply below_alloc | apply pw_below_drewN | apply below_drew1) | exact HB.out)))); have n3_ := Aside0.mk (below_step (by repeat (first | (with_reducible first | exact HB.out | apply below_alloc | apply pw_below_drewN | apply below_drew1) | exact HB.out)) hb); clear HO_0; clear HO333; clear HB; have HO_0 := n0_; have HO333 := n1_; have HO336 := n2_; have HB := n3_; clear n0_ n1_ n2_ n3_; (try clear hb); (try clear hb2); (try clear hk); (try clear hi); (try clear ho0); obtain ⟨Ao32, co32, eo32⟩ := Kd.R_slice HO333.out; subst eo32; obtain ⟨Ao33, co33, eo33⟩ := Kd.R_slice HO336.out; subst eo33))
            repeat (go_quiet (first | (go_at_call 23; (with_reducible refine (isa_Reach.calls k1 _ _ t311 t331 _ ?side1 ?side2 ?side3 A27.out).mono ?_); (case side1 => repeat (first | exact (Kd.R_reads' HO_0.out).2.2 | (with_reducible refine Kd.C_alloc ?_ _) | (with_reducible refine Kd.C_drewN ?_ _) | (with_reducible refine Kd.C_drew ?_))); (case side2 => exact (Kd.R_reads' HO_0.out).2.1); (case side3 => repeat (first | exact (GL.below HRG.out HB.out) | (with_reducible refine GL.alloc ?_ _) | (with_reducible refine GL.drewN ?_ _) | (with_reducible refine GL.drew ?_))); rintro e w30 ⟨v332, rfl, ho0, hb⟩; have n0_ := Aside0.mk (Kd.R_below (by (with_reducible repeat (first | apply Kd.R_alloc | apply Kd.R_drewN | apply Kd.R_drew)); exact HO_0.out) hb); have n1_ := Aside0.mk (Kd.R_lower ho0 (below_size (by repeat (first | (with_reducible first | exact HB.out | apply below_alloc | apply pw_below_drewN | apply below_drew1) | exact HB.out)))); have n2_ := Aside0.mk (below_step (by repeat (first | (with_reducible first | exact HB.out | apply below_alloc | apply pw_below_drewN | apply below_drew1) | exact HB.out)) hb); clear HO_0; clear HB; have HO_0 := n0_; have HO333 := n1_; have HB := n2_; clear n0_ n1_ n2_; (try clear hb); (try clear hb2); (try clear hk); (try clear hi); (try clear ho0)) | (go_at_call 24; (with_reducible refine (attestorref26_Reach.calls k1 _ _ t311 t334 _ ?side1 ?side2 A28.out).mono ?_); (case side1 => repeat (first | exact (Kd.R_reads' HO_0.out).2.2 | (with_reducible refine Kd.C_alloc ?_ _) | (with_reducible refine Kd.C_drewN ?_ _) | (with_reducible refine Kd.C_drew ?_))); (case side2 => exact (Kd.R_reads' HO_0.out).2.1); rintro e w31 ⟨v335, rfl, ho0, hb⟩; have n0_ := Aside0.mk (Kd.R_below (by (with_reducible repeat (first | apply Kd.R_alloc | apply Kd.R_drewN | apply Kd.R_drew)); exact HO_0.out) hb); have n1_ := Aside0.mk (Kd.R_elder' (by (with_reducible repeat (first | apply Kd.R_alloc | apply Kd.R_drewN | apply Kd.R_drew)); exact HO333.out) (Kd.R_base ho0) hb); have n2_ := Aside0.mk (Kd.R_lower (Kd.R_new' ho0 (Kd.R_lt (by (with_reducible repeat (first | apply Kd.R_alloc | apply Kd.R_drewN | apply Kd.R_drew)); exact HO333.out))) (below_size (by repeat (first | (with_reducible first | exact HB.out | apply below_alloc | apply pw_below_drewN | apply below_drew1) | exact HB.out)))); have n3_ := Aside0.mk (below_step (by repeat (first | (with_reducible first | exact HB.out | apply below_alloc | apply pw_below_drewN | apply below_drew1) | exact HB.out)) hb); clear HO_0; clear HO333; clear HB; have HO_0 := n0_; have HO333 := n1_; have HO336 := n2_; have HB := n3_; clear n0_ n1_ n2_ n3_; (try clear hb); (try clear hb2); (try clear hk); (try clear hi); (try clear ho0); obtain ⟨Ao32, co32, eo32⟩ := Kd.R_slice HO333.out; subst eo32; obtain ⟨Ao33, co33, eo33⟩ := Kd.R_slice HO336.out; subst eo33)); try go_wp2_with (first | (go_at_call 23; (with_reducible refine (isa_Reach.calls k1 _ _ t311 t331 _ ?side1 ?side2 ?side3 A27.out).mono ?_); (case side1 => repeat (first | exact (Kd.R_reads' HO_0.out).2.2 | (with_reducible refine Kd.C_alloc ?_ _) | (with_reducible refine Kd.C_drewN ?_ _) | (with_reducible refine Kd.C_drew ?_))); (case side2 => exact (Kd.R_reads' HO_0.out).2.1); (case side3 => repeat (first | exact (GL.below HRG.out HB.out) | (with_reducible refine GL.alloc ?_ _) | (with_reducible refine GL.drewN ?_ _) | (with_reducible refine GL.drew ?_))); rintro e w30 ⟨v332, rfl, ho0, hb⟩; have n0_ := Aside0.mk (Kd.R_below (by (with_reducible repeat (first | apply Kd.R_alloc | apply Kd.R_drewN | apply Kd.R_drew)); exact HO_0.out) hb); have n1_ := Aside0.mk (Kd.R_lower ho0 (below_size (by repeat (first | (with_reducible first | exact HB.out | apply below_alloc | apply pw_below_drewN | apply below_drew1) | exact HB.out)))); have n2_ := Aside0.mk (below_step (by repeat (first | (with_reducible first | exact HB.out | apply below_alloc | apply pw_below_drewN | apply below_drew1) | exact HB.out)) hb); clear HO_0; clear HB; have HO_0 := n0_; have HO333 := n1_; have HB := n2_; clear n0_ n1_ n2_; (try clear hb); (try clear hb2); (try clear hk); (try clear hi); (try clear ho0)) | (go_at_call 24; (with_reducible refine (attestorref26_Reach.calls k1 _ _ t311 t334 _ ?side1 ?side2 A28.out).mono ?_); (case side1 => repeat (first | exact (Kd.R_reads' HO_0.out).2.2 | (with_reducible refine Kd.C_alloc ?_ _) | (with_reducible refine Kd.C_drewN ?_ _) | (with_reducible refine Kd.C_drew ?_))); (case side2 => exact (Kd.R_reads' HO_0.out).2.1); rintro e w31 ⟨v335, rfl, ho0, hb⟩; have n0_ := Aside0.mk (Kd.R_below (by (with_reducible repeat (first | apply Kd.R_alloc | apply Kd.R_drewN | apply Kd.R_drew)); exact HO_0.out) hb); have n1_ := Aside0.mk (Kd.R_elder' (by (with_reducible repeat (first | apply Kd.R_alloc | apply Kd.R_drewN | apply Kd.R_drew)); exact HO333.out) (Kd.R_base ho0) hb); have n2_ := Aside0.mk (Kd.R_lower (Kd.R_new' ho0 (Kd.R_lt (by (with_reducible repeat (first | apply Kd.R_alloc | apply Kd.R_drewN | apply Kd.R_drew)); exact HO333.out))) (below_size (by repeat (first | (with_reducible first | exact HB.out | apply below_alloc | apply pw_below_drewN | apply below_drew1) | exact HB.out)))); have n3_ := Aside0.mk (below_step (by repeat (first | (with_reducible first | exact HB.out | apply below_alloc | apply pw_below_drewN | apply below_drew1) | exact HB.out)) hb); clear HO_0; clear HO333; clear HB; have HO_0 := n0_; have HO333 := n1_; have HO336 := n2_; have HB := n3_; clear n0_ n1_ n2_ n3_; (try clear hb); (try clear hb2); (try clear hk); (try clear hi); (try clear ho0); obtain ⟨Ao32, co32, eo32⟩ := Kd.R_slice HO333.out; subst eo32; obtain ⟨Ao33, co33, eo33⟩ := Kd.R_slice HO336.out; subst eo33)))
            go_loopg [9] k1 (fun kq v9 w' => ∃ (x9_2 : Int), v9 = .int .i64 x9_2 ∧ Aside0 (attestorlaw26_IsaValids.l1 kq t331 t334 x9_2 = some r) ∧ Aside0 (kq ≤ k1) ∧ Aside0 (Kd.R Kd.bool 4 w' w.heap.size (fun k_ => some k_ ≠ ((.slice Ao33 t334.length co33) : Value).ownBlock) (.slice Ao32 t331.length co32) t331) ∧ Aside0 (Kd.R Kd.bool 4 w' w.heap.size (fun k_ => some k_ ≠ ((.slice Ao32 t331.length co32) : Value).ownBlock) (.slice Ao33 t334.length co33) t334) ∧ Aside0 (Below w.heap.size w w'))
            case atStart => exact ⟨(0), (by first | rfl | (simp; done) | (simp [*]; done) | (simp; rfl) | (simp; decide +kernel)), H', ⟨Nat.le_refl _⟩, ⟨by (with_reducible repeat (first | apply Kd.R_alloc | apply Kd.R_drewN | apply Kd.R_drew)); exact Kd.R_mono HO333.out (fun _ hk => hk.2)⟩, ⟨by (with_reducible repeat (first | apply Kd.R_alloc | apply Kd.R_drewN | apply Kd.R_drew)); exact Kd.R_mono HO336.out (fun _ hk => hk.2)⟩, ⟨by repeat (first | (with_reducible first | exact HB.out | apply below_alloc | apply pw_below_drewN | apply below_drew1) | exact HB.out)⟩⟩
            case round =>
              clear H'
              try clear c1
              try clear c2
              try clear p2
              try clear c6
              try clear c6b0
              try clear c6b1
              try clear p6
              try clear c11
              try clear c11b0
              try clear c13
              try clear c13b0
              try clear c13b1
              try clear c16
              try clear c16b0
              try clear c20
              try clear c29
              try clear c29b0
              try clear c29b1
              try clear c29b2
              try clear p2
              try clear p6
              obtain ⟨x9_2, rfl, HA, HK2, HO_7, HO_8, HB⟩ := hrel
              cases gk with
              | zero => exact absurd HA.out (by simp [attestorlaw26_IsaValids.l1])
              | succ k2 =>
                have H := HA.out
                clear HA
                simp only [attestorlaw26_IsaValids.l1] at H
                by_cases c34 : x9_2 < (t334.length : Int)
                · rw [if_pos c34] at H
                  have c34b0 : decide (x9_2 < (t334.length : Int)) = true := decide_eq_true c34
                  clear c34
                  by_cases c35 : 0 ≤ x9_2
                  · rw [if_pos c35] at H
                    have c35b0 : decide (0 ≤ x9_2) = true := decide_eq_true c35
                    clear c35
                    by_cases c36 : x9_2 < (t331.length : Int)
                    · rw [if_pos c36] at H
                      have c36b0 : decide (x9_2 < (t331.length : Int)) = true := decide_eq_true c36
                      clear c36
                      by_cases c37 : ((rdOf false t331 x9_2) != (rdOf false t334 x9_2)) = true
                      · rw [if_pos c37] at H
                        exact absurd H (by simp)
                      · rw [if_neg c37] at H
                        have c37b0 : ((rdOf false t331 x9_2) != (rdOf false t334 x9_2)) = false := by simpa using c37
                        (try (have c37b1 : decide ((rdOf false t331 x9_2) = (rdOf false t334 x9_2)) = true := by simpa using c37))
                        (try (have c37b2 : ((rdOf false t331 x9_2) == (rdOf false t334 x9_2)) = true := by simpa using c37))
                        clear c37
                        have H' := Aside0.mk H
                        clear H
                        have p337 : 0 ≤ (x9_2 : Int) := of_decide_eq_true (by first | (with_reducible assumption) | assumption)
                        have q337 : x9_2 < (t331.length : Int) := of_decide_eq_true (by first | (with_reducible assumption) | assumption)
                        obtain ⟨ad337, e337, hx337_0⟩ := Kd.at_bool (Kd.R_reads' HO_7.out).2.2 x9_2 p337 q337
                        cases e337
                        replace p337 := eq_true p337
                        replace q337 := eq_true q337
                        have p338 : 0 ≤ (x9_2 : Int) := of_decide_eq_true (by first | (with_reducible assumption) | assumption)
                        have q338 : x9_2 < (t334.length : Int) := of_decide_eq_true (by first | (with_reducible assumption) | assumption)
                        obtain ⟨ad338, e338, hx338_0⟩ := Kd.at_bool (Kd.R_reads' HO_8.out).2.2 x9_2 p338 q338
                        cases e338
                        replace p338 := eq_true p338
                        replace q338 := eq_true q338
                        go_wp2
                        repeat (go_quiet (fail); try go_wp2)
                        go_roundg k2
                        case measure => have := HK1.out; have := HK2.out; omega
                        case rel => exact ⟨(wrap64 (x9_2 + 1)), (by first | rfl | (simp; done) | (simp [*]; done) | (simp; rfl) | (simp; decide +kernel)), H', ⟨by have := HK1.out; have := HK2.out; omega⟩, ⟨by (with_reducible repeat (first | apply Kd.R_alloc | apply Kd.R_drewN | apply Kd.R_drew)); exact HO_7.out⟩, ⟨by (with_reducible repeat (first | apply Kd.R_alloc | apply Kd.R_drewN | apply Kd.R_drew)); exact HO_8.out⟩, ⟨by repeat (first | (with_reducible first | exact HB.out | apply below_alloc | apply pw_below_drewN | apply below_drew1) | exact HB.out)⟩⟩
                    · rw [if_neg c36] at H
                      exact absurd H (by simp)
                  · rw [if_neg c35] at H
                    exact absurd H (by simp)
                · rw [if_neg c34] at H
                  have c34b0 : decide (x9_2 < (t334.length : Int)) = false := decide_eq_false c34
                  clear c34
                  replace H := Option.bind_eq_some_iff.mp H
                  obtain ⟨t339, A380, H⟩ := H
                  replace H : (some t339) = some r := H
                  have A38 := Aside0.mk A380
                  clear A380
                  obtain rfl := Option.some.inj H
                  go_wp2_with (first | (go_at_call 13; (with_reducible refine (attestorlaw26_lives.calls k2  t339 _ ?side1 A38.out).mono ?_); (case side1 => repeat (first | exact (GL.below HRG.out HB.out) | (with_reducible refine GL.alloc ?_ _) | (with_reducible refine GL.drewN ?_ _) | (with_reducible refine GL.drew ?_))); rintro e w39 ⟨rfl, hb⟩; have n0_ := Aside0.mk (Kd.R_below (by (with_reducible repeat (first | apply Kd.R_alloc | apply Kd.R_drewN | apply Kd.R_drew)); exact HO_7.out) hb); have n1_ := Aside0.mk (Kd.R_below (by (with_reducible repeat (first | apply Kd.R_alloc | apply Kd.R_drewN | apply Kd.R_drew)); exact HO_8.out) hb); have n2_ := Aside0.mk (below_step (by repeat (first | (with_reducible first | exact HB.out | apply below_alloc | apply pw_below_drewN | apply below_drew1) | exact HB.out)) hb); clear HO_7; clear HO_8; clear HB; have HO_7 := n0_; have HO_8 := n1_; have HB := n2_; clear n0_ n1_ n2_; (try clear hb); (try clear hb2); (try clear hk); (try clear hi)))
                  repeat (go_quiet (first | (go_at_call 13; (with_reducible refine (attestorlaw26_lives.calls k2  t339 _ ?side1 A38.out).mono ?_); (case side1 => repeat (first | exact (GL.below HRG.out HB.out) | (with_reducible refine GL.alloc ?_ _) | (with_reducible refine GL.drewN ?_ _) | (with_reducible refine GL.drew ?_))); rintro e w39 ⟨rfl, hb⟩; have n0_ := Aside0.mk (Kd.R_below (by (with_reducible repeat (first | apply Kd.R_alloc | apply Kd.R_drewN | apply Kd.R_drew)); exact HO_7.out) hb); have n1_ := Aside0.mk (Kd.R_below (by (with_reducible repeat (first | apply Kd.R_alloc | apply Kd.R_drewN | apply Kd.R_drew)); exact HO_8.out) hb); have n2_ := Aside0.mk (below_step (by repeat (first | (with_reducible first | exact HB.out | apply below_alloc | apply pw_below_drewN | apply below_drew1) | exact HB.out)) hb); clear HO_7; clear HO_8; clear HB; have HO_7 := n0_; have HO_8 := n1_; have HB := n2_; clear n0_ n1_ n2_; (try clear hb); (try clear hb2); (try clear hk); (try clear hi))); try go_wp2_with (first | (go_at_call 13; (with_reducible refine (attestorlaw26_lives.calls k2  t339 _ ?side1 A38.out).mono ?_); (case side1 => repeat (first | exact (GL.below HRG.out HB.out) | (with_reducible refine GL.alloc ?_ _) | (with_reducible refine GL.drewN ?_ _) | (with_reducible refine GL.drew ?_))); rintro e w39 ⟨rfl, hb⟩; have n0_ := Aside0.mk (Kd.R_below (by (with_reducible repeat (first | apply Kd.R_alloc | apply Kd.R_drewN | apply Kd.R_drew)); exact HO_7.out) hb); have n1_ := Aside0.mk (Kd.R_below (by (with_reducible repeat (first | apply Kd.R_alloc | apply Kd.R_drewN | apply Kd.R_drew)); exact HO_8.out) hb); have n2_ := Aside0.mk (below_step (by repeat (first | (with_reducible first | exact HB.out | apply below_alloc | apply pw_below_drewN | apply below_drew1) | exact HB.out)) hb); clear HO_7; clear HO_8; clear HB; have HO_7 := n0_; have HO_8 := n1_; have HB := n2_; clear n0_ n1_ n2_; (try clear hb); (try clear hb2); (try clear hk); (try clear hi))))
                  go_ret
                  exact ⟨by first | rfl | (simp [errW_none, errW_some] <;> rfl) | (simp [*, errW_none, errW_some] <;> rfl), by repeat (first | (with_reducible first | exact HB.out | apply below_alloc | apply pw_below_drewN | apply below_drew1) | exact HB.out)⟩
          · rw [if_neg c29] at H
            exact absurd H (by simp)
  · rw [if_neg c6] at H
    exact absurd H (by simp)

end Go.Proofs.YtamjeglenbokfaaDoor.Q
end
section
namespace Go.Proofs.YtamjeglenbokfaaDoor.Q
open Go.RowKit Go.Proofs.YtamjeglenbokfaaDoorW.PrintWords Go.Proofs.YtamjeglenbokfaaDoorW.PrintLast Go.Proofs.YtamjeglenbokfaaDoorW.PrintMore
set_option linter.unusedVariables false
set_option linter.unusedSimpArgs false
theorem places_l0 (l : List Int) : ∀ (d i k : Nat), l.length - i = d → i ≤ l.length → l.length ≤ 1000 → d < k → attestorlaw26_places.l0 k l l (i : Int) = some true := by
  intro d
  induction d with
  | zero =>
    intro i k hd hi hl hk
    obtain ⟨k, rfl⟩ : ∃ q, k = q + 1 := ⟨k - 1, by omega⟩
    rw [attestorlaw26_places.l0, if_neg (by omega)]
  | succ d ih =>
    intro i k hd hi hl hk
    obtain ⟨k, rfl⟩ : ∃ q, k = q + 1 := ⟨k - 1, by omega⟩
    have hi2 : i < l.length := by omega
    rw [attestorlaw26_places.l0, if_pos (jlt hi2), if_pos (Int.natCast_nonneg _), if_pos (jlt hi2), if_pos rfl, wrs hi2 (by omega)]
    exact ih (i + 1) k (by omega) (by omega) hl (by omega)
theorem places_f (l : List Int) (k : Nat) (hl : l.length ≤ 1000) (hk : l.length < k) : attestorlaw26_places.f k l l = some true := by
  unfold attestorlaw26_places.f
  rw [if_pos rfl]
  exact places_l0 l l.length 0 k rfl (Nat.zero_le _) hl hk
theorem vals_l1 (t : List Bool) (ht : t.length ≤ 41) : ∀ (d i k : Nat), t.length - i = d → i ≤ t.length → d + 50 < k → attestorlaw26_IsaValids.l1 k t t (i : Int) = some true := by
  intro d
  induction d with
  | zero =>
    intro i k hd hi hk
    obtain ⟨k, rfl⟩ : ∃ q, k = q + 1 := ⟨k - 1, by omega⟩
    rw [attestorlaw26_IsaValids.l1, if_neg (by omega)]
    exact bnd (lives_true k (by omega)) rfl
  | succ d ih =>
    intro i k hd hi hk
    obtain ⟨k, rfl⟩ : ∃ q, k = q + 1 := ⟨k - 1, by omega⟩
    have hi2 : i < t.length := by omega
    rw [attestorlaw26_IsaValids.l1, if_pos (jlt hi2), if_pos (Int.natCast_nonneg _), if_pos (jlt hi2), if_neg (by simp), wrs hi2 (by omega)]
    exact ih (i + 1) k (by omega) (by omega) (by omega)
set_option maxRecDepth 100000 in
theorem vals_l0 (l : List S37) (hw : ∀ i ∈ l, wfI i) (hn : l.length ≤ 40) (a : Int) : ∀ (d k : Nat) (x : Int), x = (l.length : Int) + 3 - (d : Int) → -2 ≤ x → 13100 + 2 * d ≤ k → attestorlaw26_IsaValids.l0 k l a x = some true := by
  intro d
  have hw2 : wrap64 ((l.length : Int) + 2) = (l.length : Int) + 2 := by unfold wrap64; omega
  induction d with
  | zero =>
    intro k x hx h2 hk
    obtain ⟨k, rfl⟩ : ∃ q, k = q + 1 := ⟨k - 1, by omega⟩
    rw [attestorlaw26_IsaValids.l0, hw2, if_neg (by omega)]
    obtain ⟨t, h1, h3, h4⟩ := reach_both l hw hn k (by omega)
    refine bnd h1 (bnd h3 ((if_pos rfl).trans ?_))
    exact vals_l1 t h4 t.length 0 k rfl (Nat.zero_le _) (by omega)
  | succ d ih =>
    intro k x hx h2 hk
    obtain ⟨k, rfl⟩ : ∃ q, k = q + 2 := ⟨k - 2, by omega⟩
    have next := ih k (x + 1) (by omega) (by omega) (by omega)
    clear ih
    have hwx : wrap64 (x + 1) = x + 1 := by unfold wrap64; omega
    have hj : ∀ y : Int, attestorlaw26_IsaValids.j1 (k + 1) l a x y = some true := by
      intro y
      obtain ⟨ts, n1, n2, n3, _⟩ := next_all l hw hn y k (by omega)
      rw [attestorlaw26_IsaValids.j1, hwx]
      refine bnd (fetch_f l y) (bnd (rfetch_f l y) ((if_neg (by simp)).trans (bnd n1 (bnd n2 (bnd (places_f ts k (by omega) (by omega)) ((if_pos rfl).trans next))))))
    rw [attestorlaw26_IsaValids.l0, hw2, if_pos (by omega)]
    exact iteb (fun _ => hj a) (fun _ => hj x)
set_option maxRecDepth 100000 in
theorem valids_true (l : List S37) (hw : ∀ i ∈ l, wfI i) (a : Int) : ∃ k, attestorlaw26_IsaValids.f k l a = some true := by
  obtain ⟨L, hL, hn, hm⟩ := cut_f l
  have hwL : ∀ i ∈ L, wfI i := fun i hi => hw i (hm i hi)
  obtain ⟨e, h1, h2, _⟩ := valid_same L hwL hn 14000 (by omega)
  refine ⟨14000, ?_⟩
  unfold attestorlaw26_IsaValids.f
  refine bnd hL (bnd h1 (bnd h2 ((if_pos rfl).trans ?_)))
  exact vals_l0 L hwL hn a (L.length + 5) 14000 (-2) (by omega) (by omega) (by omega)
end Go.Proofs.YtamjeglenbokfaaDoor.Q
end
section
namespace Go.Proofs.YtamjeglenbokfaaDoor.Q
open Go.ChangeShapes Go.WideShapes Go.ChangeAt Go.WideMaps Go.WideElems Go.RowKit
open Go.Proofs.YtamjeglenbokfaaDoorW.PrintWords Go.Proofs.YtamjeglenbokfaaDoorW.PrintLast Go.Proofs.YtamjeglenbokfaaDoorW.PrintMore
open Go.Proofs.YtamjeglenbokfaaDoor.Opn
set_option linter.unusedVariables false

set_option maxRecDepth 100000 in
theorem isaValids_lifted (os : Os) (started : os.Started) (H : Type) (enc : TypeId × Value → H) :
    ReturnsInHanded {} Tryd.checked os 6 .any (fun w args => (Rows.isaValidsSpec.pre enc Tryd.prog Tryd.f6 [] false w args ∧ laidMetH Tryd.prog laid1 w) ∧ sizedMet enc Tryd.prog Tryd.f6 (OpenSpec.ofChange Rows.isaValidsSpec) false w args)
      (Rows.isaValidsSpec.post enc Tryd.prog Tryd.f6 false true false false) := by
  refine returnsInHanded_of_change_and (C := Tryd.checked) (X := (fun w _ => laidMetH Tryd.prog laid1 w)) (fun _ _ _ hh h => h.of_heap hh) own started (by kernel_rfl) Tryd.func6
    (ChangeSpec.witness_shaped (enc := enc) (C := Tryd.checked) (os := os) (X := (fun w _ => laidMetH Tryd.prog laid1 w)) false (World.doorLaid Tryd.prog 400 os) #[.slice none 0 0, .int .i64 0] 8 rfl (World.shaped_of_RefB (by kernel_rfl) (by kernel_rfl)) (by kernel_rfl) (by kernel_rfl) (by kernel_rfl) (door_met os _)) ?_
  intro W base args ds gs before hval0 hW _ _ hL _
  have hval : ∀ (j : Nat) t v, Tryd.f6.params[j]? = some t → args[j]? = some v → Value.okWide Tryd.prog W .any base t v := hval0
  have hW' := hW
  obtain ⟨p, q, hA0, hV, rfl, hfz, hnd⟩ := hW
  have hA : DataW.TrodAll enc Tryd.prog W 0 (fun _ => true) true Tryd.f6.params.toList args.toList ds p := hA0
  rw [Tryd.params6] at hA hval
  obtain ⟨v0, vs0, d0, ds0, p0, q0, hargs, rfl, rfl, h0, r0⟩ := trodAll_cons hA
  obtain ⟨v1, vs1, d1, ds1, p1, q1, rfl, rfl, rfl, h1, r1⟩ := trodAll_cons r0
  obtain ⟨rfl, rfl, rfl⟩ := trodAll_nil r1
  obtain rfl : args = #[v0, v1] := by cases args; simp_all
  obtain ⟨rfl, rfl⟩ := trodVars_none hV
  obtain ⟨a0, len0, cap0, rfl⟩ := okWide_slice Tryd.underlying23 (hval 0 23 v0 rfl rfl)
  have k0 := h0
  have lt0 : ∀ x ∈ p0, x.block < W.heap.size := by obtain ⟨m, hm⟩ := k0; exact DataW.trod_lt m _ _ _ hm
  obtain ⟨m0, hm0⟩ := h0
  obtain ⟨l0, ⟨A0, c0, hc0, hle0, hC0⟩, hw0⟩ := opn23 (enc := enc) (W := W) m0 _ _ hm0
  simp only [Value.cells, List.cons.injEq, and_true, Value.slice.injEq] at hc0
  obtain ⟨rfl, rfl, rfl⟩ := hc0
  obtain ⟨a1, rfl, rfl, rfl, w1⟩ := open_int Tryd.underlying3 (hval 1 3 v1 rfl rfl) h1
  clear hA0 hval0
  refine (attestorlaw26_IsaValids.calls _ a0 cap0 l0 a1 true W hC0 hle0 (gl_of_laid hL) (valids_true l0 (fun i hi => wfI_of (hw0 i hi)) a1).choose_spec).mono fun e W' ⟨he, bel⟩ => ?_
  subst he
  exact ⟨_, rfl, _, _, _, [], _, [], hW', trodAll_mk1 (shut_bool Tryd.underlying4 _), (trodAll_cons_mk (Below.trod laidOut (by kernel_rfl) (of_decide_eq_true (by kernel_rfl)) k0 bel lt0) (trodAll_cons_mk (shut_int Tryd.underlying3 w1) trodAll_mk0)), rfl, bel.frame _, fun h => by cases h⟩
theorem isaValids_row : Rows.IsaValidsSaid :=
  OpenClaim.holds_of_wide 6 Tryd.f6 rfl rfl rfl rfl rfl rfl rfl ⟨rfl, rfl, rfl, rfl, rfl⟩ rfl rfl rfl rfl rfl (by kernel_rfl) Tryd.func6 (by kernel_rfl)
    (of_decide_eq_true (by kernel_rfl)) (by unfold Func.isWrapper; first | (rw [if_pos (by decide +kernel)]; kernel_rfl) | (rw [if_neg (by decide +kernel)]; exact ⟨rfl, rfl⟩))
    (fun os started H enc _ => isaValids_lifted os started H enc)
theorem isaValids_card : Rows.IsaValidsCardSaid :=
  Claim7.holds_tied_plain_at .later [] [.data] true Rows.isaValidsCard.stood.harness false
    isaValids_row (fun _ h => by cases h) (by kernel_rfl) (fun _ h => by cases h) isaValids_row_tie rfl ⟨rfl, rfl⟩ (by kernel_rfl) rfl
    (fun f fn hf hfn => by
      obtain rfl : f = 6 := Option.some.inj ((show Tryd.prog.funcNamed "attestor/attestorlaw26.IsaValids" = some 6 by kernel_rfl).symm.trans hf) |>.symm
      obtain rfl : fn = Tryd.f6 := (Option.some.inj (Tryd.func6.symm.trans hfn)).symm
      exact ⟨by kernel_rfl, fun j t ht => by
        rw [Tryd.params6] at ht
        have hm : t ∈ [23, 3] := by simpa using Array.mem_of_getElem? ht
        have hall : ([23, 3].all fun u => !Tryd.prog.wantsStandIn u) = true := by kernel_rfl
        exact (show Tryd.prog.wantsStandIn t = false by simpa using List.all_eq_true.1 hall t hm)⟩)
    (by kernel_rfl)
end Go.Proofs.YtamjeglenbokfaaDoor.Q
namespace Go.Proofs.YtamjeglenbokfaaDoor
/-- Under a short name, for the claim. -/
theorem isaValids_holds : Rows.IsaValidsCardSaid := Q.isaValids_card
end Go.Proofs.YtamjeglenbokfaaDoor
#print axioms Go.Proofs.YtamjeglenbokfaaDoor.isaValids_holds
end
