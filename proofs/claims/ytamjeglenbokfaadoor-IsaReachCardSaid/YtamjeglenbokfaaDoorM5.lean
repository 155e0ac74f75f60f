/- Several texts in one, in build order. What they prove, each by its own first remark:
isa.Reach by hand (its closure calls itself through a captured variable): what it computes, and its contract.
Of PReach what this claim needs.
A great array of truth values that is made in memory: told as a row of the call's own.
Written by our own copy of a printing program (a twelfth state) out of the translation. Not trusted: Lean checks it.
Of PLeastR what this claim needs.
For all arguments attestorlaw26.IsaReach returns true and leaves them as they were, where the variable 'uses' holds what the program's text lays (the card ties that): no other condition. -/
import Derived.Test.YtamjeglenbokfaaDoorM2
import Derived.Test.YtamjeglenbokfaaDoorM4
import Derived.Test.YtamjeglenbokfaaDoorCards
import Derived.Test.YtamjeglenbokfaaDoorTie
import Derived.SevenTiedAt
import Derived.SizedLaws
import Derived.ShutString
import Derived.ChangeOld
import Derived.ProofKit
import Derived.Below
import Derived.OpenShut
section
namespace Go.Proofs.YtamjeglenbokfaaDoor.Q
open Go.RowKit Go.Proofs.YtamjeglenbokfaaDoorW.PrintWords Go.Proofs.YtamjeglenbokfaaDoorW.PrintLast Go.Proofs.YtamjeglenbokfaaDoorW.PrintMore
theorem run_store_clo (P : Program) (w : World) (a : Addr) (m : Mode) (fn : Fn) (first captured : Array Value) : (store a (.func fn first captured) m).run P w = stored P w a (.func fn first captured) m := run_store P w a _ m rfl
attribute [local go_sem] run_store_clo max2_int min2_int max_two min_two max_three min_three max_four min_four
set_option linter.unusedVariables false
set_option linter.unusedSimpArgs false
mutual
def isa_Reach.v : Nat → List S37 → List Bool → Int → Option (List Bool)
  | 0, _, _, _ => none
  | k + 1, l, s, x => if 0 ≤ x then (if x < (s.length : Int) then (if rdOf false s x = true then some s else ((isa_after.f k l x).bind fun ts => isa_Reach.lp k l ts 0 (s.set x.toNat true))) else none) else none
def isa_Reach.lp : Nat → List S37 → List Int → Int → List Bool → Option (List Bool)
  | 0, _, _, _, _ => none
  | k + 1, l, ts, i, s => if i < (ts.length : Int) then (if 0 ≤ i then ((isa_Reach.v k l s (rd ts i)).bind fun s' => isa_Reach.lp k l ts (wrap64 (i + 1)) s') else none) else some s
end
def isa_Reach.f (k : Nat) (l : List S37) : Option (List Bool) := (isa_Valid.f k l).bind fun e => (if e = 0 then (if 0 ≤ wrap64 ((l.length : Int) + 1) then (if (wrap64 ((l.length : Int) + 1)).toNat ≤ 281474976710656 then isa_Reach.v k l (List.replicate (wrap64 ((l.length : Int) + 1)).toNat false) 0 else none) else none) else some [])
theorem isa_Reach.mono_l : ∀ k, (∀ y0 y1 y2, LeO (isa_Reach.v k y0 y1 y2) (isa_Reach.v (k + 1) y0 y1 y2)) ∧ (∀ y0 y1 y2 y3, LeO (isa_Reach.lp k y0 y1 y2 y3) (isa_Reach.lp (k + 1) y0 y1 y2 y3))
  | 0 => ⟨fun _ _ _ r h => by simp [isa_Reach.v] at h, fun _ _ _ _ r h => by simp [isa_Reach.lp] at h⟩
  | k + 1 => by
    obtain ⟨ih0, ih1⟩ := isa_Reach.mono_l k
    refine ⟨?_, ?_⟩
    · intro y0 y1 y2
      unfold isa_Reach.v
      repeat' first
      | (with_reducible exact ih1 _ _ _ _)
      | (with_reducible exact isa_after.mono _ _ _)
      | (with_reducible exact LeO.refl _)
      | (with_reducible exact LeO.none _)
      | (with_reducible refine LeO.ite ?_ ?_)
      | (with_reducible refine LeO.bind ?_ (fun _ => ?_))
    · intro y0 y1 y2 y3
      unfold isa_Reach.lp
      repeat' first
      | (with_reducible exact ih0 _ _ _)
      | (with_reducible exact ih1 _ _ _ _)
      | (with_reducible exact LeO.refl _)
      | (with_reducible exact LeO.none _)
      | (with_reducible refine LeO.ite ?_ ?_)
      | (with_reducible refine LeO.bind ?_ (fun _ => ?_))
theorem isa_Reach.mono : ∀ a0 k, LeO (isa_Reach.f k a0) (isa_Reach.f (k + 1) a0) := by
  intro a0 k
  obtain ⟨ih0, ih1⟩ := isa_Reach.mono_l k
  unfold isa_Reach.f
  repeat' first
      | (with_reducible exact ih0 _ _ _)
      | (with_reducible exact isa_Valid.mono _ _)
      | (with_reducible exact LeO.refl _)
      | (with_reducible exact LeO.none _)
      | (with_reducible refine LeO.ite ?_ ?_)
      | (with_reducible refine LeO.bind ?_ (fun _ => ?_))
theorem grown_trans {a b c : World} {row : Option Nat} (h : a.grownBy b row) (k : b.grownBy c row) : a.grownBy c row :=
  ⟨k.os.trans h.os, k.tape.trans h.tape, k.output.trans h.output, Nat.le_trans h.size k.size, fun i hi hne => (k.block i (Nat.lt_of_lt_of_le hi h.size) hne).trans (h.block i hi hne)⟩
theorem grown_below {a b c : World} {row : Option Nat} (h : a.grownBy b row) (k : Below b.heap.size b c) : a.grownBy c row :=
  ⟨k.os.trans h.os, k.tape.trans h.tape, k.output.trans h.output, Nat.le_trans h.size k.size, fun i hi hne => (k.block i (Nat.lt_of_lt_of_le hi h.size)).trans (h.block i hi hne)⟩
/-- The closure: a visit. -/
abbrev rfn (gs gp gv : Nat) : Value := .func (.func 32) #[] #[.pointer (some ⟨gs, 0, none⟩), .pointer (some ⟨gp, 0, none⟩), .pointer (some ⟨gv, 0, none⟩)]
set_option maxHeartbeats 2000000 in
set_option maxRecDepth 100000 in
theorem reach1_calls (A0 : Option Addr) (c0 : Nat) (l0 : List S37) (hc0 : l0.length ≤ c0) (W0 : World) (hr0 : Kd.C k37 W0 A0 l0.length l0) (gs gp gv go co n : Nat) (hgo : W0.heap.size ≤ go) : ∀ (k : Nat) (s r : List Bool) (x : Int) (w : World)
    (hS : w.heap[gs]? = some (.cells #[.slice (some ⟨go, 0, none⟩) n co] 42 (0, 0))) (hP : w.heap[gp]? = some (.cells #[.slice A0 l0.length c0] 23 (0, 0))) (hV : w.heap[gv]? = some (.cells #[rfn gs gp gv] 55 (0, 0)))
    (hO : Kd.R Kd.bool 4 w W0.heap.size (fun _ => True) (.slice (some ⟨go, 0, none⟩) n co) s) (hB : Below W0.heap.size W0 w) (h : isa_Reach.v k l0 s x = some r),
    Calls Tryd.prog 32 #[.int .i64 x, .pointer (some ⟨gs, 0, none⟩), .pointer (some ⟨gp, 0, none⟩), .pointer (some ⟨gv, 0, none⟩)] w fun e w' => e = .returned (.tuple #[]) ∧ Kd.R Kd.bool 4 w' W0.heap.size (fun _ => True) (.slice (some ⟨go, 0, none⟩) n co) r ∧ w.grownBy w' (some go) := by
  intro k
  have HR0 := Aside0.mk hr0
  have HC0 := Aside0.mk hc0
  clear hr0 hc0
  induction k using Nat.strongRecOn with
  | ind k ih =>
  have IH := Aside0.mk ih
  clear ih
  intro s r x w hS hP hV hO hB h
  cases k with
  | zero => exact absurd h (by simp [isa_Reach.v])
  | succ k =>
  have H := h
  clear h
  simp only [isa_Reach.v] at H
  have hl : n = s.length := (Kd.R_reads' hO).1
  have p0 : 0 ≤ x := by
    by_cases p : 0 ≤ x
    · exact p
    · rw [if_neg p] at H; exact absurd H (by simp)
  rw [if_pos p0] at H
  have q0 : x < (s.length : Int) := by
    by_cases p : x < (s.length : Int)
    · exact p
    · rw [if_neg p] at H; exact absurd H (by simp)
  rw [if_pos q0] at H
  have qn : x < (n : Int) := by rw [hl]; exact q0
  obtain ⟨hx, hf⟩ := Kd.R_celln false hO x p0 qn
  have hxp := hx
  have hne1 : gs ≠ go := by
    intro e
    obtain ⟨cells, hc⟩ := Kd.R_typed hO go rfl
    rw [← e, hS] at hc
    injection hc with hc
    injection hc with _ hc
    exact absurd hc (by decide)
  have hne2 : gp ≠ go := by
    intro e
    obtain ⟨cells, hc⟩ := Kd.R_typed hO go rfl
    rw [← e, hP] at hc
    injection hc with hc
    injection hc with _ hc
    exact absurd hc (by decide)
  have hne3 : gv ≠ go := by
    intro e
    obtain ⟨cells, hc⟩ := Kd.R_typed hO go rfl
    rw [← e, hV] at hc
    injection hc with hc
    injection hc with _ hc
    exact absurd hc (by decide)
  have HN1 := Aside0.mk hne1
  have HN2 := Aside0.mk hne2
  have HN3 := Aside0.mk hne3
  have HGO := Aside0.mk hgo
  clear hne1 hne2 hne3
  have HS := Aside0.mk hS
  have HP := Aside0.mk hP
  have HV := Aside0.mk hV
  have HO := Aside0.mk hO
  have HB := Aside0.mk hB
  have cs : w.cell? ⟨gs, 0, none⟩ = some (.slice (some ⟨go, 0, none⟩) n co) := (blk_cell hS 0).trans rfl
  have HL := Aside0.mk hl
  clear hS hP hV hO hB hl hgo
  have p0b : decide (0 ≤ x) = true := decide_eq_true p0
  have qnb : decide (x < (n : Int)) = true := decide_eq_true qn
  replace p0 := eq_true p0
  replace qn := eq_true qn
  clear q0
  generalize hbq : rdOf false s x = bq at *
  cases bq with
  | true =>
    rw [if_pos rfl] at H
    obtain rfl := Option.some.inj H
    go_enter Tryd.func32, Tryd.ntmps32
    go_wp2
    (try simp only [Exit.inBlock, Exit.then])
    refine bodyPost_ret (results_none rfl _ _ _) rfl ?_
    exact ⟨rfl, HO.out, World.grownBy.refl _ _⟩
  | false =>
    rw [if_neg (by decide)] at H
    obtain ⟨ts, A0_, H⟩ := Option.bind_eq_some_iff.mp H
    have A1 := Aside0.mk A0_
    clear A0_
    have H' := Aside0.mk H
    clear H
    have HP1 := Kd.R_putg HO.out x true
    go_enter Tryd.func32, Tryd.ntmps32
    go_wp2_with (first
      | ((with_reducible refine gate_store (t := 4) (p := 13) rfl ?_); refine store_event (t := 4) (p := 13) (v := ?vo_1) (w1 := (w.setCell ⟨go, x.toNat, none⟩ (.bool true))) ?hg ?ho ?hn ?hr ?_; (case ho => rfl); (case hg => rfl); (case hn => rfl); (case hr => first | (go_simp; done) | (go_simp; rfl)); intro w1 hw; have HG1 := Aside0.mk (by rw [hw]; exact HP1.2 : w.grownBy w1 (some go)); have HO1 := Aside0.mk (by rw [hw]; exact HP1.1 : Kd.R Kd.bool 4 w1 W0.heap.size (fun _ => True) (.slice (some ⟨go, 0, none⟩) n co) (s.set x.toNat true)); have HS1 := Aside0.mk (blk_grown HS.out HG1.out (fun e => HN1.out (Option.some.inj e))); have HP1 := Aside0.mk (blk_grown HP.out HG1.out (fun e => HN2.out (Option.some.inj e))); have HV1 := Aside0.mk (blk_grown HV.out HG1.out (fun e => HN3.out (Option.some.inj e))); have HB1 := Aside0.mk (HB.out.grown HG1.out HB.out.size (fun k_ e => by injection e with e; rw [← e]; exact HGO.out)); clear hw cs hx hxp hf; have cp : w1.cell? ⟨gp, 0, none⟩ = some (.slice A0 l0.length c0) := (blk_cell HP1.out 0).trans rfl)
      | (go_at_call 31; (with_reducible refine (isa_after.calls k _ _ l0 x ts _ ?side1 ?side2 A1.out).mono ?_); (case side1 => exact Kd.C_below HR0.out HB1.out); (case side2 => exact HC0.out); rintro e w2 ⟨v2, rfl, ho0, hb⟩; have HG2 := Aside0.mk (grown_below HG1.out hb); have HO2 := Aside0.mk (Kd.R_below HO1.out hb); have HS2 := Aside0.mk (blk_below HS1.out hb); have HP2 := Aside0.mk (blk_below HP1.out hb); have HV2 := Aside0.mk (blk_below HV1.out hb); have HB2 := Aside0.mk (below_step HB1.out hb); have HT2 := Aside0.mk (Kd.R_lower ho0 (below_size HB1.out)); clear hb ho0 cp; obtain ⟨At, ct, et⟩ := Kd.R_slice HT2.out; subst et))
    try clear p0 p0b qn qnb hbq
    clear H HB1 HV1 HP1 HS1 HO1 HG1 HB HV HP HS HO
    go_loopg [18] k (fun kq v wr => ∃ (i : Int) (s2 : List Bool), v = .int .i64 i ∧ Aside0 (isa_Reach.lp kq l0 ts i s2 = some r) ∧ Aside0 (kq ≤ k) ∧ Aside0 (w.grownBy wr (some go)) ∧ Aside0 (Kd.R Kd.bool 4 wr W0.heap.size (fun _ => True) (.slice (some ⟨go, 0, none⟩) n co) s2) ∧ Aside0 (wr.heap[gs]? = some (.cells #[.slice (some ⟨go, 0, none⟩) n co] 42 (0, 0))) ∧ Aside0 (wr.heap[gp]? = some (.cells #[.slice A0 l0.length c0] 23 (0, 0))) ∧ Aside0 (wr.heap[gv]? = some (.cells #[rfn gs gp gv] 55 (0, 0))) ∧ Aside0 (Below W0.heap.size W0 wr) ∧ Aside0 (Kd.R (Kd.int .i64) 3 wr W0.heap.size (fun _ => True) (.slice At ts.length ct) ts))
    case atStart => exact ⟨0, _, rfl, H', ⟨Nat.le_refl _⟩, HG2, HO2, HS2, HP2, HV2, HB2, HT2⟩
    case round =>
      clear H' HG2 HO2 HS2 HP2 HV2 HB2 HT2
      obtain ⟨i, s2, rfl, HA, HK, HG, HO, HS, HP, HV, HB, HT⟩ := hrel
      cases gk with
      | zero => exact absurd HA.out (by simp [isa_Reach.lp])
      | succ k1 =>
        have H := HA.out
        clear HA
        simp only [isa_Reach.lp] at H
        by_cases c1 : i < (ts.length : Int)
        · rw [if_pos c1] at H
          have c1b : decide (i < (ts.length : Int)) = true := decide_eq_true c1
          have p1 : 0 ≤ i := by
            by_cases p : 0 ≤ i
            · exact p
            · rw [if_neg p] at H; exact absurd H (by simp)
          rw [if_pos p1] at H
          obtain ⟨s3, A0_, H⟩ := Option.bind_eq_some_iff.mp H
          have A3 := Aside0.mk A0_
          have H' := Aside0.mk H
          clear A0_ H
          obtain ⟨ad, e, hx0⟩ := Kd.at_int (Kd.R_reads' HT.out).2.2 i p1 c1
          subst e
          have cv : wr.cell? ⟨gv, 0, none⟩ = some (rfn gs gp gv) := (blk_cell HV.out 0).trans rfl
          have C := Aside0.mk (IH.out k1 (by have := HK.out; omega) s2 s3 (rd ts i) wr HS.out HP.out HV.out HO.out HB.out A3.out)
          have p1b : decide (0 ≤ i) = true := decide_eq_true p1
          replace p1 := eq_true p1
          replace c1 := eq_true c1
          go_wp2_with (go_at_call 32; (with_reducible refine C.out.mono ?_); rintro e w3 ⟨rfl, ho, hg⟩; have HT3 := Aside0.mk (Kd.R_over' (v := .slice (some ⟨go, 0, none⟩) n co) HT.out (Kd.R_typed HO.out) (by decide) hg); have HG3 := Aside0.mk (grown_trans HG.out hg); have HS3 := Aside0.mk (blk_grown HS.out hg (fun e => HN1.out (Option.some.inj e))); have HP3 := Aside0.mk (blk_grown HP.out hg (fun e => HN2.out (Option.some.inj e))); have HV3 := Aside0.mk (blk_grown HV.out hg (fun e => HN3.out (Option.some.inj e))); have HB3 := Aside0.mk (HB.out.grown hg HB.out.size (fun k_ e => by injection e with e; rw [← e]; exact HGO.out)); have HO3 := Aside0.mk ho; clear ho hg)
          go_roundg k1
          case measure => omega
          case rel => exact ⟨_, _, rfl, H', ⟨by have := HK.out; omega⟩, HG3, HO3, HS3, HP3, HV3, HB3, HT3⟩
        · rw [if_neg c1] at H
          have c1b : decide (i < (ts.length : Int)) = false := decide_eq_false c1
          obtain rfl := Option.some.inj H
          go_wp2
          go_end0
          exact ⟨rfl, HO.out, HG.out⟩
theorem isa_Reach.v_pos {k : Nat} {l : List S37} {s r : List Bool} {x : Int} (h : isa_Reach.v k l s x = some r) : 0 ≤ x ∧ x < (s.length : Int) := by
  cases k with
  | zero => exact absurd h (by simp [isa_Reach.v])
  | succ k =>
    simp only [isa_Reach.v] at h
    by_cases p : 0 ≤ x
    · rw [if_pos p] at h
      by_cases q : x < (s.length : Int)
      · exact ⟨p, q⟩
      · rw [if_neg q] at h; exact absurd h (by simp)
    · rw [if_neg p] at h; exact absurd h (by simp)
theorem grown_set (w : World) (g j : Nat) (v : Value) : w.grownBy (w.setCell ⟨g, j, none⟩ v) (some g) :=
  ⟨rfl, rfl, rfl, by simp [World.setCell], fun k hk hne => Below.heap_setCell _ _ _ _ (fun e => hne (by rw [e]))⟩
set_option maxHeartbeats 2000000 in
set_option maxRecDepth 100000 in
theorem isa_Reach.calls (k : Nat) (A0 : Option Addr) (c0 : Nat) (l0 : List S37) (r : List Bool) (w : World) (hr0 : Kd.C k37 w A0 l0.length l0) (hc0 : l0.length ≤ c0) (hrG : GL w) (h : isa_Reach.f k l0 = some r) :
    Calls Tryd.prog 23 #[.slice A0 l0.length c0] w fun e w' => ∃ v0_ : Value, e = .returned (v0_) ∧ Kd.R Kd.bool 4 w' w.heap.size (fun _ => True) v0_ r ∧ Below w.heap.size w w' := by
  have hmf : ∀ (fn : Fn) (first cap : Array Value) (w : World), (Instr.makeFunc fn first cap).run Tryd.prog w = .ok (.func fn first cap) w := fun _ _ _ _ => rfl
  have HRG := Aside0.mk hrG
  have HR0 := Aside0.mk hr0
  have HC0 := Aside0.mk hc0
  clear hrG hr0 hc0
  have HB0 := Aside0.mk (Below.refl w.heap.size w)
  have H := h
  clear h
  unfold isa_Reach.f at H
  obtain ⟨e0, A0_, H⟩ := Option.bind_eq_some_iff.mp H
  have A1 := Aside0.mk A0_
  clear A0_
  by_cases c1 : e0 = 0
  · rw [if_pos c1] at H
    have c1a : (e0 == 0) = true := beq_iff_eq.mpr c1
    have c1b : (e0 != 0) = false := bne_eq_false_iff_eq.mpr c1
    clear c1
    obtain ⟨N, hN⟩ : ∃ j_ : Int, wrap64 ((l0.length : Int) + 1) = j_ := ⟨_, rfl⟩
    rw [hN] at H
    have hNw : (IntKind.i64.wrap ((l0.length : Int) + 1)) = N := (i64_w _).trans hN
    have p0 : 0 ≤ N := by
      by_cases p : 0 ≤ N
      · exact p
      · rw [if_neg p] at H; exact absurd H (by simp)
    rw [if_pos p0] at H
    have p1 : N.toNat ≤ 281474976710656 := by
      by_cases p : N.toNat ≤ 281474976710656
      · exact p
      · rw [if_neg p] at H; exact absurd H (by simp)
    rw [if_pos p1] at H
    have P0 := Aside0.mk p0
    have P1 := Aside0.mk p1
    have HV := Aside0.mk H
    have hpos := isa_Reach.v_pos H
    have HPOS := Aside0.mk hpos.2
    clear H p0 p1 hpos hN
    go_enter Tryd.func23, Tryd.ntmps23
    go_wp2_with (first
      | ((with_reducible refine gate_dst (N := 1) rfl ?_); refine box_event ?hg (N := 1) ?hd (cs := #[.slice A0 l0.length c0]) (t := 23) ?hr ?_; (case hd => rfl); (case hg => rfl); (case hr => first | (go_simp; done) | (go_simp; rfl)); intro gp xg w1 yC hb; have HB1 := Aside0.mk (below_step HB0.out hb); have HP1 := Aside0.mk yC; clear xg yC hb; have d1 : w1.cell? ⟨gp, 0, none⟩ = some (.slice A0 l0.length c0) := (blk_cell HP1.out 0).trans rfl)
      | (go_at_call 16; (with_reducible refine (isa_Valid.calls k _ _ l0 e0 _ ?side1 ?side2 ?side3 A1.out).mono ?_); (case side1 => exact Kd.C_below HR0.out HB1.out); (case side2 => exact HC0.out); (case side3 => exact GL.below HRG.out HB1.out); rintro e w2 ⟨rfl, hb⟩; have HB2 := Aside0.mk (below_step HB1.out hb); have HP2 := Aside0.mk (blk_below HP1.out hb); clear hb d1 HB1 HP1; have d2 : w2.cell? ⟨gp, 0, none⟩ = some (.slice A0 l0.length c0) := (blk_cell HP2.out 0).trans rfl)
      | ((with_reducible refine gate_dst (N := 11) rfl ?_); refine Kd.R_make Kd.bool _ 4 rfl (N := 11) rfl 42 _ _ rfl N rfl rfl Tryd.underlying42 (.bool false) 1 info4 rfl (by decide) (by omega) false (ok := fun _ => True) (okp := fun _ => True) rfl (fun _ hk => hk) trivial P0.out (Nat.le_trans (Nat.mul_le_mul_right _ P1.out) (by omega)) (Below.refl _ _) (Nat.le_refl _) ?_; intro v3 w3 ho hb hg_ hnew_; clear hg_ hnew_; have HO3 := Aside0.mk (Kd.R_lower ho (below_size HB2.out)); have HB3 := Aside0.mk (below_step HB2.out hb); have HP3 := Aside0.mk (blk_below HP2.out hb); clear hb ho d2 HB2 HP2; obtain ⟨go, co, eo, gb, gl, cl, hG⟩ := Kd.R_form HO3.out (by have := HPOS.out; omega); subst eo; have GB := Aside0.mk gb; clear gb gl hG)
      | ((with_reducible refine gate_dst (N := 3) rfl ?_); refine box_event ?hg (N := 3) ?hd (cs := #[.slice none 0 0]) (t := 42) ?hr ?_; (case hd => rfl); (case hg => rfl); (case hr => first | (go_simp; done) | (go_simp; rfl)); intro gs xg w4 yC hb; have GS := Aside0.mk (xg ▸ below_size HB3.out : w.heap.size ≤ gs); have HB4 := Aside0.mk (below_step HB3.out hb); have HS4 := Aside0.mk yC; have HP4 := Aside0.mk (blk_below HP3.out hb); have HO4 := Aside0.mk (Kd.R_below HO3.out hb); clear xg yC hb HB3 HP3 HO3; have d4 : w4.cell? ⟨gs, 0, none⟩ = some (.slice none 0 0) := (blk_cell HS4.out 0).trans rfl; have f4 := blk_frozen HS4.out 0)
      | ((with_reducible refine gate_store (t := 42) (p := 3) rfl ?_); refine store_event (t := 42) (p := 3) (v := ?vo_2) (w1 := (w4.setCell ⟨gs, 0, none⟩ (.slice (some ⟨go, 0, none⟩) (List.replicate N.toNat false).length co))) ?hg ?ho ?hn ?hr ?_; (case ho => rfl); (case hg => rfl); (case hn => rfl); (case hr => first | (go_simp; done) | (go_simp; rfl)); intro w5 hw; have hg : w4.grownBy w5 (some gs) := (by rw [hw]; exact grown_set _ _ _ _); have HS5 := Aside0.mk (by rw [hw]; exact blk_put HS4.out 0 _ rfl : w5.heap[gs]? = some (.cells #[.slice (some ⟨go, 0, none⟩) (List.replicate N.toNat false).length co] 42 (0, 0))); have HP5 := Aside0.mk (blk_grown HP4.out hg (fun e => blk_ne HP4.out HS4.out (by decide) (Option.some.inj e))); have HO5 := Aside0.mk (Kd.R_over' (v := .slice (some ⟨gs, 0, none⟩) 0 0) HO4.out (fun j_ ej_ => by injection ej_ with ej_; subst ej_; exact ⟨_, HS4.out⟩) (by decide) hg); have HB5 := Aside0.mk (HB4.out.grown hg HB4.out.size (fun k_ e => by injection e with e; rw [← e]; exact GS.out)); clear hw hg d4 f4 HS4 HP4 HO4 HB4)
      | ((with_reducible refine gate_dst (N := 4) rfl ?_); refine box_event ?hg (N := 4) ?hd (cs := #[.nilFunc]) (t := 55) ?hr ?_; (case hd => rfl); (case hg => rfl); (case hr => first | (go_simp; done) | (go_simp; rfl)); intro gv xg w6 yC hb; have GV := Aside0.mk (xg ▸ below_size HB5.out : w.heap.size ≤ gv); have HB6 := Aside0.mk (below_step HB5.out hb); have HV6 := Aside0.mk yC; have HS6 := Aside0.mk (blk_below HS5.out hb); have HP6 := Aside0.mk (blk_below HP5.out hb); have HO6 := Aside0.mk (Kd.R_below HO5.out hb); clear xg yC hb HB5 HS5 HP5 HO5; have d6 : w6.cell? ⟨gv, 0, none⟩ = some .nilFunc := (blk_cell HV6.out 0).trans rfl; have f6 := blk_frozen HV6.out 0)
      | ((with_reducible refine gate_store (t := 55) (p := 4) rfl ?_); refine store_event (t := 55) (p := 4) (v := ?vo_3) (w1 := (w6.setCell ⟨gv, 0, none⟩ (rfn gs gp gv))) ?hg ?ho ?hn ?hr ?_; (case ho => rfl); (case hg => rfl); (case hn => rfl); (case hr => first | (go_simp; done) | (go_simp; rfl)); intro w7 hw; have hg : w6.grownBy w7 (some gv) := (by rw [hw]; exact grown_set _ _ _ _); have HV7 := Aside0.mk (by rw [hw]; exact blk_put HV6.out 0 _ rfl : w7.heap[gv]? = some (.cells #[rfn gs gp gv] 55 (0, 0))); have HS7 := Aside0.mk (blk_grown HS6.out hg (fun e => blk_ne HS6.out HV6.out (by decide) (Option.some.inj e))); have HP7 := Aside0.mk (blk_grown HP6.out hg (fun e => blk_ne HP6.out HV6.out (by decide) (Option.some.inj e))); have HO7 := Aside0.mk (Kd.R_over' (v := .slice (some ⟨gv, 0, none⟩) 0 0) HO6.out (fun j_ ej_ => by injection ej_ with ej_; subst ej_; exact ⟨_, HV6.out⟩) (by decide) hg); have HB7 := Aside0.mk (HB6.out.grown hg HB6.out.size (fun k_ e => by injection e with e; rw [← e]; exact GV.out)); clear hw hg d6 f6 HV6 HS6 HP6 HO6 HB6; have d7 : w7.cell? ⟨gv, 0, none⟩ = some (rfn gs gp gv) := (blk_cell HV7.out 0).trans rfl)
      | (go_at_call 32; (with_reducible refine (reach1_calls A0 c0 l0 HC0.out w HR0.out gs gp gv go co _ GB.out k _ r 0 w7 HS7.out HP7.out HV7.out HO7.out HB7.out HV.out).mono ?_); rintro e w8 ⟨rfl, ho, hg⟩; have HS8 := Aside0.mk (blk_grown HS7.out hg (fun e => by obtain ⟨cells, hc⟩ := Kd.R_typed HO7.out go rfl; exact blk_ne HS7.out hc (by decide) (Option.some.inj e))); have HB8 := Aside0.mk (HB7.out.grown hg HB7.out.size (fun k_ e => by injection e with e; rw [← e]; exact GB.out)); have HO8 := Aside0.mk ho; clear ho hg d7; have d8 : w8.cell? ⟨gs, 0, none⟩ = some (.slice (some ⟨go, 0, none⟩) (List.replicate N.toNat false).length co) := (blk_cell HS8.out 0).trans rfl))
    go_ret
    have hO8 := HO8.out
    rw [List.length_replicate] at hO8
    exact ⟨_, rfl, hO8, HB8.out⟩
  · rw [if_neg c1] at H
    have c1a : (e0 == 0) = false := beq_eq_false_iff_ne.mpr c1
    have c1b : (e0 != 0) = true := bne_iff_ne.mpr c1
    clear c1
    obtain rfl := Option.some.inj H
    go_enter Tryd.func23, Tryd.ntmps23
    go_wp2_with (first
      | ((with_reducible refine gate_dst (N := 1) rfl ?_); refine box_event ?hg (N := 1) ?hd (cs := #[.slice A0 l0.length c0]) (t := 23) ?hr ?_; (case hd => rfl); (case hg => rfl); (case hr => first | (go_simp; done) | (go_simp; rfl)); intro gp xg w1 yC hb; have HB1 := Aside0.mk (below_step HB0.out hb); have HP1 := Aside0.mk yC; clear xg yC hb; have d1 : w1.cell? ⟨gp, 0, none⟩ = some (.slice A0 l0.length c0) := (blk_cell HP1.out 0).trans rfl)
      | (go_at_call 16; (with_reducible refine (isa_Valid.calls k _ _ l0 e0 _ ?side1 ?side2 ?side3 A1.out).mono ?_); (case side1 => exact Kd.C_below HR0.out HB1.out); (case side2 => exact HC0.out); (case side3 => exact GL.below HRG.out HB1.out); rintro e w2 ⟨rfl, hb⟩; have HB2 := Aside0.mk (below_step HB1.out hb); clear hb d1 HB1 HP1))
    go_ret
    exact ⟨_, rfl, Kd.R_nil _ _ _ _ _, HB2.out⟩
end Go.Proofs.YtamjeglenbokfaaDoor.Q
end
section
namespace Go.Proofs.YtamjeglenbokfaaDoor.Q
open Go.RowKit Go.Proofs.YtamjeglenbokfaaDoorW.PrintWords Go.Proofs.YtamjeglenbokfaaDoorW.PrintLast Go.Proofs.YtamjeglenbokfaaDoorW.PrintMore
set_option linter.unusedVariables false
set_option linter.unusedSimpArgs false
open Go.Proofs.YtamjeglenbokfaaDoor.Dfs (vis R turn swp swps)
def sc (l : List S37) (y : Int) : List Int := nxl (fet l y) y
theorem sc_range {l : List S37} (hP : okP l) : ∀ y : Int, 0 ≤ y → y < ((l.length + 1 : Nat) : Int) → ∀ z ∈ sc l y, 0 ≤ z ∧ z < ((l.length + 1 : Nat) : Int) := by
  intro y h0 h1 z hz
  have := nxl_range hP y h0 (by omega) z hz
  omega
theorem sc_length (l : List S37) (y : Int) : (sc l y).length ≤ 2 := by
  unfold sc nxl
  repeat' split
  all_goals first | exact Nat.le_succ 1 | exact Nat.le_refl 2
theorem foldM_len (f : List Bool → Int → Option (List Bool)) (hf : ∀ s x t, f s x = some t → t.length = s.length) : ∀ (L : List Int) (s t : List Bool), L.foldlM f s = some t → t.length = s.length
  | [], s, t, h => by injection h with h; rw [h]
  | a :: L, s, t, h => by
    rw [List.foldlM_cons] at h
    obtain ⟨u, h1, h2⟩ := Option.bind_eq_some_iff.mp h
    exact (foldM_len f hf L u t h2).trans (hf _ _ _ h1)
theorem vis_len (g : Int → List Int) : ∀ (k : Nat) (s : List Bool) (x : Int) (t : List Bool), vis g k s x = some t → t.length = s.length
  | 0, s, x, t, h => absurd h (by simp [vis])
  | k + 1, s, x, t, h => by
    rw [vis] at h
    by_cases c : Dfs.mk s x = true
    · rw [if_pos c] at h; injection h with h; rw [h]
    · rw [if_neg c] at h
      exact (foldM_len _ (vis_len g k) _ _ _ h).trans List.length_set
theorem drop_cons {ts rest : List Int} {j : Nat} {a : Int} (h : ts.drop j = a :: rest) : j < ts.length ∧ rd ts (j : Int) = a ∧ ts.drop (j + 1) = rest := by
  have hj : j < ts.length := by
    rcases Nat.lt_or_ge j ts.length with q | q
    · exact q
    · rw [List.drop_eq_nil_of_le q] at h; exact absurd h (by simp)
  rw [List.drop_eq_getElem_cons hj] at h
  injection h with h1 h2
  refine ⟨hj, ?_, h2⟩
  unfold rd
  rw [show ((j : Nat) : Int).toNat = j from rfl, List.getD_eq_getElem?_getD, List.getElem?_eq_getElem hj]
  exact h1
theorem drop_nil {ts : List Int} {j : Nat} (h : ts.drop j = []) : ts.length ≤ j := List.drop_eq_nil_iff.mp h
theorem jlt {j m : Nat} (h : j < m) : (j : Int) < (m : Int) := Int.ofNat_lt.2 h
theorem jge {j m : Nat} (h : m ≤ j) : ¬ (j : Int) < (m : Int) := fun q => Nat.not_lt.2 h (Int.ofNat_lt.1 q)
theorem v_of_vis {l : List S37} (hP : okP l) (hn : l.length ≤ 40) : ∀ (k : Nat) (s : List Bool) (x : Int) (t : List Bool), s.length = l.length + 1 → 0 ≤ x → x < ((l.length + 1 : Nat) : Int) → vis (sc l) k s x = some t → ∀ K : Nat, 5 * k + 5 ≤ K → isa_Reach.v K l s x = some t := by
  intro k
  induction k with
  | zero => intro s x t _ _ _ h; exact absurd h (by simp [vis])
  | succ k ih =>
    have fold : ∀ (ts rest : List Int) (j : Nat) (s t : List Bool), ts.drop j = rest → ts.length ≤ 2 → (∀ y ∈ rest, 0 ≤ y ∧ y < ((l.length + 1 : Nat) : Int)) → s.length = l.length + 1 → rest.foldlM (fun t y => vis (sc l) k t y) s = some t → ∀ K : Nat, 5 * k + 5 + rest.length + 1 ≤ K → isa_Reach.lp K l ts (j : Int) s = some t := by
      intro ts rest
      induction rest with
      | nil =>
        intro j s t hd _ _ _ h K hK
        obtain ⟨K, rfl⟩ : ∃ q, K = q + 1 := ⟨K - 1, by omega⟩
        rw [isa_Reach.lp, if_neg (jge (drop_nil hd))]
        exact h
      | cons a rest ihr =>
        intro j s t hd h2 hr hs h K hK
        obtain ⟨hj, hra, hd'⟩ := drop_cons hd
        obtain ⟨K, rfl⟩ : ∃ q, K = q + 1 := ⟨K - 1, by omega⟩
        rw [List.foldlM_cons] at h
        obtain ⟨u, h1, h3⟩ := Option.bind_eq_some_iff.mp h
        rw [List.length_cons] at hK
        have ha := hr a (by simp)
        have hu := ih s a u hs ha.1 ha.2 h1 K (by omega)
        rw [isa_Reach.lp, if_pos (jlt hj), if_pos (Int.natCast_nonneg _), hra, wrs hj (by omega)]
        exact bnd hu (ihr (j + 1) u t hd' h2 (fun y hy => hr y (by simp [hy])) ((vis_len _ _ _ _ _ h1).trans hs) h3 K (by omega))
    intro s x t hs h0 h1 h K hK
    obtain ⟨K, rfl⟩ : ∃ q, K = q + 2 := ⟨K - 2, by omega⟩
    rw [vis] at h
    rw [isa_Reach.v, if_pos h0, if_pos (by rw [hs]; exact h1)]
    by_cases c : Dfs.mk s x = true
    · rw [if_pos c] at h
      rw [if_pos (show rdOf false s x = true from c)]
      exact h
    · rw [if_neg c] at h
      rw [if_neg (show ¬ rdOf false s x = true from c)]
      obtain ⟨⟨_, _, _, w3⟩, _⟩ := fet_ok hP x
      refine bnd (after_f l x K h0 (by omega) hn w3) ?_
      exact fold (sc l x) (sc l x) 0 _ t rfl (sc_length l x) (sc_range hP x h0 h1) (by rw [List.length_set]; exact hs) h (K + 1) (by have := sc_length l x; omega)
theorem wl {m : Nat} (h : m ≤ 40) : wrap64 ((m : Int) + 1) = ((m + 1 : Nat) : Int) := by unfold wrap64; omega
theorem reach_f (l : List S37) (hw : ∀ i ∈ l, wfI i) (hn : l.length ≤ 40) (K : Nat) (hK : 300 ≤ K) : ∃ t, isa_Reach.f K l = some t ∧ (okP l → t.length = l.length + 1 ∧ ∀ y : Int, 0 ≤ y → y < ((l.length + 1 : Nat) : Int) → (Dfs.mk t y = true ↔ R (sc l) 0 y)) ∧ (¬ okP l → t = []) := by
  obtain ⟨e, hE, _, hE2⟩ := valid_same l hw hn K (by omega)
  unfold isa_Reach.f
  by_cases he : e = 0
  · have hP := hE2.1 he
    obtain ⟨t, h1, h2, h3⟩ := Dfs.vis_zero (sc l) (l.length + 1) (Nat.succ_pos _) (sc_range hP) (l.length + 2) (Nat.lt_succ_self _)
    refine ⟨t, ?_, fun _ => ⟨h2, h3⟩, fun q => absurd hP q⟩
    refine bnd hE ((if_pos he).trans ?_)
    rw [wl hn, if_pos (Int.natCast_nonneg _), Int.toNat_natCast, if_pos (show l.length + 1 ≤ 281474976710656 by omega)]
    exact v_of_vis hP hn (l.length + 2) _ 0 t (by simp) (by omega) (by omega) h1 K (by omega)
  · exact ⟨[], bnd hE (if_neg he), fun q => absurd (hE2.2 q) he, fun _ => rfl⟩
end Go.Proofs.YtamjeglenbokfaaDoor.Q
end
section
namespace Go.Proofs.YtamjeglenbokfaaDoor.Q
open Go.RowKit Go.Proofs.YtamjeglenbokfaaDoorW.PrintWords Go.Proofs.YtamjeglenbokfaaDoorW.PrintLast Go.Proofs.YtamjeglenbokfaaDoorW.PrintMore
theorem arr_event {P : Program} {ops : Array Oper} {rest : List Oper} {o : Oper} {a : Act} {Q : Exit → Act → World → Prop} {W : World} (hgd : o.guard = none) {N : Tmp} (_hd : o.dst = some N) (T : TypeId) (n : Nat) (hn : n ≤ 9223372036854775807)
    (hrun : (execOp a.eval o).run P W = .ok (.value (.pointer (some ⟨W.heap.size, 0, none⟩))) (W.alloc (.cells (List.replicate n (Value.bool false)).toArray T (0, 0))))
    (h : ∀ g, W.heap.size ≤ g → ∀ w1, Kd.R Kd.bool T w1 W.heap.size (fun _ => True) (.slice (some ⟨g, 0, none⟩) n n) (List.replicate n false) → Below W.heap.size W w1 → wpList P ops Q rest (a.put o.dst (.pointer (some ⟨g, 0, none⟩))) w1) : wpList P ops Q (o :: rest) a W := by
  refine Kd.event_run hgd hrun (h W.heap.size (Nat.le_refl _) _ ?_ (below_alloc (Below.refl _ _) _))
  refine Kd.R_of_own (enc := Value.bool) ?_ (fun _ _ => trivial)
  have h2 := World.ownsRow_lit (base := W.heap.size) (e := T) (size := 1) W (List.replicate n (Value.bool false)).toArray n (Nat.le_refl _) (by simpa [maxLen] using hn) (by simp)
  simpa [Go.Proofs.YtamjeglenbokfaaDoorW.PrintWords.encs] using h2
end Go.Proofs.YtamjeglenbokfaaDoor.Q
end
section
namespace Go.Proofs.YtamjeglenbokfaaDoor.Q
open Go.RowKit Go.Proofs.YtamjeglenbokfaaDoorW.PrintWords Go.Proofs.YtamjeglenbokfaaDoorW.PrintLast Go.Proofs.YtamjeglenbokfaaDoorW.PrintMore
attribute [local go_sem] max2_int min2_int max_two min_two max_three min_three max_four min_four   -- for this text's walks alone
set_option linter.unusedVariables false
set_option linter.unusedSimpArgs false

/-! ### attestorlaw26_IsaReach: function 7 -/
mutual
def attestorlaw26_IsaReach.j0 : Nat → List (S37) → List Bool → Bool → Option (Bool)
  | 0, _, _, _ => none
  | k + 1, x0, x3, x34 => if x34 = true then (none) else ((some (List.replicate 41 false : List Bool)).bind fun y349 => (if 0 < (y349.length : Int) then (attestorlaw26_IsaReach.l0 k x0 x3 (y349.set (0 : Int).toNat true) (([0] : List Int)) 0) else (none)))
def attestorlaw26_IsaReach.l0 : Nat → List (S37) → List Bool → List Bool → List Int → Int → Option (Bool)
  | 0, _, _, _, _, _ => none
  | k + 1, x0, x3, x4, x5, x6 => if x6 < (x5.length : Int) then (if 0 ≤ x6 then ((isa_Next.f k x0 (rd x5 x6)).bind fun t357 => (if (t357.length : Int) = 0 then (none) else (attestorlaw26_IsaReach.l1 k x0 x3 x4 x5 x6 t357 0))) else (none)) else (attestorlaw26_IsaReach.l2 k x3 x4 0)
def attestorlaw26_IsaReach.l1 : Nat → List (S37) → List Bool → List Bool → List Int → Int → List Int → Int → Option (Bool)
  | 0, _, _, _, _, _, _, _ => none
  | k + 1, x0, x3, x4, x5, x6, x7, x8 => if x8 < (x7.length : Int) then (if 0 ≤ x8 then (if (rd x7 x8) < 0 then (none) else (attestorlaw26_IsaReach.j3 k x0 x3 x4 x5 x6 x7 x8 (decide ((rd x7 x8) > (x0.length : Int))))) else (none)) else (attestorlaw26_IsaReach.l0 k x0 x3 x4 x5 (wrap64 (x6 + 1)))
def attestorlaw26_IsaReach.j3 : Nat → List (S37) → List Bool → List Bool → List Int → Int → List Int → Int → Bool → Option (Bool)
  | 0, _, _, _, _, _, _, _, _ => none
  | k + 1, x0, x3, x4, x5, x6, x7, x8, x71 => if x71 = true then (none) else (if 0 ≤ x8 then (if x8 < (x7.length : Int) then (if 0 ≤ (rd x7 x8) then (if (rd x7 x8) < (x4.length : Int) then (if (rdOf false x4 (rd x7 x8) = true) then (attestorlaw26_IsaReach.l1 k x0 x3 x4 x5 x6 x7 (wrap64 (x8 + 1))) else (if x5.length < 17592186044416 then (attestorlaw26_IsaReach.l1 k x0 x3 (x4.set ((rd x7 x8) : Int).toNat true) (x5 ++ [rd x7 x8]) x6 x7 (wrap64 (x8 + 1))) else (none))) else (none)) else (none)) else (none)) else (none))
def attestorlaw26_IsaReach.l2 : Nat → List Bool → List Bool → Int → Option (Bool)
  | 0, _, _, _ => none
  | k + 1, x3, x4, x9 => if x9 < (x3.length : Int) then (if 0 ≤ x9 then (if x9 < (x4.length : Int) then (if ((rdOf false x3 x9) != (rdOf false x4 x9)) = true then (none) else (attestorlaw26_IsaReach.l2 k x3 x4 (wrap64 (x9 + 1)))) else (none)) else (none)) else ((attestorlaw26_lives.f k).bind fun t372 => (some t372))
end
def attestorlaw26_IsaReach.f (k : Nat) (l0 : List (S37)) : Option (Bool) := (attestorlaw26_cut.f l0).bind fun t340 => ((isa_Reach.f k t340).bind fun t343 => ((isa_Valid.f k t340).bind fun t346 => (if t346 = 0 then (if (t343.length : Int) = (wrap64 ((t340.length : Int) + 1)) then (if 0 < (t343.length : Int) then (attestorlaw26_IsaReach.j0 k t340 t343 (!(rdOf false t343 0))) else (none)) else (none)) else (if (t343.length : Int) = 0 then ((attestorlaw26_lives.f k).bind fun t347 => (some t347)) else (none)))))
theorem attestorlaw26_IsaReach.mono_l : ∀ k, (∀ y0 y1 y2, LeO (attestorlaw26_IsaReach.j0 k y0 y1 y2) (attestorlaw26_IsaReach.j0 (k + 1) y0 y1 y2)) ∧ (∀ y0 y1 y2 y3 y4, LeO (attestorlaw26_IsaReach.l0 k y0 y1 y2 y3 y4) (attestorlaw26_IsaReach.l0 (k + 1) y0 y1 y2 y3 y4)) ∧ (∀ y0 y1 y2 y3 y4 y5 y6, LeO (attestorlaw26_IsaReach.l1 k y0 y1 y2 y3 y4 y5 y6) (attestorlaw26_IsaReach.l1 (k + 1) y0 y1 y2 y3 y4 y5 y6)) ∧ (∀ y0 y1 y2 y3 y4 y5 y6 y7, LeO (attestorlaw26_IsaReach.j3 k y0 y1 y2 y3 y4 y5 y6 y7) (attestorlaw26_IsaReach.j3 (k + 1) y0 y1 y2 y3 y4 y5 y6 y7)) ∧ (∀ y0 y1 y2, LeO (attestorlaw26_IsaReach.l2 k y0 y1 y2) (attestorlaw26_IsaReach.l2 (k + 1) y0 y1 y2))
  | 0 => ⟨fun _ _ _ r h => by simp [attestorlaw26_IsaReach.j0] at h, fun _ _ _ _ _ r h => by simp [attestorlaw26_IsaReach.l0] at h, fun _ _ _ _ _ _ _ r h => by simp [attestorlaw26_IsaReach.l1] at h, fun _ _ _ _ _ _ _ _ r h => by simp [attestorlaw26_IsaReach.j3] at h, fun _ _ _ r h => by simp [attestorlaw26_IsaReach.l2] at h⟩
  | k + 1 => by
    obtain ⟨ih0, ih1, ih2, ih3, ih4⟩ := attestorlaw26_IsaReach.mono_l k
    refine ⟨?_, ?_, ?_, ?_, ?_⟩
    · intro y0 y1 y2
      unfold attestorlaw26_IsaReach.j0
      repeat' first
      | (with_reducible exact ih0 _ _ _)
      | (with_reducible exact ih1 _ _ _ _ _)
      | (with_reducible exact ih2 _ _ _ _ _ _ _)
      | (with_reducible exact ih3 _ _ _ _ _ _ _ _)
      | (with_reducible exact ih4 _ _ _)
      | (with_reducible exact attestorlaw26_lives.mono _)
      | (with_reducible exact isa_Next.mono _ _ _)
      | (with_reducible exact isa_Reach.mono _ _)
      | (with_reducible exact isa_Valid.mono _ _)
      | (with_reducible exact LeO.refl _)
      | (with_reducible exact LeO.none _)
      | (with_reducible refine LeO.ite ?_ ?_)
      | (with_reducible refine LeO.bind ?_ (fun _ => ?_))
      | exact ih0 _ _ _
      | exact ih1 _ _ _ _ _
      | exact ih2 _ _ _ _ _ _ _
      | exact ih3 _ _ _ _ _ _ _ _
      | exact ih4 _ _ _
      | exact attestorlaw26_lives.mono _
      | exact isa_Next.mono _ _ _
      | exact isa_Reach.mono _ _
      | exact isa_Valid.mono _ _
      | exact LeO.none _
      | refine LeO.ite ?_ ?_
      | refine LeO.bind ?_ (fun _ => ?_)
    · intro y0 y1 y2 y3 y4
      unfold attestorlaw26_IsaReach.l0
      repeat' first
      | (with_reducible exact ih0 _ _ _)
      | (with_reducible exact ih1 _ _ _ _ _)
      | (with_reducible exact ih2 _ _ _ _ _ _ _)
      | (with_reducible exact ih3 _ _ _ _ _ _ _ _)
      | (with_reducible exact ih4 _ _ _)
      | (with_reducible exact attestorlaw26_lives.mono _)
      | (with_reducible exact isa_Next.mono _ _ _)
      | (with_reducible exact isa_Reach.mono _ _)
      | (with_reducible exact isa_Valid.mono _ _)
      | (with_reducible exact LeO.refl _)
      | (with_reducible exact LeO.none _)
      | (with_reducible refine LeO.ite ?_ ?_)
      | (with_reducible refine LeO.bind ?_ (fun _ => ?_))
      | exact ih0 _ _ _
      | exact ih1 _ _ _ _ _
      | exact ih2 _ _ _ _ _ _ _
      | exact ih3 _ _ _ _ _ _ _ _
      | exact ih4 _ _ _
      | exact attestorlaw26_lives.mono _
      | exact isa_Next.mono _ _ _
      | exact isa_Reach.mono _ _
      | exact isa_Valid.mono _ _
      | exact LeO.none _
      | refine LeO.ite ?_ ?_
      | refine LeO.bind ?_ (fun _ => ?_)
    · intro y0 y1 y2 y3 y4 y5 y6
      unfold attestorlaw26_IsaReach.l1
      repeat' first
      | (with_reducible exact ih0 _ _ _)
      | (with_reducible exact ih1 _ _ _ _ _)
      | (with_reducible exact ih2 _ _ _ _ _ _ _)
      | (with_reducible exact ih3 _ _ _ _ _ _ _ _)
      | (with_reducible exact ih4 _ _ _)
      | (with_reducible exact attestorlaw26_lives.mono _)
      | (with_reducible exact isa_Next.mono _ _ _)
      | (with_reducible exact isa_Reach.mono _ _)
      | (with_reducible exact isa_Valid.mono _ _)
      | (with_reducible exact LeO.refl _)
      | (with_reducible exact LeO.none _)
      | (with_reducible refine LeO.ite ?_ ?_)
      | (with_reducible refine LeO.bind ?_ (fun _ => ?_))
      | exact ih0 _ _ _
      | exact ih1 _ _ _ _ _
      | exact ih2 _ _ _ _ _ _ _
      | exact ih3 _ _ _ _ _ _ _ _
      | exact ih4 _ _ _
      | exact attestorlaw26_lives.mono _
      | exact isa_Next.mono _ _ _
      | exact isa_Reach.mono _ _
      | exact isa_Valid.mono _ _
      | exact LeO.none _
      | refine LeO.ite ?_ ?_
      | refine LeO.bind ?_ (fun _ => ?_)
    · intro y0 y1 y2 y3 y4 y5 y6 y7
      unfold attestorlaw26_IsaReach.j3
      repeat' first
      | (with_reducible exact ih0 _ _ _)
      | (with_reducible exact ih1 _ _ _ _ _)
      | (with_reducible exact ih2 _ _ _ _ _ _ _)
      | (with_reducible exact ih3 _ _ _ _ _ _ _ _)
      | (with_reducible exact ih4 _ _ _)
      | (with_reducible exact attestorlaw26_lives.mono _)
      | (with_reducible exact isa_Next.mono _ _ _)
      | (with_reducible exact isa_Reach.mono _ _)
      | (with_reducible exact isa_Valid.mono _ _)
      | (with_reducible exact LeO.refl _)
      | (with_reducible exact LeO.none _)
      | (with_reducible refine LeO.ite ?_ ?_)
      | (with_reducible refine LeO.bind ?_ (fun _ => ?_))
      | exact ih0 _ _ _
      | exact ih1 _ _ _ _ _
      | exact ih2 _ _ _ _ _ _ _
      | exact ih3 _ _ _ _ _ _ _ _
      | exact ih4 _ _ _
      | exact attestorlaw26_lives.mono _
      | exact isa_Next.mono _ _ _
      | exact isa_Reach.mono _ _
      | exact isa_Valid.mono _ _
      | exact LeO.none _
      | refine LeO.ite ?_ ?_
      | refine LeO.bind ?_ (fun _ => ?_)
    · intro y0 y1 y2
      unfold attestorlaw26_IsaReach.l2
      repeat' first
      | (with_reducible exact ih0 _ _ _)
      | (with_reducible exact ih1 _ _ _ _ _)
      | (with_reducible exact ih2 _ _ _ _ _ _ _)
      | (with_reducible exact ih3 _ _ _ _ _ _ _ _)
      | (with_reducible exact ih4 _ _ _)
      | (with_reducible exact attestorlaw26_lives.mono _)
      | (with_reducible exact isa_Next.mono _ _ _)
      | (with_reducible exact isa_Reach.mono _ _)
      | (with_reducible exact isa_Valid.mono _ _)
      | (with_reducible exact LeO.refl _)
      | (with_reducible exact LeO.none _)
      | (with_reducible refine LeO.ite ?_ ?_)
      | (with_reducible refine LeO.bind ?_ (fun _ => ?_))
      | exact ih0 _ _ _
      | exact ih1 _ _ _ _ _
      | exact ih2 _ _ _ _ _ _ _
      | exact ih3 _ _ _ _ _ _ _ _
      | exact ih4 _ _ _
      | exact attestorlaw26_lives.mono _
      | exact isa_Next.mono _ _ _
      | exact isa_Reach.mono _ _
      | exact isa_Valid.mono _ _
      | exact LeO.none _
      | refine LeO.ite ?_ ?_
      | refine LeO.bind ?_ (fun _ => ?_)
theorem attestorlaw26_IsaReach.mono : ∀ a0 k, LeO (attestorlaw26_IsaReach.f k a0) (attestorlaw26_IsaReach.f (k + 1) a0) := by
  intro a0 k
  obtain ⟨ih0, ih1, ih2, ih3, ih4⟩ := attestorlaw26_IsaReach.mono_l k
  unfold attestorlaw26_IsaReach.f
  repeat' first
      | (with_reducible exact ih0 _ _ _)
      | (with_reducible exact ih1 _ _ _ _ _)
      | (with_reducible exact ih2 _ _ _ _ _ _ _)
      | (with_reducible exact ih3 _ _ _ _ _ _ _ _)
      | (with_reducible exact ih4 _ _ _)
      | (with_reducible exact attestorlaw26_lives.mono _)
      | (with_reducible exact isa_Next.mono _ _ _)
      | (with_reducible exact isa_Reach.mono _ _)
      | (with_reducible exact isa_Valid.mono _ _)
      | (with_reducible exact LeO.refl _)
      | (with_reducible exact LeO.none _)
      | (with_reducible refine LeO.ite ?_ ?_)
      | (with_reducible refine LeO.bind ?_ (fun _ => ?_))
      | exact ih0 _ _ _
      | exact ih1 _ _ _ _ _
      | exact ih2 _ _ _ _ _ _ _
      | exact ih3 _ _ _ _ _ _ _ _
      | exact ih4 _ _ _
      | exact attestorlaw26_lives.mono _
      | exact isa_Next.mono _ _ _
      | exact isa_Reach.mono _ _
      | exact isa_Valid.mono _ _
      | exact LeO.none _
      | refine LeO.ite ?_ ?_
      | refine LeO.bind ?_ (fun _ => ?_)
set_option maxHeartbeats 8000000 in
set_option maxRecDepth 100000 in
theorem attestorlaw26_IsaReach.calls (k : Nat) (A0 : Option Addr) (c0 : Nat) (l0 : List (S37)) (r : Bool) (w : World) (hr0 : Kd.C k37 w A0 l0.length l0) (hc0 : l0.length ≤ c0) (hrG : GL w) (h : attestorlaw26_IsaReach.f k l0 = some r) :
    Calls Tryd.prog 7 #[.slice A0 l0.length c0] w fun e w' => e = .returned (.bool r) ∧ Below w.heap.size w w' := by
  have HRG := Aside0.mk hrG
  clear hrG
  have HR0 := Aside0.mk hr0
  have HC0 := Aside0.mk hc0
  clear hr0 hc0
  have HB := Aside0.mk (Below.refl w.heap.size w)
  have H : ((attestorlaw26_cut.f l0).bind fun t340 => ((isa_Reach.f k t340).bind fun t343 => ((isa_Valid.f k t340).bind fun t346 => (if t346 = 0 then (if (t343.length : Int) = (wrap64 ((t340.length : Int) + 1)) then (if 0 < (t343.length : Int) then (attestorlaw26_IsaReach.j0 k t340 t343 (!(rdOf false t343 0))) else (none)) else (none)) else (if (t343.length : Int) = 0 then ((attestorlaw26_lives.f k).bind fun t347 => (some t347)) else (none)))))) = some r := h
  clear h
  replace H := Option.bind_eq_some_iff.mp H
  obtain ⟨t340, A20, H⟩ := H
  replace H : ((isa_Reach.f k t340).bind fun t343 => ((isa_Valid.f k t340).bind fun t346 => (if t346 = 0 then (if (t343.length : Int) = (wrap64 ((t340.length : Int) + 1)) then (if 0 < (t343.length : Int) then (attestorlaw26_IsaReach.j0 k t340 t343 (!(rdOf false t343 0))) else (none)) else (none)) else (if (t343.length : Int) = 0 then ((attestorlaw26_lives.f k).bind fun t347 => (some t347)) else (none))))) = some r := H
  have A2 := Aside0.mk A20
  clear A20
  replace H := Option.bind_eq_some_iff.mp H
  obtain ⟨t343, A30, H⟩ := H
  replace H : ((isa_Valid.f k t340).bind fun t346 => (if t346 = 0 then (if (t343.length : Int) = (wrap64 ((t340.length : Int) + 1)) then (if 0 < (t343.length : Int) then (attestorlaw26_IsaReach.j0 k t340 t343 (!(rdOf false t343 0))) else (none)) else (none)) else (if (t343.length : Int) = 0 then ((attestorlaw26_lives.f k).bind fun t347 => (some t347)) else (none)))) = some r := H
  have A3 := Aside0.mk A30
  clear A30
  replace H := Option.bind_eq_some_iff.mp H
  obtain ⟨t346, A40, H⟩ := H
  replace H : (if t346 = 0 then (if (t343.length : Int) = (wrap64 ((t340.length : Int) + 1)) then (if 0 < (t343.length : Int) then (attestorlaw26_IsaReach.j0 k t340 t343 (!(rdOf false t343 0))) else (none)) else (none)) else (if (t343.length : Int) = 0 then ((attestorlaw26_lives.f k).bind fun t347 => (some t347)) else (none))) = some r := H
  have A4 := Aside0.mk A40
  clear A40
  by_cases c5 : t346 = 0
  · rw [if_pos c5] at H
    have c5b0 : (t346 == 0) = true := beq_iff_eq.mpr c5
    have c5b1 : (t346 != 0) = false := bne_eq_false_iff_eq.mpr c5
    clear c5
    have HC6 := Aside0.mk H
    clear H
    go_enter Tryd.func7, Tryd.ntmps7
    go_upto_region 5 with (first | (go_at_call 14; (with_reducible refine (attestorlaw26_cut.calls _ _ l0 t340 _ ?side1 ?side2 A2.out).mono ?_); (case side1 => repeat (first | exact HR0.out | (with_reducible refine Kd.C_alloc ?_ _) | (with_reducible refine Kd.C_drewN ?_ _) | (with_reducible refine Kd.C_drew ?_))); (case side2 => exact HC0.out); rintro e w7 ⟨v341, rfl, ho0, hb⟩; have n0_ := Aside0.mk (Kd.R_lower ho0 (below_size (by repeat (first | (with_reducible first | exact HB.out | apply below_alloc | apply pw_below_drewN | apply below_drew1) | exact HB.out)))); have n1_ := Aside0.mk (below_step (by repeat (first | (with_reducible first | exact HB.out | apply below_alloc | apply pw_below_drewN | apply below_drew1) | exact HB.out)) hb); clear HB; have HO342 := n0_; have HB := n1_; clear n0_ n1_; (try clear hb); (try clear hb2); (try clear hk); (try clear hi); (try clear ho0); obtain ⟨Ao8, co8, eo8⟩ := Kd.R_slice HO342.out; subst eo8) | (go_at_call 23; (with_reducible refine (isa_Reach.calls k _ _ t340 t343 _ ?side1 ?side2 ?side3 A3.out).mono ?_); (case side1 => repeat (first | exact (Kd.R_reads' HO342.out).2.2 | (with_reducible refine Kd.C_alloc ?_ _) | (with_reducible refine Kd.C_drewN ?_ _) | (with_reducible refine Kd.C_drew ?_))); (case side2 => exact (Kd.R_reads' HO342.out).2.1); (case side3 => repeat (first | exact (GL.below HRG.out HB.out) | (with_reducible refine GL.alloc ?_ _) | (with_reducible refine GL.drewN ?_ _) | (with_reducible refine GL.drew ?_))); rintro e w9 ⟨v344, rfl, ho0, hb⟩; have n0_ := Aside0.mk (Kd.R_below (by (with_reducible repeat (first | apply Kd.R_alloc | apply Kd.R_drewN | apply Kd.R_drew)); exact HO342.out) hb); have n1_ := Aside0.mk (Kd.R_lower ho0 (below_size (by repeat (first | (with_reducible first | exact HB.out | apply below_alloc | apply pw_below_drewN | apply below_drew1) | exact HB.out)))); have n2_ := Aside0.mk (below_step (by repeat (first | (with_reducible first | exact HB.out | apply below_alloc | apply pw_below_drewN | apply below_drew1) | exact HB.out)) hb); clear HO342; clear HB; have HO342 := n0_; have HO345 := n1_; have HB := n2_; clear n0_ n1_ n2_; (try clear hb); (try clear hb2); (try clear hk); (try clear hi); (try clear ho0)) | (go_at_call 16; (with_reducible refine (isa_Valid.calls k _ _ t340 t346 _ ?side1 ?side2 ?side3 A4.out).mono ?_); (case side1 => repeat (first | exact (Kd.R_reads' HO342.out).2.2 | (with_reducible refine Kd.C_alloc ?_ _) | (with_reducible refine Kd.C_drewN ?_ _) | (with_reducible refine Kd.C_drew ?_))); (case side2 => exact (Kd.R_reads' HO342.out).2.1); (case side3 => repeat (first | exact (GL.below HRG.out HB.out) | (with_reducible refine GL.alloc ?_ _) | (with_reducible refine GL.drewN ?_ _) | (with_reducible refine GL.drew ?_))); rintro e w10 ⟨rfl, hb⟩; have n0_ := Aside0.mk (Kd.R_below (by (with_reducible repeat (first | apply Kd.R_alloc | apply Kd.R_drewN | apply Kd.R_drew)); exact HO342.out) hb); have n1_ := Aside0.mk (Kd.R_below (by (with_reducible repeat (first | apply Kd.R_alloc | apply Kd.R_drewN | apply Kd.R_drew)); exact HO345.out) hb); have n2_ := Aside0.mk (below_step (by repeat (first | (with_reducible first | exact HB.out | apply below_alloc | apply pw_below_drewN | apply below_drew1) | exact HB.out)) hb); clear HO342; clear HO345; clear HB; have HO342 := n0_; have HO345 := n1_; have HB := n2_; clear n0_ n1_ n2_; (try clear hb); (try clear hb2); (try clear hk); (try clear hi)))
    repeat (go_quiet (first | (go_at_call 14; (with_reducible refine (attestorlaw26_cut.calls _ _ l0 t340 _ ?side1 ?side2 A2.out).mono ?_); (case side1 => repeat (first | exact HR0.out | (with_reducible refine Kd.C_alloc ?_ _) | (with_reducible refine Kd.C_drewN ?_ _) | (with_reducible refine Kd.C_drew ?_))); (case side2 => exact HC0.out); rintro e w7 ⟨v341, rfl, ho0, hb⟩; have n0_ := Aside0.mk (Kd.R_lower ho0 (below_size (by repeat (first | (with_reducible first | exact HB.out | apply below_alloc | apply pw_below_drewN | apply below_drew1) | exact HB.out)))); have n1_ := Aside0.mk (below_step (by repeat (first | (with_reducible first | exact HB.out | apply below_alloc | apply pw_below_drewN | apply below_drew1) | exact HB.out)) hb); clear HB; have HO342 := n0_; have HB := n1_; clear n0_ n1_; (try clear hb); (try clear hb2); (try clear hk); (try clear hi); (try clear ho0); obtain ⟨Ao8, co8, eo8⟩ := Kd.R_slice HO342.out; subst eo8) | (go_at_call 23; (with_reducible refine (isa_Reach.calls k _ _ t340 t343 _ ?side1 ?side2 ?side3 A3.out).mono ?_); (case side1 => repeat (first | exact (Kd.R_reads' HO342.out).2.2 | (with_reducible refine Kd.C_alloc ?_ _) | (with_reducible refine Kd.C_drewN ?_ _) | (with_reducible refine Kd.C_drew ?_))); (case side2 => exact (Kd.R_reads' HO342.out).2.1); (case side3 => repeat (first | exact (GL.below HRG.out HB.out) | (with_reducible refine GL.alloc ?_ _) | (with_reducible refine GL.drewN ?_ _) | (with_reducible refine GL.drew ?_))); rintro e w9 ⟨v344, rfl, ho0, hb⟩; have n0_ := Aside0.mk (Kd.R_below (by (with_reducible repeat (first | apply Kd.R_alloc | apply Kd.R_drewN | apply Kd.R_drew)); exact HO342.out) hb); have n1_ := Aside0.mk (Kd.R_lower ho0 (below_size (by repeat (first | (with_reducible first | exact HB.out | apply below_alloc | apply pw_below_drewN | apply below_drew1) | exact HB.out)))); have n2_ := Aside0.mk (below_step (by repeat (first | (with_reducible first | exact HB.out | apply below_alloc | apply pw_below_drewN | apply below_drew1) | exact HB.out)) hb); clear HO342; clear HB; have HO342 := n0_; have HO345 := n1_; have HB := n2_; clear n0_ n1_ n2_; (try clear hb); (try clear hb2); (try clear hk); (try clear hi); (try clear ho0)) | (go_at_call 16; (with_reducible refine (isa_Valid.calls k _ _ t340 t346 _ ?side1 ?side2 ?side3 A4.out).mono ?_); (case side1 => repeat (first | exact (Kd.R_reads' HO342.out).2.2 | (with_reducible refine Kd.C_alloc ?_ _) | (with_reducible refine Kd.C_drewN ?_ _) | (with_reducible refine Kd.C_drew ?_))); (case side2 => exact (Kd.R_reads' HO342.out).2.1); (case side3 => repeat (first | exact (GL.below HRG.out HB.out) | (with_reducible refine GL.alloc ?_ _) | (with_reducible refine GL.drewN ?_ _) | (with_reducible refine GL.drew ?_))); rintro e w10 ⟨rfl, hb⟩; have n0_ := Aside0.mk (Kd.R_below (by (with_reducible repeat (first | apply Kd.R_alloc | apply Kd.R_drewN | apply Kd.R_drew)); exact HO342.out) hb); have n1_ := Aside0.mk (Kd.R_below (by (with_reducible repeat (first | apply Kd.R_alloc | apply Kd.R_drewN | apply Kd.R_drew)); exact HO345.out) hb); have n2_ := Aside0.mk (below_step (by repeat (first | (with_reducible first | exact HB.out | apply below_alloc | apply pw_below_drewN | apply below_drew1) | exact HB.out)) hb); clear HO342; clear HO345; clear HB; have HO342 := n0_; have HO345 := n1_; have HB := n2_; clear n0_ n1_ n2_; (try clear hb); (try clear hb2); (try clear hk); (try clear hi))); go_upto_region 5 with (first | (go_at_call 14; (with_reducible refine (attestorlaw26_cut.calls _ _ l0 t340 _ ?side1 ?side2 A2.out).mono ?_); (case side1 => repeat (first | exact HR0.out | (with_reducible refine Kd.C_alloc ?_ _) | (with_reducible refine Kd.C_drewN ?_ _) | (with_reducible refine Kd.C_drew ?_))); (case side2 => exact HC0.out); rintro e w7 ⟨v341, rfl, ho0, hb⟩; have n0_ := Aside0.mk (Kd.R_lower ho0 (below_size (by repeat (first | (with_reducible first | exact HB.out | apply below_alloc | apply pw_below_drewN | apply below_drew1) | exact HB.out)))); have n1_ := Aside0.mk (below_step (by repeat (first | (with_reducible first | exact HB.out | apply below_alloc | apply pw_below_drewN | apply below_drew1) | exact HB.out)) hb); clear HB; have HO342 := n0_; have HB := n1_; clear n0_ n1_; (try clear hb); (try clear hb2); (try clear hk); (try clear hi); (try clear ho0); obtain ⟨Ao8, co8, eo8⟩ := Kd.R_slice HO342.out; subst eo8) | (go_at_call 23; (with_reducible refine (isa_Reach.calls k _ _ t340 t343 _ ?side1 ?side2 ?side3 A3.out).mono ?_); (case side1 => repeat (first | exact (Kd.R_reads' HO342.out).2.2 | (with_reducible refine Kd.C_alloc ?_ _) | (with_reducible refine Kd.C_drewN ?_ _) | (with_reducible refine Kd.C_drew ?_))); (case side2 => exact (Kd.R_reads' HO342.out).2.1); (case side3 => repeat (first | exact (GL.below HRG.out HB.out) | (with_reducible refine GL.alloc ?_ _) | (with_reducible refine GL.drewN ?_ _) | (with_reducible refine GL.drew ?_))); rintro e w9 ⟨v344, rfl, ho0, hb⟩; have n0_ := Aside0.mk (Kd.R_below (by (with_reducible repeat (first | apply Kd.R_alloc | apply Kd.R_drewN | apply Kd.R_drew)); exact HO342.out) hb); have n1_ := Aside0.mk (Kd.R_lower ho0 (below_size (by repeat (first | (with_reducible first | exact HB.out | apply below_alloc | apply pw_below_drewN | apply below_drew1) | exact HB.out)))); have n2_ := Aside0.mk (below_step (by repeat (first | (with_reducible first | exact HB.out | apply below_alloc | apply pw_below_drewN | apply below_drew1) | exact HB.out)) hb); clear HO342; clear HB; have HO342 := n0_; have HO345 := n1_; have HB := n2_; clear n0_ n1_ n2_; (try clear hb); (try clear hb2); (try clear hk); (try clear hi); (try clear ho0)) | (go_at_call 16; (with_reducible refine (isa_Valid.calls k _ _ t340 t346 _ ?side1 ?side2 ?side3 A4.out).mono ?_); (case side1 => repeat (first | exact (Kd.R_reads' HO342.out).2.2 | (with_reducible refine Kd.C_alloc ?_ _) | (with_reducible refine Kd.C_drewN ?_ _) | (with_reducible refine Kd.C_drew ?_))); (case side2 => exact (Kd.R_reads' HO342.out).2.1); (case side3 => repeat (first | exact (GL.below HRG.out HB.out) | (with_reducible refine GL.alloc ?_ _) | (with_reducible refine GL.drewN ?_ _) | (with_reducible refine GL.drew ?_))); rintro e w10 ⟨rfl, hb⟩; have n0_ := Aside0.mk (Kd.R_below (by (with_reducible repeat (first | apply Kd.R_alloc | apply Kd.R_drewN | apply Kd.R_drew)); exact HO342.out) hb); have n1_ := Aside0.mk (Kd.R_below (by (with_reducible repeat (first | apply Kd.R_alloc | apply Kd.R_drewN | apply Kd.R_drew)); exact HO345.out) hb); have n2_ := Aside0.mk (below_step (by repeat (first | (with_reducible first | exact HB.out | apply below_alloc | apply pw_below_drewN | apply below_drew1) | exact HB.out)) hb); clear HO342; clear HO345; clear HB; have HO342 := n0_; have HO345 := n1_; have HB := n2_; clear n0_ n1_ n2_; (try clear hb); (try clear hb2); (try clear hk); (try clear hi))))
    (try simp only [Act.put, List.setIfInBounds_toArray, List.set_cons_zero, List.set_cons_succ])
    go_cut [34] (fun v34 wc => ∃ (kq : Nat) (x34_5 : Bool), v34 = .bool x34_5 ∧ Aside0 (attestorlaw26_IsaReach.j0 kq t340 t343 x34_5 = some r) ∧ Aside0 (kq ≤ k) ∧ Aside0 (Kd.R k37 37 wc w.heap.size (fun _ => True) (.slice Ao8 t340.length co8) t340) ∧ Aside0 (Kd.R Kd.bool 4 wc w.heap.size (fun _ => True) v344 t343) ∧ Aside0 (Below w.heap.size w wc))
    case first =>
      have H := HC6.out
      clear HC6
      by_cases c11 : (t343.length : Int) = (wrap64 ((t340.length : Int) + 1))
      · rw [if_pos c11] at H
        have c11b0 : ((t343.length : Int) == (wrap64 ((t340.length : Int) + 1))) = true := beq_iff_eq.mpr c11
        have c11b1 : ((t343.length : Int) != (wrap64 ((t340.length : Int) + 1))) = false := bne_eq_false_iff_eq.mpr c11
        clear c11
        (first | rw [c11b0] | (simp only [i64_w, i32_w]; rw [c11b0]) | skip)
        by_cases c12 : 0 < (t343.length : Int)
        · rw [if_pos c12] at H
          have c12b0 : decide (0 < (t343.length : Int)) = true := decide_eq_true c12
          have c12b1 : decide (0 < t343.length) = true := decide_eq_true (by omega)
          clear c12
          have H' := Aside0.mk H
          clear H
          obtain ⟨Ao13, co13, eo13⟩ := Kd.R_slice HO345.out
          subst eo13
          have p348 : 0 ≤ (0 : Int) := (by omega)
          have q348 : 0 < (t343.length : Int) := of_decide_eq_true (by first | (with_reducible assumption) | assumption)
          obtain ⟨ad348, e348, hx348_0⟩ := Kd.at_bool (Kd.R_reads' HO345.out).2.2 0 p348 q348
          cases e348
          have qi348 : (0 < t343.length) = True := eq_true (by omega)
          (try rw [show ((0 : Int)).toNat = 0 from rfl] at hx348_0)
          (try rw [Addr.add_zero'] at hx348_0)
          replace p348 := eq_true p348
          replace q348 := eq_true q348
          go_wp2
          repeat (go_quiet (fail); try go_wp2)
          go_meet
          case rel => exact ⟨_, (!(rdOf false t343 0)), (by first | rfl | (simp; done) | (simp [*]; done) | (simp; rfl) | (simp; decide +kernel)), H', ⟨by first | omega | exact Nat.le_refl _⟩, ⟨by (with_reducible repeat (first | apply Kd.R_alloc | apply Kd.R_drewN | apply Kd.R_drew)); exact HO342.out⟩, ⟨by (with_reducible repeat (first | apply Kd.R_alloc | apply Kd.R_drewN | apply Kd.R_drew)); exact HO345.out⟩, ⟨by repeat (first | (with_reducible first | exact HB.out | apply below_alloc | apply pw_below_drewN | apply below_drew1) | exact HB.out)⟩⟩
        · rw [if_neg c12] at H
          exact absurd H (by simp)
      · rw [if_neg c11] at H
        exact absurd H (by simp)
    case rest =>
      clear HC6
      try clear c1
      try clear p2
      try clear p3
      try clear q3
      try clear hx3
      try clear qi3
      try clear c5
      try clear c5b0
      try clear c5b1
      try clear p6
      try clear c7
      try clear c11
      try clear c11b0
      try clear c11b1
      try clear c12
      try clear c12b0
      try clear c12b1
      try clear hx348_0
      try clear p348
      try clear q348
      obtain ⟨kq, x34_5, rfl, HA, HJ5, HO_0, HO_3, HB⟩ := hcut
      cases kq with
      | zero => exact absurd HA.out (by simp [attestorlaw26_IsaReach.j0])
      | succ kj5 =>
        have H := HA.out
        clear HA
        simp only [attestorlaw26_IsaReach.j0] at H
        by_cases c14 : x34_5 = true
        · subst c14
          have H1 : (none) = some r := by rw [if_pos rfl] at H; exact H
          clear H
          have H := H1
          clear H1
          exact absurd H (by simp)
        · replace c14 := Bool.eq_false_iff.mpr c14
          subst c14
          have H1 : ((some (List.replicate 41 false : List Bool)).bind fun y349 => (if 0 < (y349.length : Int) then (attestorlaw26_IsaReach.l0 kj5 t340 t343 (y349.set (0 : Int).toNat true) (([0] : List Int)) 0) else (none))) = some r := by rw [if_neg (show ¬ (false = true) by decide)] at H; exact H
          clear H
          have H := H1
          clear H1
          obtain ⟨y349, hy349⟩ : ∃ y_ : List Bool, y_ = (List.replicate 41 false) := ⟨_, rfl⟩
          replace H : (if 0 < (y349.length : Int) then (attestorlaw26_IsaReach.l0 kj5 t340 t343 (y349.set (0 : Int).toNat true) (([0] : List Int)) 0) else (none)) = some r := by first | (rw [hy349]; with_reducible exact H) | (have H2_ := (Option.bind_some _ _).symm.trans H; rw [hy349]; with_reducible exact H2_) | (have H2_ := (Option.bind_some _ _).symm.trans H; with_reducible exact H2_) | with_reducible exact H | (rw [hy349]; exact H) | exact H
          have Ny349 := Aside0.mk hy349
          clear hy349
          obtain ⟨y352, hy352⟩ : ∃ y_ : List Int, y_ = (([0] : List Int)) := ⟨_, rfl⟩
          replace H : (if 0 < (y349.length : Int) then (attestorlaw26_IsaReach.l0 kj5 t340 t343 (y349.set (0 : Int).toNat true) y352 0) else (none)) = some r := by first | (rw [hy352]; with_reducible exact H) | (have H2_ := (Option.bind_some _ _).symm.trans H; rw [hy352]; with_reducible exact H2_) | (have H2_ := (Option.bind_some _ _).symm.trans H; with_reducible exact H2_) | with_reducible exact H | (rw [hy352]; exact H) | exact H
          have Ny352 := Aside0.mk hy352
          clear hy352
          by_cases c15 : 0 < (y349.length : Int)
          · rw [if_pos c15] at H
            have c15b0 : decide (0 < (y349.length : Int)) = true := decide_eq_true c15
            have c15b1 : decide (0 < y349.length) = true := decide_eq_true (by omega)
            clear c15
            obtain ⟨y355, hy355⟩ : ∃ y_ : List Bool, y_ = (y349.set (0 : Int).toNat true) := ⟨_, rfl⟩
            replace H : (attestorlaw26_IsaReach.l0 kj5 t340 t343 y355 y352 0) = some r := by first | (rw [hy355]; with_reducible exact H) | (have H2_ := (Option.bind_some _ _).symm.trans H; rw [hy355]; with_reducible exact H2_) | (have H2_ := (Option.bind_some _ _).symm.trans H; with_reducible exact H2_) | with_reducible exact H | (rw [hy355]; exact H) | exact H
            have Ny355 := Aside0.mk hy355
            clear hy355
            have H' := Aside0.mk H
            clear H
            go_wp2_with (first | ((with_reducible refine gate_dst (N := 4) rfl ?_); (try (refine gate_guard (by rfl) ?_; dsimp only)); refine arr_event ?hg (N := 4) ?hd 45 41 (by omega) ?hr ?_; (case hd => rfl); (case hg => rfl); (case hr => first | (go_simp; done) | (go_simp; rfl)); intro ga_ hga_ w17 ho18 hb; clear hga_; rw [← Ny349.out] at ho18; obtain ⟨v350, ev_⟩ : ∃ v_ : Value, v_ = Value.slice (some ⟨ga_, 0, none⟩) 41 41 := ⟨_, rfl⟩; rw [← ev_] at ho18; have EV := Aside0.mk ev_; clear ev_; have n0_ := Aside0.mk (Kd.R_below (by (with_reducible repeat (first | apply Kd.R_alloc | apply Kd.R_drewN | apply Kd.R_drew)); exact HO_0.out) hb); have n1_ := Aside0.mk (Kd.R_below (by (with_reducible repeat (first | apply Kd.R_alloc | apply Kd.R_drewN | apply Kd.R_drew)); exact HO_3.out) hb); have n2_ := Aside0.mk (Kd.R_lower ho18 (below_size (by repeat (first | (with_reducible first | exact HB.out | apply below_alloc | apply pw_below_drewN | apply below_drew1) | exact HB.out)))); have n3_ := Aside0.mk (below_step (by repeat (first | (with_reducible first | exact HB.out | apply below_alloc | apply pw_below_drewN | apply below_drew1) | exact HB.out)) hb); clear HO_0; clear HO_3; clear HB; have HO_0 := n0_; have HO_3 := n1_; have HO351 := n2_; have HB := n3_; clear n0_ n1_ n2_ n3_; clear hb ho18) | ((with_reducible refine gate_dst (N := 35) rfl ?_); (try (refine gate_guard (by rfl) ?_; dsimp only)); refine Kd.R_lit (Kd.int .i64) _ 3 ?hg (N := 35) ?hd (xs := ([0] : List Int)) (inner := [.int .i64 0]) (ok := fun _ => True) (okp := fun _ => True) ?hr ?hp (fun _ hk => hk) trivial (Below.refl _ _) (Nat.le_refl _) (by simp) ?_; (case hd => rfl); (case hg => rfl); (case hr => first | (go_simp; done) | (go_simp; rfl)); (case hp => exact (Reps.one (show Kd.M (Kd.int .i64) _ _ _ 0 [.int .i64 0] from rfl) (Reps.none _ _))); intro v353 w19 ho20 hb hg_ hnew_; clear hg_ hnew_; (first | rw [← Ny352.out] at ho20 | (simp only [Int.reduceToNat] at ho20; rw [← Ny352.out] at ho20)); have n0_ := Aside0.mk (Kd.R_below (by (with_reducible repeat (first | apply Kd.R_alloc | apply Kd.R_drewN | apply Kd.R_drew)); exact HO_0.out) hb); have n1_ := Aside0.mk (Kd.R_below (by (with_reducible repeat (first | apply Kd.R_alloc | apply Kd.R_drewN | apply Kd.R_drew)); exact HO_3.out) hb); have n2_ := Aside0.mk (Kd.R_below (by (with_reducible repeat (first | apply Kd.R_alloc | apply Kd.R_drewN | apply Kd.R_drew)); exact HO351.out) hb); have n3_ := Aside0.mk (Kd.R_lower ho20 (below_size (by repeat (first | (with_reducible first | exact HB.out | apply below_alloc | apply pw_below_drewN | apply below_drew1) | exact HB.out)))); have n4_ := Aside0.mk (below_step (by repeat (first | (with_reducible first | exact HB.out | apply below_alloc | apply pw_below_drewN | apply below_drew1) | exact HB.out)) hb); clear HO_0; clear HO_3; clear HO351; clear HB; have HO_0 := n0_; have HO_3 := n1_; have HO351 := n2_; have HO354 := n3_; have HB := n4_; clear n0_ n1_ n2_ n3_ n4_; clear hb ho20; have p16 : 0 ≤ (0 : Int) := (by omega); have q16 : (0 : Int) < ((y349.length : Int) : Int) := of_decide_eq_true (by first | (with_reducible assumption) | assumption); have qi16 : (0 < y349.length) = True := eq_true (by omega); obtain ⟨go16, co16, eo16, gb16, gl16, cl16, HG16⟩ := Kd.R_form HO351.out (by omega); cases eo16; have ev_ := EV.out; clear EV; injection ev_ with e1_ e2_ e3_; injection e1_ with e1_; injection e1_ with e1_; subst e1_; have HLN := Aside0.mk e2_; clear e2_ e3_; have GB16 := Aside0.mk gb16; have GG16 := Aside0.mk HG16; clear gb16 gl16 HG16; obtain ⟨hx16_0, hf16_0⟩ := Kd.R_celln false HO351.out (0 : Int) p16 q16; (try rw [show ((0 : Int)).toNat = 0 from rfl] at hx16_0); (try simp only [Nat.reduceMul, Nat.zero_mul, Nat.zero_add, Nat.reduceAdd] at hx16_0); (try rw [show ((0 : Int)).toNat = 0 from rfl] at hf16_0); (try simp only [Nat.reduceMul, Nat.zero_mul, Nat.zero_add, Nat.reduceAdd] at hf16_0); replace p16 := eq_true p16; replace q16 := eq_true q16; obtain ⟨hy21_, hz21_⟩ := Kd.R_celln false HO351.out (0 : Int) (by omega) (of_decide_eq_true (by first | (with_reducible assumption) | assumption)); (try simp only [Int.reduceToNat, Int.toNat_zero, Int.toNat_ofNat, Nat.reduceMul, Nat.zero_mul, Nat.zero_add] at hy21_ hz21_); (try rw [show ((0 : Int)).toNat = 0 from rfl] at hy21_); (try rw [show ((0 : Int)).toNat = 0 from rfl] at hz21_); have HP21 := Kd.R_putg HO351.out (0 : Int) true) | ((with_reducible refine gate_store (t := 4) (p := 36) rfl ?_); (try (rw [drewN_self w19]; generalize hq_ : World.drewN w19 _ = w19; have n0_ := Aside0.mk (Kd.R_at hq_ HO_0.out); have n1_ := Aside0.mk (Kd.R_at hq_ HO_3.out); have n2_ := Aside0.mk (Kd.R_at hq_ HO351.out); have n3_ := Aside0.mk (Kd.R_at hq_ HO354.out); have n4_ := Aside0.mk (below_at hq_ HB.out); clear hq_ HO_0 HO_3 HO351 HO354 HB; have HO_0 := n0_; have HO_3 := n1_; have HO351 := n2_; have HO354 := n3_; have HB := n4_; clear n0_ n1_ n2_ n3_ n4_; (try (obtain ⟨hy21_, hz21_⟩ := Kd.R_celln false HO351.out (0 : Int) (by omega) (of_decide_eq_true (by first | (with_reducible assumption) | assumption)))); (try (try simp only [Int.reduceToNat, Int.toNat_zero, Int.toNat_ofNat, Nat.reduceMul, Nat.zero_mul, Nat.zero_add] at hy21_ hz21_)); (try (try rw [show ((0 : Int)).toNat = 0 from rfl] at hy21_)); (try (try rw [show ((0 : Int)).toNat = 0 from rfl] at hz21_)); (try (have HP21 := Kd.R_putg HO351.out (0 : Int) true)))); refine store_event (t := 4) (p := 36) (v := ?vo_w22) (w1 := (w19.setCell ⟨go16, (0 : Int).toNat, none⟩ (.bool true))) ?hg ?ho ?hn ?hr ?_; (case ho => rfl); (case hg => rfl); (case hn => rfl); (case hr => first | (go_simp; done) | (go_simp; rfl)); intro w22 hw; have hg : w19.grownBy w22 (some go16) := (by rw [hw]; exact HP21.2); have hp_ : Kd.R Kd.bool 45 w22 w.heap.size (fun _ => True) (.slice (some ⟨go16, 0, none⟩) y349.length co16) y355 := (by rw [hw, Ny355.out]; exact HP21.1); clear HP21; have n0_ := Aside0.mk (Kd.R_over' (v := (.slice (some ⟨go16, 0, none⟩) y349.length co16)) (by (with_reducible repeat (first | apply Kd.R_alloc | apply Kd.R_drewN | apply Kd.R_drew)); exact HO_0.out) (Kd.R_typed HO351.out) (by decide) hg); have n1_ := Aside0.mk (Kd.R_over' (v := (.slice (some ⟨go16, 0, none⟩) y349.length co16)) (by (with_reducible repeat (first | apply Kd.R_alloc | apply Kd.R_drewN | apply Kd.R_drew)); exact HO_3.out) (Kd.R_typed HO351.out) (by decide) hg); have n2_ := Aside0.mk (hp_); have n3_ := Aside0.mk (Kd.R_over' (v := (.slice (some ⟨go16, 0, none⟩) y349.length co16)) (by (with_reducible repeat (first | apply Kd.R_alloc | apply Kd.R_drewN | apply Kd.R_drew)); exact HO354.out) (Kd.R_typed HO351.out) (by decide) hg); have n4_ := Aside0.mk ((by rw [hw]; exact below_set (HB.out) GB16.out : Below w.heap.size w w22)); clear HO_0; clear HO_3; clear HO351; clear HO354; clear HB; have HO_0 := n0_; have HO_3 := n1_; have HO351 := n2_; have HO354 := n3_; have HB := n4_; clear n0_ n1_ n2_ n3_ n4_; clear hg hw hp_))
            repeat (go_quiet (first | ((with_reducible refine gate_dst (N := 4) rfl ?_); (try (refine gate_guard (by rfl) ?_; dsimp only)); refine arr_event ?hg (N := 4) ?hd 45 41 (by omega) ?hr ?_; (case hd => rfl); (case hg => rfl); (case hr => first | (go_simp; done) | (go_simp; rfl)); intro ga_ hga_ w17 ho18 hb; clear hga_; rw [← Ny349.out] at ho18; obtain ⟨v350, ev_⟩ : ∃ v_ : Value, v_ = Value.slice (some ⟨ga_, 0, none⟩) 41 41 := ⟨_, rfl⟩; rw [← ev_] at ho18; have EV := Aside0.mk ev_; clear ev_; have n0_ := Aside0.mk (Kd.R_below (by (with_reducible repeat (first | apply Kd.R_alloc | apply Kd.R_drewN | apply Kd.R_drew)); exact HO_0.out) hb); have n1_ := Aside0.mk (Kd.R_below (by (with_reducible repeat (first | apply Kd.R_alloc | apply Kd.R_drewN | apply Kd.R_drew)); exact HO_3.out) hb); have n2_ := Aside0.mk (Kd.R_lower ho18 (below_size (by repeat (first | (with_reducible first | exact HB.out | apply below_alloc | apply pw_below_drewN | apply below_drew1) | exact HB.out)))); have n3_ := Aside0.mk (below_step (by repeat (first | (with_reducible first | exact HB.out | apply below_alloc | apply pw_below_drewN | apply below_drew1) | exact HB.out)) hb); clear HO_0; clear HO_3; clear HB; have HO_0 := n0_; have HO_3 := n1_; have HO351 := n2_; have HB := n3_; clear n0_ n1_ n2_ n3_; clear hb ho18) | ((with_reducible refine gate_dst (N := 35) rfl ?_); (try (refine gate_guard (by rfl) ?_; dsimp only)); refine Kd.R_lit (Kd.int .i64) _ 3 ?hg (N := 35) ?hd (xs := ([0] : List Int)) (inner := [.int .i64 0]) (ok := fun _ => True) (okp := fun _ => True) ?hr ?hp (fun _ hk => hk) trivial (Below.refl _ _) (Nat.le_refl _) (by simp) ?_; (case hd => rfl); (case hg => rfl); (case hr => first | (go_simp; done) | (go_simp; rfl)); (case hp => exact (Reps.one (show Kd.M (Kd.int .i64) _ _ _ 0 [.int .i64 0] from rfl) (Reps.none _ _))); intro v353 w19 ho20 hb hg_ hnew_; clear hg_ hnew_; (first | rw [← Ny352.out] at ho20 | (simp only [Int.reduceToNat] at ho20; rw [← Ny352.out] at ho20)); have n0_ := Aside0.mk (Kd.R_below (by (with_reducible repeat (first | apply Kd.R_alloc | apply Kd.R_drewN | apply Kd.R_drew)); exact HO_0.out) hb); have n1_ := Aside0.mk (Kd.R_below (by (with_reducible repeat (first | apply Kd.R_alloc | apply Kd.R_drewN | apply Kd.R_drew)); exact HO_3.out) hb); have n2_ := Aside0.mk (Kd.R_below (by (with_reducible repeat (first | apply Kd.R_alloc | apply Kd.R_drewN | apply Kd.R_drew)); exact HO351.out) hb); have n3_ := Aside0.mk (Kd.R_lower ho20 (below_size (by repeat (first | (with_reducible first | exact HB.out | apply below_alloc | apply pw_below_drewN | apply below_drew1) | exact HB.out)))); have n4_ := Aside0.mk (below_step (by repeat (first | (with_reducible first | exact HB.out | apply below_alloc | apply pw_below_drewN | apply below_drew1) | exact HB.out)) hb); clear HO_0; clear HO_3; clear HO351; clear HB; have HO_0 := n0_; have HO_3 := n1_; have HO351 := n2_; have HO354 := n3_; have HB := n4_; clear n0_ n1_ n2_ n3_ n4_; clear hb ho20; have p16 : 0 ≤ (0 : Int) := (by omega); have q16 : (0 : Int) < ((y349.length : Int) : Int) := of_decide_eq_true (by first | (with_reducible assumption) | assumption); have qi16 : (0 < y349.length) = True := eq_true (by omega); obtain ⟨go16, co16, eo16, gb16, gl16, cl16, HG16⟩ := Kd.R_form HO351.out (by omega); cases eo16; have ev_ := EV.out; clear EV; injection ev_ with e1_ e2_ e3_; injection e1_ with e1_; injection e1_ with e1_; subst e1_; have HLN := Aside0.mk e2_; clear e2_ e3_; have GB16 := Aside0.mk gb16; have GG16 := Aside0.mk HG16; clear gb16 gl16 HG16; obtain ⟨hx16_0, hf16_0⟩ := Kd.R_celln false HO351.out (0 : Int) p16 q16; (try rw [show ((0 : Int)).toNat = 0 from rfl] at hx16_0); (try simp only [Nat.reduceMul, Nat.zero_mul, Nat.zero_add, Nat.reduceAdd] at hx16_0); (try rw [show ((0 : Int)).toNat = 0 from rfl] at hf16_0); (try simp only [Nat.reduceMul, Nat.zero_mul, Nat.zero_add, Nat.reduceAdd] at hf16_0); replace p16 := eq_true p16; replace q16 := eq_true q16; obtain ⟨hy21_, hz21_⟩ := Kd.R_celln false HO351.out (0 : Int) (by omega) (of_decide_eq_true (by first | (with_reducible assumption) | assumption)); (try simp only [Int.reduceToNat, Int.toNat_zero, Int.toNat_ofNat, Nat.reduceMul, Nat.zero_mul, Nat.zero_add] at hy21_ hz21_); (try rw [show ((0 : Int)).toNat = 0 from rfl] at hy21_); (try rw [show ((0 : Int)).toNat = 0 from rfl] at hz21_); have HP21 := Kd.R_putg HO351.out (0 : Int) true) | ((with_reducible refine gate_store (t := 4) (p := 36) rfl ?_); (try (rw [drewN_self w19]; generalize hq_ : World.drewN w19 _ = w19; have n0_ := Aside0.mk (Kd.R_at hq_ HO_0.out); have n1_ := Aside0.mk (Kd.R_at hq_ HO_3.out); have n2_ := Aside0.mk (Kd.R_at hq_ HO351.out); have n3_ := Aside0.mk (Kd.R_at hq_ HO354.out); have n4_ := Aside0.mk (below_at hq_ HB.out); clear hq_ HO_0 HO_3 HO351 HO354 HB; have HO_0 := n0_; have HO_3 := n1_; have HO351 := n2_; have HO354 := n3_; have HB := n4_; clear n0_ n1_ n2_ n3_ n4_; (try (obtain ⟨hy21_, hz21_⟩ := Kd.R_celln false HO351.out (0 : Int) (by omega) (of_decide_eq_true (by first | (with_reducible assumption) | assumption)))); (try (try simp only [Int.reduceToNat, Int.toNat_zero, Int.toNat_ofNat, Nat.reduceMul, Nat.zero_mul, Nat.zero_add] at hy21_ hz21_)); (try (try rw [show ((0 : Int)).toNat = 0 from rfl] at hy21_)); (try (try rw [show ((0 : Int)).toNat = 0 from rfl] at hz21_)); (try (have HP21 := Kd.R_putg HO351.out (0 : Int) true)))); refine store_event (t := 4) (p := 36) (v := ?vo_w22) (w1 := (w19.setCell ⟨go16, (0 : Int).toNat, none⟩ (.bool true))) ?hg ?ho ?hn ?hr ?_; (case ho => rfl); (case hg => rfl); (case hn => rfl); (case hr => first | (go_simp; done) | (go_simp; rfl)); intro w22 hw; have hg : w19.grownBy w22 (some go16) := (by rw [hw]; exact HP21.2); have hp_ : Kd.R Kd.bool 45 w22 w.heap.size (fun _ => True) (.slice (some ⟨go16, 0, none⟩) y349.length co16) y355 := (by rw [hw, Ny355.out]; exact HP21.1); clear HP21; have n0_ := Aside0.mk (Kd.R_over' (v := (.slice (some ⟨go16, 0, none⟩) y349.length co16)) (by (with_reducible repeat (first | apply Kd.R_alloc | apply Kd.R_drewN | apply Kd.R_drew)); exact HO_0.out) (Kd.R_typed HO351.out) (by decide) hg); have n1_ := Aside0.mk (Kd.R_over' (v := (.slice (some ⟨go16, 0, none⟩) y349.length co16)) (by (with_reducible repeat (first | apply Kd.R_alloc | apply Kd.R_drewN | apply Kd.R_drew)); exact HO_3.out) (Kd.R_typed HO351.out) (by decide) hg); have n2_ := Aside0.mk (hp_); have n3_ := Aside0.mk (Kd.R_over' (v := (.slice (some ⟨go16, 0, none⟩) y349.length co16)) (by (with_reducible repeat (first | apply Kd.R_alloc | apply Kd.R_drewN | apply Kd.R_drew)); exact HO354.out) (Kd.R_typed HO351.out) (by decide) hg); have n4_ := Aside0.mk ((by rw [hw]; exact below_set (HB.out) GB16.out : Below w.heap.size w w22)); clear HO_0; clear HO_3; clear HO351; clear HO354; clear HB; have HO_0 := n0_; have HO_3 := n1_; have HO351 := n2_; have HO354 := n3_; have HB := n4_; clear n0_ n1_ n2_ n3_ n4_; clear hg hw hp_)); try go_wp2_with (first | ((with_reducible refine gate_dst (N := 4) rfl ?_); (try (refine gate_guard (by rfl) ?_; dsimp only)); refine arr_event ?hg (N := 4) ?hd 45 41 (by omega) ?hr ?_; (case hd => rfl); (case hg => rfl); (case hr => first | (go_simp; done) | (go_simp; rfl)); intro ga_ hga_ w17 ho18 hb; clear hga_; rw [← Ny349.out] at ho18; obtain ⟨v350, ev_⟩ : ∃ v_ : Value, v_ = Value.slice (some ⟨ga_, 0, none⟩) 41 41 := ⟨_, rfl⟩; rw [← ev_] at ho18; have EV := Aside0.mk ev_; clear ev_; have n0_ := Aside0.mk (Kd.R_below (by (with_reducible repeat (first | apply Kd.R_alloc | apply Kd.R_drewN | apply Kd.R_drew)); exact HO_0.out) hb); have n1_ := Aside0.mk (Kd.R_below (by (with_reducible repeat (first | apply Kd.R_alloc | apply Kd.R_drewN | apply Kd.R_drew)); exact HO_3.out) hb); have n2_ := Aside0.mk (Kd.R_lower ho18 (below_size (by repeat (first | (with_reducible first | exact HB.out | apply below_alloc | apply pw_below_drewN | apply below_drew1) | exact HB.out)))); have n3_ := Aside0.mk (below_step (by repeat (first | (with_reducible first | exact HB.out | apply below_alloc | apply pw_below_drewN | apply below_drew1) | exact HB.out)) hb); clear HO_0; clear HO_3; clear HB; have HO_0 := n0_; have HO_3 := n1_; have HO351 := n2_; have HB := n3_; clear n0_ n1_ n2_ n3_; clear hb ho18) | ((with_reducible refine gate_dst (N := 35) rfl ?_); (try (refine gate_guard (by rfl) ?_; dsimp only)); refine Kd.R_lit (Kd.int .i64) _ 3 ?hg (N := 35) ?hd (xs := ([0] : List Int)) (inner := [.int .i64 0]) (ok := fun _ => True) (okp := fun _ => True) ?hr ?hp (fun _ hk => hk) trivial (Below.refl _ _) (Nat.le_refl _) (by simp) ?_; (case hd => rfl); (case hg => rfl); (case hr => first | (go_simp; done) | (go_simp; rfl)); (case hp => exact (Reps.one (show Kd.M (Kd.int .i64) _ _ _ 0 [.int .i64 0] from rfl) (Reps.none _ _))); intro v353 w19 ho20 hb hg_ hnew_; clear hg_ hnew_; (first | rw [← Ny352.out] at ho20 | (simp only [Int.reduceToNat] at ho20; rw [← Ny352.out] at ho20)); have n0_ := Aside0.mk (Kd.R_below (by (with_reducible repeat (first | apply Kd.R_alloc | apply Kd.R_drewN | apply Kd.R_drew)); exact HO_0.out) hb); have n1_ := Aside0.mk (Kd.R_below (by (with_reducible repeat (first | apply Kd.R_alloc | apply Kd.R_drewN | apply Kd.R_drew)); exact HO_3.out) hb); have n2_ := Aside0.mk (Kd.R_below (by (with_reducible repeat (first | apply Kd.R_alloc | apply Kd.R_drewN | apply Kd.R_drew)); exact HO351.out) hb); have n3_ := Aside0.mk (Kd.R_lower ho20 (below_size (by repeat (first | (with_reducible first | exact HB.out | apply below_alloc | apply pw_below_drewN | apply below_drew1) | exact HB.out)))); have n4_ := Aside0.mk (below_step (by repeat (first | (with_reducible first | exact HB.out | apply below_alloc | apply pw_below_drewN | apply below_drew1) | exact HB.out)) hb); clear HO_0; clear HO_3; clear HO351; clear HB; have HO_0 := n0_; have HO_3 := n1_; have HO351 := n2_; have HO354 := n3_; have HB := n4_; clear n0_ n1_ n2_ n3_ n4_; clear hb ho20; have p16 : 0 ≤ (0 : Int) := (by omega); have q16 : (0 : Int) < ((y349.length : Int) : Int) := of_decide_eq_true (by first | (with_reducible assumption) | assumption); have qi16 : (0 < y349.length) = True := eq_true (by omega); obtain ⟨go16, co16, eo16, gb16, gl16, cl16, HG16⟩ := Kd.R_form HO351.out (by omega); cases eo16; have ev_ := EV.out; clear EV; injection ev_ with e1_ e2_ e3_; injection e1_ with e1_; injection e1_ with e1_; subst e1_; have HLN := Aside0.mk e2_; clear e2_ e3_; have GB16 := Aside0.mk gb16; have GG16 := Aside0.mk HG16; clear gb16 gl16 HG16; obtain ⟨hx16_0, hf16_0⟩ := Kd.R_celln false HO351.out (0 : Int) p16 q16; (try rw [show ((0 : Int)).toNat = 0 from rfl] at hx16_0); (try simp only [Nat.reduceMul, Nat.zero_mul, Nat.zero_add, Nat.reduceAdd] at hx16_0); (try rw [show ((0 : Int)).toNat = 0 from rfl] at hf16_0); (try simp only [Nat.reduceMul, Nat.zero_mul, Nat.zero_add, Nat.reduceAdd] at hf16_0); replace p16 := eq_true p16; replace q16 := eq_true q16; obtain ⟨hy21_, hz21_⟩ := Kd.R_celln false HO351.out (0 : Int) (by omega) (of_decide_eq_true (by first | (with_reducible assumption) | assumption)); (try simp only [Int.reduceToNat, Int.toNat_zero, Int.toNat_ofNat, Nat.reduceMul, Nat.zero_mul, Nat.zero_add] at hy21_ hz21_); (try rw [show ((0 : Int)).toNat = 0 from rfl] at hy21_); (try rw [show ((0 : Int)).toNat = 0 from rfl] at hz21_); have HP21 := Kd.R_putg HO351.out (0 : Int) true) | ((with_reducible refine gate_store (t := 4) (p := 36) rfl ?_); (try (rw [drewN_self w19]; generalize hq_ : World.drewN w19 _ = w19; have n0_ := Aside0.mk (Kd.R_at hq_ HO_0.out); have n1_ := Aside0.mk (Kd.R_at hq_ HO_3.out); have n2_ := Aside0.mk (Kd.R_at hq_ HO351.out); have n3_ := Aside0.mk (Kd.R_at hq_ HO354.out); have n4_ := Aside0.mk (below_at hq_ HB.out); clear hq_ HO_0 HO_3 HO351 HO354 HB; have HO_0 := n0_; have HO_3 := n1_; have HO351 := n2_; have HO354 := n3_; have HB := n4_; clear n0_ n1_ n2_ n3_ n4_; (try (obtain ⟨hy21_, hz21_⟩ := Kd.R_celln false HO351.out (0 : Int) (by omega) (of_decide_eq_true (by first | (with_reducible assumption) | assumption)))); (try (try simp only [Int.reduceToNat, Int.toNat_zero, Int.toNat_ofNat, Nat.reduceMul, Nat.zero_mul, Nat.zero_add] at hy21_ hz21_)); (try (try rw [show ((0 : Int)).toNat = 0 from rfl] at hy21_)); (try (try rw [show ((0 : Int)).toNat = 0 from rfl] at hz21_)); (try (have HP21 := Kd.R_putg HO351.out (0 : Int) true)))); refine store_event (t := 4) (p := 36) (v := ?vo_w22) (w1 := (w19.setCell ⟨go16, (0 : Int).toNat, none⟩ (.bool true))) ?hg ?ho ?hn ?hr ?_; (case ho => rfl); (case hg => rfl); (case hn => rfl); (case hr => first | (go_simp; done) | (go_simp; rfl)); intro w22 hw; have hg : w19.grownBy w22 (some go16) := (by rw [hw]; exact HP21.2); have hp_ : Kd.R Kd.bool 45 w22 w.heap.size (fun _ => True) (.slice (some ⟨go16, 0, none⟩) y349.length co16) y355 := (by rw [hw, Ny355.out]; exact HP21.1); clear HP21; have n0_ := Aside0.mk (Kd.R_over' (v := (.slice (some ⟨go16, 0, none⟩) y349.length co16)) (by (with_reducible repeat (first | apply Kd.R_alloc | apply Kd.R_drewN | apply Kd.R_drew)); exact HO_0.out) (Kd.R_typed HO351.out) (by decide) hg); have n1_ := Aside0.mk (Kd.R_over' (v := (.slice (some ⟨go16, 0, none⟩) y349.length co16)) (by (with_reducible repeat (first | apply Kd.R_alloc | apply Kd.R_drewN | apply Kd.R_drew)); exact HO_3.out) (Kd.R_typed HO351.out) (by decide) hg); have n2_ := Aside0.mk (hp_); have n3_ := Aside0.mk (Kd.R_over' (v := (.slice (some ⟨go16, 0, none⟩) y349.length co16)) (by (with_reducible repeat (first | apply Kd.R_alloc | apply Kd.R_drewN | apply Kd.R_drew)); exact HO354.out) (Kd.R_typed HO351.out) (by decide) hg); have n4_ := Aside0.mk ((by rw [hw]; exact below_set (HB.out) GB16.out : Below w.heap.size w w22)); clear HO_0; clear HO_3; clear HO351; clear HO354; clear HB; have HO_0 := n0_; have HO_3 := n1_; have HO351 := n2_; have HO354 := n3_; have HB := n4_; clear n0_ n1_ n2_ n3_ n4_; clear hg hw hp_)))
            go_loopg [5, 6] kj5 (fun kq v5 v6 w' => ∃ (x4_2 : List Bool) (x5_2 : List Int) (x6_2 : Int), v6 = .int .i64 x6_2 ∧ Aside0 (attestorlaw26_IsaReach.l0 kq t340 t343 x4_2 x5_2 x6_2 = some r) ∧ Aside0 (kq ≤ kj5) ∧ Aside0 (Kd.R k37 37 w' w.heap.size (fun _ => True) (.slice Ao8 t340.length co8) t340) ∧ Aside0 (Kd.R Kd.bool 4 w' w.heap.size (fun _ => True) v344 t343) ∧ Aside0 (Kd.R Kd.bool 45 w' w.heap.size (fun _ => True) (.slice (some ⟨go16, 0, none⟩) y349.length co16) x4_2) ∧ Aside0 (Kd.R (Kd.int .i64) 3 w' w.heap.size (fun _ => True) v5 x5_2) ∧ Aside0 (Below w.heap.size w w'))
            case atStart => exact ⟨(y355), (y352), (0), (by first | rfl | (simp; done) | (simp [*]; done) | (simp; rfl) | (simp; decide +kernel)), H', ⟨Nat.le_refl _⟩, ⟨by (with_reducible repeat (first | apply Kd.R_alloc | apply Kd.R_drewN | apply Kd.R_drew)); exact HO_0.out⟩, ⟨by (with_reducible repeat (first | apply Kd.R_alloc | apply Kd.R_drewN | apply Kd.R_drew)); exact HO_3.out⟩, ⟨by (with_reducible repeat (first | apply Kd.R_alloc | apply Kd.R_drewN | apply Kd.R_drew)); exact HO351.out⟩, ⟨by (with_reducible repeat (first | apply Kd.R_alloc | apply Kd.R_drewN | apply Kd.R_drew)); exact HO354.out⟩, ⟨by repeat (first | (with_reducible first | exact HB.out | apply below_alloc | apply pw_below_drewN | apply below_drew1) | exact HB.out)⟩⟩
            case round =>
              clear H'
              try clear c1
              try clear p1
              try clear q1
              try clear hx1
              try clear qi1
              try clear hf1
              try clear p2
              try clear p3
              try clear q3
              try clear hx3
              try clear qi3
              try clear c5
              try clear c5b0
              try clear c5b1
              try clear p6
              try clear c7
              try clear c11
              try clear c11b0
              try clear c11b1
              try clear c12
              try clear c12b0
              try clear c12b1
              try clear c14
              try clear c15
              try clear c15b0
              try clear c15b1
              try clear p16
              try clear q16
              try clear hx16
              try clear qi16
              try clear hf16
              try clear hx16_0
              try clear hx348_0
              try clear p16
              try clear p2
              try clear p3
              try clear p348
              try clear p6
              try clear q16
              try clear q3
              try clear q348
              obtain ⟨x4_2, x5_2, x6_2, rfl, HA, HK2, HO_0, HO_3, HO_4, HO_5, HB⟩ := hrel
              have hl4_2 := (Kd.R_reads' HO_4.out).1
              rw [hl4_2] at HO_4
              (try simp only [hl4_2])
              (try simp only [hl4_2] at HO_0)
              (try simp only [hl4_2] at HO_3)
              (try simp only [hl4_2] at HO_5)
              cases gk with
              | zero => exact absurd HA.out (by simp [attestorlaw26_IsaReach.l0])
              | succ k2 =>
                have H := HA.out
                clear HA
                simp only [attestorlaw26_IsaReach.l0] at H
                by_cases c23 : x6_2 < (x5_2.length : Int)
                · rw [if_pos c23] at H
                  have c23b0 : decide (x6_2 < (x5_2.length : Int)) = true := decide_eq_true c23
                  (try simp only [hl4_2] at c23b0)
                  clear c23
                  by_cases c24 : 0 ≤ x6_2
                  · rw [if_pos c24] at H
                    have c24b0 : decide (0 ≤ x6_2) = true := decide_eq_true c24
                    (try simp only [hl4_2] at c24b0)
                    clear c24
                    replace H := Option.bind_eq_some_iff.mp H
                    obtain ⟨t357, A250, H⟩ := H
                    replace H : (if (t357.length : Int) = 0 then (none) else (attestorlaw26_IsaReach.l1 k2 t340 t343 x4_2 x5_2 x6_2 t357 0)) = some r := H
                    have A25 := Aside0.mk A250
                    clear A250
                    by_cases c26 : (t357.length : Int) = 0
                    · rw [if_pos c26] at H
                      exact absurd H (by simp)
                    · rw [if_neg c26] at H
                      have c26b0 : ((t357.length : Int) == 0) = false := beq_eq_false_iff_ne.mpr c26
                      (try simp only [hl4_2] at c26b0)
                      have c26b1 : ((t357.length : Int) != 0) = true := bne_iff_ne.mpr c26
                      (try simp only [hl4_2] at c26b1)
                      have c26b2 : ¬ (t357 = []) := fun h_ => c26 (by rw [h_]; rfl)
                      (try simp only [hl4_2] at c26b2)
                      have H' := Aside0.mk H
                      clear H
                      obtain ⟨Ao27, co27, eo27⟩ := Kd.R_slice HO_5.out
                      subst eo27
                      have p356 : 0 ≤ (x6_2 : Int) := of_decide_eq_true (by first | (with_reducible assumption) | assumption)
                      have q356 : x6_2 < (x5_2.length : Int) := of_decide_eq_true (by first | (with_reducible assumption) | assumption)
                      obtain ⟨ad356, e356, hx356_0⟩ := Kd.at_int (Kd.R_reads' HO_5.out).2.2 x6_2 p356 q356
                      cases e356
                      replace p356 := eq_true p356
                      replace q356 := eq_true q356
                      go_wp2_with (first | (go_at_call 21; (with_reducible refine (isa_Next.calls k2 _ _ t340 (rd x5_2 x6_2) t357 _ ?side1 ?side2 ?side3 A25.out).mono ?_); (case side1 => repeat (first | exact (Kd.R_reads' HO_0.out).2.2 | (with_reducible refine Kd.C_alloc ?_ _) | (with_reducible refine Kd.C_drewN ?_ _) | (with_reducible refine Kd.C_drew ?_))); (case side2 => exact (Kd.R_reads' HO_0.out).2.1); (case side3 => repeat (first | exact (GL.below HRG.out HB.out) | (with_reducible refine GL.alloc ?_ _) | (with_reducible refine GL.drewN ?_ _) | (with_reducible refine GL.drew ?_))); rintro e w28 ⟨v358, rfl, ho0, hb⟩; have n0_ := Aside0.mk (Kd.R_below (by (with_reducible repeat (first | apply Kd.R_alloc | apply Kd.R_drewN | apply Kd.R_drew)); exact HO_0.out) hb); have n1_ := Aside0.mk (Kd.R_below (by (with_reducible repeat (first | apply Kd.R_alloc | apply Kd.R_drewN | apply Kd.R_drew)); exact HO_3.out) hb); have n2_ := Aside0.mk (Kd.R_below (by (with_reducible repeat (first | apply Kd.R_alloc | apply Kd.R_drewN | apply Kd.R_drew)); exact HO_4.out) hb); have n3_ := Aside0.mk (Kd.R_elder' (by (with_reducible repeat (first | apply Kd.R_alloc | apply Kd.R_drewN | apply Kd.R_drew)); exact HO_5.out) (Kd.R_base ho0) hb); have n4_ := Aside0.mk (Kd.R_lower (Kd.R_new' ho0 (Kd.R_lt (by (with_reducible repeat (first | apply Kd.R_alloc | apply Kd.R_drewN | apply Kd.R_drew)); exact HO_5.out))) (below_size (by repeat (first | (with_reducible first | exact HB.out | apply below_alloc | apply pw_below_drewN | apply below_drew1) | exact HB.out)))); have n5_ := Aside0.mk (below_step (by repeat (first | (with_reducible first | exact HB.out | apply below_alloc | apply pw_below_drewN | apply below_drew1) | exact HB.out)) hb); clear HO_0; clear HO_3; clear HO_4; clear HO_5; clear HB; have HO_0 := n0_; have HO_3 := n1_; have HO_4 := n2_; have HO_5 := n3_; have HO359 := n4_; have HB := n5_; clear n0_ n1_ n2_ n3_ n4_ n5_; (try clear hb); (try clear hb2); (try clear hk); (try clear hi); (try clear ho0); obtain ⟨Ao29, co29, eo29⟩ := Kd.R_slice HO359.out; subst eo29))
                      repeat (go_quiet (first | (go_at_call 21; (with_reducible refine (isa_Next.calls k2 _ _ t340 (rd x5_2 x6_2) t357 _ ?side1 ?side2 ?side3 A25.out).mono ?_); (case side1 => repeat (first | exact (Kd.R_reads' HO_0.out).2.2 | (with_reducible refine Kd.C_alloc ?_ _) | (with_reducible refine Kd.C_drewN ?_ _) | (with_reducible refine Kd.C_drew ?_))); (case side2 => exact (Kd.R_reads' HO_0.out).2.1); (case side3 => repeat (first | exact (GL.below HRG.out HB.out) | (with_reducible refine GL.alloc ?_ _) | (with_reducible refine GL.drewN ?_ _) | (with_reducible refine GL.drew ?_))); rintro e w28 ⟨v358, rfl, ho0, hb⟩; have n0_ := Aside0.mk (Kd.R_below (by (with_reducible repeat (first | apply Kd.R_alloc | apply Kd.R_drewN | apply Kd.R_drew)); exact HO_0.out) hb); have n1_ := Aside0.mk (Kd.R_below (by (with_reducible repeat (first | apply Kd.R_alloc | apply Kd.R_drewN | apply Kd.R_drew)); exact HO_3.out) hb); have n2_ := Aside0.mk (Kd.R_below (by (with_reducible repeat (first | apply Kd.R_alloc | apply Kd.R_drewN | apply Kd.R_drew)); exact HO_4.out) hb); have n3_ := Aside0.mk (Kd.R_elder' (by (with_reducible repeat (first | apply Kd.R_alloc | apply Kd.R_drewN | apply Kd.R_drew)); exact HO_5.out) (Kd.R_base ho0) hb); have n4_ := Aside0.mk (Kd.R_lower (Kd.R_new' ho0 (Kd.R_lt (by (with_reducible repeat (first | apply Kd.R_alloc | apply Kd.R_drewN | apply Kd.R_drew)); exact HO_5.out))) (below_size (by repeat (first | (with_reducible first | exact HB.out | apply below_alloc | apply pw_below_drewN | apply below_drew1) | exact HB.out)))); have n5_ := Aside0.mk (below_step (by repeat (first | (with_reducible first | exact HB.out | apply below_alloc | apply pw_below_drewN | apply below_drew1) | exact HB.out)) hb); clear HO_0; clear HO_3; clear HO_4; clear HO_5; clear HB; have HO_0 := n0_; have HO_3 := n1_; have HO_4 := n2_; have HO_5 := n3_; have HO359 := n4_; have HB := n5_; clear n0_ n1_ n2_ n3_ n4_ n5_; (try clear hb); (try clear hb2); (try clear hk); (try clear hi); (try clear ho0); obtain ⟨Ao29, co29, eo29⟩ := Kd.R_slice HO359.out; subst eo29)); try go_wp2_with (first | (go_at_call 21; (with_reducible refine (isa_Next.calls k2 _ _ t340 (rd x5_2 x6_2) t357 _ ?side1 ?side2 ?side3 A25.out).mono ?_); (case side1 => repeat (first | exact (Kd.R_reads' HO_0.out).2.2 | (with_reducible refine Kd.C_alloc ?_ _) | (with_reducible refine Kd.C_drewN ?_ _) | (with_reducible refine Kd.C_drew ?_))); (case side2 => exact (Kd.R_reads' HO_0.out).2.1); (case side3 => repeat (first | exact (GL.below HRG.out HB.out) | (with_reducible refine GL.alloc ?_ _) | (with_reducible refine GL.drewN ?_ _) | (with_reducible refine GL.drew ?_))); rintro e w28 ⟨v358, rfl, ho0, hb⟩; have n0_ := Aside0.mk (Kd.R_below (by (with_reducible repeat (first | apply Kd.R_alloc | apply Kd.R_drewN | apply Kd.R_drew)); exact HO_0.out) hb); have n1_ := Aside0.mk (Kd.R_below (by (with_reducible repeat (first | apply Kd.R_alloc | apply Kd.R_drewN | apply Kd.R_drew)); exact HO_3.out) hb); have n2_ := Aside0.mk (Kd.R_below (by (with_reducible repeat (first | apply Kd.R_alloc | apply Kd.R_drewN | apply Kd.R_drew)); exact HO_4.out) hb); have n3_ := Aside0.mk (Kd.R_elder' (by (with_reducible repeat (first | apply Kd.R_alloc | apply Kd.R_drewN | apply Kd.R_drew)); exact HO_5.out) (Kd.R_base ho0) hb); have n4_ := Aside0.mk (Kd.R_lower (Kd.R_new' ho0 (Kd.R_lt (by (with_reducible repeat (first | apply Kd.R_alloc | apply Kd.R_drewN | apply Kd.R_drew)); exact HO_5.out))) (below_size (by repeat (first | (with_reducible first | exact HB.out | apply below_alloc | apply pw_below_drewN | apply below_drew1) | exact HB.out)))); have n5_ := Aside0.mk (below_step (by repeat (first | (with_reducible first | exact HB.out | apply below_alloc | apply pw_below_drewN | apply below_drew1) | exact HB.out)) hb); clear HO_0; clear HO_3; clear HO_4; clear HO_5; clear HB; have HO_0 := n0_; have HO_3 := n1_; have HO_4 := n2_; have HO_5 := n3_; have HO359 := n4_; have HB := n5_; clear n0_ n1_ n2_ n3_ n4_ n5_; (try clear hb); (try clear hb2); (try clear hk); (try clear hi); (try clear ho0); obtain ⟨Ao29, co29, eo29⟩ := Kd.R_slice HO359.out; subst eo29)))
                      go_loopg [5, 8] k2 (fun kq v5 v8 w' => ∃ (x4_3 : List Bool) (x5_3 : List Int) (x8_3 : Int), v8 = .int .i64 x8_3 ∧ Aside0 (attestorlaw26_IsaReach.l1 kq t340 t343 x4_3 x5_3 x6_2 t357 x8_3 = some r) ∧ Aside0 (kq ≤ k2) ∧ Aside0 (Kd.R k37 37 w' w.heap.size (fun _ => True) (.slice Ao8 t340.length co8) t340) ∧ Aside0 (Kd.R Kd.bool 4 w' w.heap.size (fun _ => True) v344 t343) ∧ Aside0 (Kd.R Kd.bool 45 w' w.heap.size (fun _ => True) (.slice (some ⟨go16, 0, none⟩) x4_2.length co16) x4_3) ∧ Aside0 (Kd.R (Kd.int .i64) 3 w' w.heap.size (fun k_ => some k_ ≠ ((.slice Ao29 t357.length co29) : Value).ownBlock) v5 x5_3) ∧ Aside0 (Kd.R (Kd.int .i64) 3 w' w.heap.size (fun k_ => some k_ ≠ (v5 : Value).ownBlock) (.slice Ao29 t357.length co29) t357) ∧ Aside0 (Below w.heap.size w w'))
                      case atStart => exact ⟨(x4_2), (x5_2), (0), (by first | rfl | (simp; done) | (simp [*]; done) | (simp; rfl) | (simp; decide +kernel)), H', ⟨Nat.le_refl _⟩, ⟨by (try simp only [hl4_2]); (with_reducible repeat (first | apply Kd.R_alloc | apply Kd.R_drewN | apply Kd.R_drew)); exact HO_0.out⟩, ⟨by (try simp only [hl4_2]); (with_reducible repeat (first | apply Kd.R_alloc | apply Kd.R_drewN | apply Kd.R_drew)); exact HO_3.out⟩, ⟨by (try simp only [hl4_2]); (with_reducible repeat (first | apply Kd.R_alloc | apply Kd.R_drewN | apply Kd.R_drew)); exact HO_4.out⟩, ⟨by (try simp only [hl4_2]); (with_reducible repeat (first | apply Kd.R_alloc | apply Kd.R_drewN | apply Kd.R_drew)); exact Kd.R_mono HO_5.out (fun _ hk => hk.2)⟩, ⟨by (try simp only [hl4_2]); (with_reducible repeat (first | apply Kd.R_alloc | apply Kd.R_drewN | apply Kd.R_drew)); exact Kd.R_mono HO359.out (fun _ hk => hk.2)⟩, ⟨by repeat (first | (with_reducible first | exact HB.out | apply below_alloc | apply pw_below_drewN | apply below_drew1) | exact HB.out)⟩⟩
                      case round =>
                        clear H'
                        try clear c1
                        try clear p1
                        try clear q1
                        try clear hx1
                        try clear qi1
                        try clear hf1
                        try clear c2
                        try clear p2
                        try clear p3
                        try clear q3
                        try clear hx3
                        try clear qi3
                        try clear c5
                        try clear c5b0
                        try clear c5b1
                        try clear p6
                        try clear c7
                        try clear c11
                        try clear c11b0
                        try clear c11b1
                        try clear c12
                        try clear c12b0
                        try clear c12b1
                        try clear c14
                        try clear c15
                        try clear c15b0
                        try clear c15b1
                        try clear p16
                        try clear q16
                        try clear hx16
                        try clear qi16
                        try clear hf16
                        try clear c23
                        try clear c23b0
                        try clear c24
                        try clear c24b0
                        try clear c26
                        try clear c26b0
                        try clear c26b1
                        try clear c26b2
                        try clear hx16_0
                        try clear hx348_0
                        try clear hx356_0
                        try clear p1
                        try clear p16
                        try clear p2
                        try clear p3
                        try clear p348
                        try clear p356
                        try clear p6
                        try clear q1
                        try clear q16
                        try clear q3
                        try clear q348
                        try clear q356
                        obtain ⟨x4_3, x5_3, x8_3, rfl, HA, HK3, HO_0, HO_3, HO_4, HO_5, HO_7, HB⟩ := hrel
                        have hl4_3 := (Kd.R_reads' HO_4.out).1
                        rw [hl4_3] at HO_4
                        (try simp only [hl4_3])
                        (try simp only [hl4_3] at HO_0)
                        (try simp only [hl4_3] at HO_3)
                        (try simp only [hl4_3] at HO_5)
                        (try simp only [hl4_3] at HO_7)
                        cases gk with
                        | zero => exact absurd HA.out (by simp [attestorlaw26_IsaReach.l1])
                        | succ k3 =>
                          have H := HA.out
                          clear HA
                          simp only [attestorlaw26_IsaReach.l1] at H
                          by_cases c30 : x8_3 < (t357.length : Int)
                          · rw [if_pos c30] at H
                            have c30b0 : decide (x8_3 < (t357.length : Int)) = true := decide_eq_true c30
                            (try simp only [hl4_2] at c30b0)
                            (try simp only [hl4_3] at c30b0)
                            clear c30
                            have HC31 := Aside0.mk H
                            clear H
                            go_upto_region 19 with (fail)
                            repeat (go_quiet (fail); go_upto_region 19 with (fail))
                            go_cut [71] (fun v71 wc => ∃ (kq : Nat) (x71_30 : Bool), v71 = .bool x71_30 ∧ Aside0 (attestorlaw26_IsaReach.j3 kq t340 t343 x4_3 x5_3 x6_2 t357 x8_3 x71_30 = some r) ∧ Aside0 (kq ≤ k3) ∧ Aside0 (Kd.R k37 37 wc w.heap.size (fun _ => True) (.slice Ao8 t340.length co8) t340) ∧ Aside0 (Kd.R Kd.bool 4 wc w.heap.size (fun _ => True) v344 t343) ∧ Aside0 (Kd.R Kd.bool 45 wc w.heap.size (fun _ => True) (.slice (some ⟨go16, 0, none⟩) x4_3.length co16) x4_3) ∧ Aside0 (Kd.R (Kd.int .i64) 3 wc w.heap.size (fun k_ => some k_ ≠ ((.slice Ao29 t357.length co29) : Value).ownBlock) u5 x5_3) ∧ Aside0 (Kd.R (Kd.int .i64) 3 wc w.heap.size (fun k_ => some k_ ≠ (u5 : Value).ownBlock) (.slice Ao29 t357.length co29) t357) ∧ Aside0 (Below w.heap.size w wc))
                            case first =>
                              have H := HC31.out
                              clear HC31
                              by_cases c32 : 0 ≤ x8_3
                              · rw [if_pos c32] at H
                                have c32b0 : decide (0 ≤ x8_3) = true := decide_eq_true c32
                                (try simp only [hl4_2] at c32b0)
                                (try simp only [hl4_3] at c32b0)
                                clear c32
                                (first | rw [c32b0] | (simp only [i64_w, i32_w]; rw [c32b0]) | skip)
                                by_cases c33 : (rd t357 x8_3) < 0
                                · rw [if_pos c33] at H
                                  exact absurd H (by simp)
                                · rw [if_neg c33] at H
                                  have c33b0 : decide ((rd t357 x8_3) < 0) = false := decide_eq_false c33
                                  (try simp only [hl4_2] at c33b0)
                                  (try simp only [hl4_3] at c33b0)
                                  clear c33
                                  have H' := Aside0.mk H
                                  clear H
                                  have p360 : 0 ≤ (x8_3 : Int) := of_decide_eq_true (by first | (with_reducible assumption) | assumption)
                                  have q360 : x8_3 < (t357.length : Int) := of_decide_eq_true (by first | (with_reducible assumption) | assumption)
                                  obtain ⟨ad360, e360, hx360_0⟩ := Kd.at_int (Kd.R_reads' HO_7.out).2.2 x8_3 p360 q360
                                  cases e360
                                  replace p360 := eq_true p360
                                  replace q360 := eq_true q360
                                  have p361 : 0 ≤ (x8_3 : Int) := of_decide_eq_true (by first | (with_reducible assumption) | assumption)
                                  have q361 : x8_3 < (t357.length : Int) := of_decide_eq_true (by first | (with_reducible assumption) | assumption)
                                  obtain ⟨ad361, e361, hx361_0⟩ := Kd.at_int (Kd.R_reads' HO_7.out).2.2 x8_3 p361 q361
                                  obtain rfl : ad360 = ad361 := (by injection e361)
                                  replace p361 := eq_true p361
                                  replace q361 := eq_true q361
                                  go_wp2
                                  repeat (go_quiet (fail); try go_wp2)
                                  go_meet
                                  case rel => exact ⟨_, (decide ((rd t357 x8_3) > (t340.length : Int))), (by first | rfl | (simp; done) | (simp [*]; done) | (simp; rfl) | (simp; decide +kernel)), H', ⟨by have := HJ5.out; have := HK2.out; have := HK3.out; first | omega | exact Nat.le_refl _⟩, ⟨by (try simp only [hl4_2]); (try simp only [hl4_3]); (with_reducible repeat (first | apply Kd.R_alloc | apply Kd.R_drewN | apply Kd.R_drew)); exact HO_0.out⟩, ⟨by (try simp only [hl4_2]); (try simp only [hl4_3]); (with_reducible repeat (first | apply Kd.R_alloc | apply Kd.R_drewN | apply Kd.R_drew)); exact HO_3.out⟩, ⟨by (try simp only [hl4_2]); (try simp only [hl4_3]); (with_reducible repeat (first | apply Kd.R_alloc | apply Kd.R_drewN | apply Kd.R_drew)); exact HO_4.out⟩, ⟨by (try simp only [hl4_2]); (try simp only [hl4_3]); (with_reducible repeat (first | apply Kd.R_alloc | apply Kd.R_drewN | apply Kd.R_drew)); exact HO_5.out⟩, ⟨by (try simp only [hl4_2]); (try simp only [hl4_3]); (with_reducible repeat (first | apply Kd.R_alloc | apply Kd.R_drewN | apply Kd.R_drew)); exact HO_7.out⟩, ⟨by repeat (first | (with_reducible first | exact HB.out | apply below_alloc | apply pw_below_drewN | apply below_drew1) | exact HB.out)⟩⟩
                              · rw [if_neg c32] at H
                                exact absurd H (by simp)
                            case rest =>
                              clear HC31
                              try clear c1
                              try clear p1
                              try clear q1
                              try clear hx1
                              try clear qi1
                              try clear hf1
                              try clear c2
                              try clear p2
                              try clear c3
                              try clear p3
                              try clear q3
                              try clear hx3
                              try clear qi3
                              try clear c5
                              try clear c5b0
                              try clear c5b1
                              try clear p6
                              try clear c7
                              try clear c11
                              try clear c11b0
                              try clear c11b1
                              try clear c12
                              try clear c12b0
                              try clear c12b1
                              try clear c14
                              try clear c15
                              try clear c15b0
                              try clear c15b1
                              try clear p16
                              try clear q16
                              try clear hx16
                              try clear qi16
                              try clear hf16
                              try clear c23
                              try clear c23b0
                              try clear c24
                              try clear c24b0
                              try clear c26
                              try clear c26b0
                              try clear c26b1
                              try clear c26b2
                              try clear c30
                              try clear c30b0
                              try clear c32
                              try clear c32b0
                              try clear c33
                              try clear c33b0
                              try clear hx16_0
                              try clear hx348_0
                              try clear hx356_0
                              try clear hx360_0
                              try clear hx361_0
                              try clear p1
                              try clear p16
                              try clear p2
                              try clear p3
                              try clear p348
                              try clear p356
                              try clear p360
                              try clear p361
                              try clear p6
                              try clear q1
                              try clear q16
                              try clear q3
                              try clear q348
                              try clear q356
                              try clear q360
                              try clear q361
                              obtain ⟨kq, x71_30, rfl, HA, HJ30, HO_0, HO_3, HO_4, HO_5, HO_7, HB⟩ := hcut
                              cases kq with
                              | zero => exact absurd HA.out (by simp [attestorlaw26_IsaReach.j3])
                              | succ kj30 =>
                                have H := HA.out
                                clear HA
                                simp only [attestorlaw26_IsaReach.j3] at H
                                by_cases c34 : x71_30 = true
                                · subst c34
                                  have H1 : (none) = some r := by rw [if_pos rfl] at H; exact H
                                  clear H
                                  have H := H1
                                  clear H1
                                  exact absurd H (by simp)
                                · replace c34 := Bool.eq_false_iff.mpr c34
                                  subst c34
                                  have H1 : (if 0 ≤ x8_3 then (if x8_3 < (t357.length : Int) then (if 0 ≤ (rd t357 x8_3) then (if (rd t357 x8_3) < (x4_3.length : Int) then (if (rdOf false x4_3 (rd t357 x8_3) = true) then (attestorlaw26_IsaReach.l1 kj30 t340 t343 x4_3 x5_3 x6_2 t357 (wrap64 (x8_3 + 1))) else (if x5_3.length < 17592186044416 then (attestorlaw26_IsaReach.l1 kj30 t340 t343 (x4_3.set ((rd t357 x8_3) : Int).toNat true) (x5_3 ++ [rd t357 x8_3]) x6_2 t357 (wrap64 (x8_3 + 1))) else (none))) else (none)) else (none)) else (none)) else (none)) = some r := by rw [if_neg (show ¬ (false = true) by decide)] at H; exact H
                                  clear H
                                  have H := H1
                                  clear H1
                                  by_cases c35 : 0 ≤ x8_3
                                  · rw [if_pos c35] at H
                                    have c35b0 : decide (0 ≤ x8_3) = true := decide_eq_true c35
                                    (try simp only [hl4_2] at c35b0)
                                    (try simp only [hl4_3] at c35b0)
                                    clear c35
                                    by_cases c36 : x8_3 < (t357.length : Int)
                                    · rw [if_pos c36] at H
                                      have c36b0 : decide (x8_3 < (t357.length : Int)) = true := decide_eq_true c36
                                      (try simp only [hl4_2] at c36b0)
                                      (try simp only [hl4_3] at c36b0)
                                      clear c36
                                      by_cases c37 : 0 ≤ (rd t357 x8_3)
                                      · rw [if_pos c37] at H
                                        have c37b0 : decide (0 ≤ (rd t357 x8_3)) = true := decide_eq_true c37
                                        (try simp only [hl4_2] at c37b0)
                                        (try simp only [hl4_3] at c37b0)
                                        clear c37
                                        by_cases c38 : (rd t357 x8_3) < (x4_3.length : Int)
                                        · rw [if_pos c38] at H
                                          have c38b0 : decide ((rd t357 x8_3) < (x4_3.length : Int)) = true := decide_eq_true c38
                                          (try simp only [hl4_2] at c38b0)
                                          (try simp only [hl4_3] at c38b0)
                                          clear c38
                                          have c38L : ((rd t357 x8_3) < 41) = True := eq_true (by have h1_ := of_decide_eq_true c38b0; have h2_ := HLN.out; omega)
                                          obtain ⟨bq39, hbq39⟩ : ∃ b_ : Bool, b_ = (rdOf false x4_3 (rd t357 x8_3)) := ⟨_, rfl⟩
                                          replace H : (if (bq39 = true) then (attestorlaw26_IsaReach.l1 kj30 t340 t343 x4_3 x5_3 x6_2 t357 (wrap64 (x8_3 + 1))) else (if x5_3.length < 17592186044416 then (attestorlaw26_IsaReach.l1 kj30 t340 t343 (x4_3.set ((rd t357 x8_3) : Int).toNat true) (x5_3 ++ [rd t357 x8_3]) x6_2 t357 (wrap64 (x8_3 + 1))) else (none))) = some r := by rw [← hbq39] at H; exact H
                                          have Nbq39 := Aside0.mk hbq39
                                          clear hbq39
                                          by_cases c40 : (bq39 = true)
                                          · subst c40
                                            have H1 : (attestorlaw26_IsaReach.l1 kj30 t340 t343 x4_3 x5_3 x6_2 t357 (wrap64 (x8_3 + 1))) = some r := by rw [if_pos rfl] at H; exact H
                                            clear H
                                            have H := H1
                                            clear H1
                                            have H' := Aside0.mk H
                                            clear H
                                            have p362 : 0 ≤ (x8_3 : Int) := of_decide_eq_true (by first | (with_reducible assumption) | assumption)
                                            have q362 : x8_3 < (t357.length : Int) := of_decide_eq_true (by first | (with_reducible assumption) | assumption)
                                            obtain ⟨ad362, e362, hx362_0⟩ := Kd.at_int (Kd.R_reads' HO_7.out).2.2 x8_3 p362 q362
                                            cases e362
                                            replace p362 := eq_true p362
                                            replace q362 := eq_true q362
                                            have p363 : 0 ≤ ((rd t357 x8_3) : Int) := of_decide_eq_true (by first | (with_reducible assumption) | assumption)
                                            have q363 : (rd t357 x8_3) < (x4_3.length : Int) := of_decide_eq_true (by first | (with_reducible assumption) | assumption)
                                            obtain ⟨ad363, e363, hx363_0⟩ := Kd.at_bool (Kd.R_reads' HO_4.out).2.2 (rd t357 x8_3) p363 q363
                                            (try rw [← Nbq39.out] at hx363_0)
                                            obtain rfl : (⟨go16, 0, none⟩ : Addr) = ad363 := (by injection e363)
                                            (first | simp only [add_plain] at hx363_0 | simp only [add_at] at hx363_0 | simp only [Addr.add, Nat.zero_add] at hx363_0 | skip)
                                            replace p363 := eq_true p363
                                            replace q363 := eq_true q363
                                            go_wp2
                                            repeat (go_quiet (fail); try go_wp2)
                                            (try simp only [← hl4_3])
                                            go_roundg kj30
                                            case measure => have := HJ5.out; have := HK2.out; have := HK3.out; have := HJ30.out; omega
                                            case rel => exact ⟨(x4_3), (x5_3), (wrap64 (x8_3 + 1)), (by first | rfl | (simp; done) | (simp [*]; done) | (simp; rfl) | (simp; decide +kernel)), H', ⟨by have := HJ5.out; have := HK2.out; have := HK3.out; have := HJ30.out; omega⟩, ⟨by (try simp only [hl4_2]); (try simp only [hl4_3]); (with_reducible repeat (first | apply Kd.R_alloc | apply Kd.R_drewN | apply Kd.R_drew)); exact HO_0.out⟩, ⟨by (try simp only [hl4_2]); (try simp only [hl4_3]); (with_reducible repeat (first | apply Kd.R_alloc | apply Kd.R_drewN | apply Kd.R_drew)); exact HO_3.out⟩, ⟨by (try simp only [hl4_2]); (try simp only [hl4_3]); (with_reducible repeat (first | apply Kd.R_alloc | apply Kd.R_drewN | apply Kd.R_drew)); exact HO_4.out⟩, ⟨by (try simp only [hl4_2]); (try simp only [hl4_3]); (with_reducible repeat (first | apply Kd.R_alloc | apply Kd.R_drewN | apply Kd.R_drew)); exact HO_5.out⟩, ⟨by (try simp only [hl4_2]); (try simp only [hl4_3]); (with_reducible repeat (first | apply Kd.R_alloc | apply Kd.R_drewN | apply Kd.R_drew)); exact HO_7.out⟩, ⟨by repeat (first | (with_reducible first | exact HB.out | apply below_alloc | apply pw_below_drewN | apply below_drew1) | exact HB.out)⟩⟩
                                          · replace c40 := Bool.eq_false_iff.mpr c40
                                            subst c40
                                            have H1 : (if x5_3.length < 17592186044416 then (attestorlaw26_IsaReach.l1 kj30 t340 t343 (x4_3.set ((rd t357 x8_3) : Int).toNat true) (x5_3 ++ [rd t357 x8_3]) x6_2 t357 (wrap64 (x8_3 + 1))) else (none)) = some r := by rw [if_neg (show ¬ (false = true) by decide)] at H; exact H
                                            clear H
                                            have H := H1
                                            clear H1
                                            obtain ⟨y365, hy365⟩ : ∃ y_ : List Bool, y_ = (x4_3.set ((rd t357 x8_3) : Int).toNat true) := ⟨_, rfl⟩
                                            replace H : (if x5_3.length < 17592186044416 then (attestorlaw26_IsaReach.l1 kj30 t340 t343 y365 (x5_3 ++ [rd t357 x8_3]) x6_2 t357 (wrap64 (x8_3 + 1))) else (none)) = some r := by first | (rw [hy365]; with_reducible exact H) | (have H2_ := (Option.bind_some _ _).symm.trans H; rw [hy365]; with_reducible exact H2_) | (have H2_ := (Option.bind_some _ _).symm.trans H; with_reducible exact H2_) | with_reducible exact H | (rw [hy365]; exact H) | exact H
                                            have Ny365 := Aside0.mk hy365
                                            clear hy365
                                            by_cases c42 : x5_3.length < 17592186044416
                                            · rw [if_pos c42] at H
                                              have LMc42 := Aside0.mk c42
                                              clear c42
                                              obtain ⟨y367, hy367⟩ : ∃ y_ : List Int, y_ = (x5_3 ++ [rd t357 x8_3]) := ⟨_, rfl⟩
                                              replace H : (attestorlaw26_IsaReach.l1 kj30 t340 t343 y365 y367 x6_2 t357 (wrap64 (x8_3 + 1))) = some r := by first | (rw [hy367]; with_reducible exact H) | (have H2_ := (Option.bind_some _ _).symm.trans H; rw [hy367]; with_reducible exact H2_) | (have H2_ := (Option.bind_some _ _).symm.trans H; with_reducible exact H2_) | with_reducible exact H | (rw [hy367]; exact H) | exact H
                                              have Ny367 := Aside0.mk hy367
                                              clear hy367
                                              have H' := Aside0.mk H
                                              clear H
                                              have p362 : 0 ≤ (x8_3 : Int) := of_decide_eq_true (by first | (with_reducible assumption) | assumption)
                                              have q362 : x8_3 < (t357.length : Int) := of_decide_eq_true (by first | (with_reducible assumption) | assumption)
                                              obtain ⟨ad362, e362, hx362_0⟩ := Kd.at_int (Kd.R_reads' HO_7.out).2.2 x8_3 p362 q362
                                              cases e362
                                              replace p362 := eq_true p362
                                              replace q362 := eq_true q362
                                              have p363 : 0 ≤ ((rd t357 x8_3) : Int) := of_decide_eq_true (by first | (with_reducible assumption) | assumption)
                                              have q363 : (rd t357 x8_3) < (x4_3.length : Int) := of_decide_eq_true (by first | (with_reducible assumption) | assumption)
                                              obtain ⟨ad363, e363, hx363_0⟩ := Kd.at_bool (Kd.R_reads' HO_4.out).2.2 (rd t357 x8_3) p363 q363
                                              (try rw [← Nbq39.out] at hx363_0)
                                              obtain rfl : (⟨go16, 0, none⟩ : Addr) = ad363 := (by injection e363)
                                              (first | simp only [add_plain] at hx363_0 | simp only [add_at] at hx363_0 | simp only [Addr.add, Nat.zero_add] at hx363_0 | skip)
                                              replace p363 := eq_true p363
                                              replace q363 := eq_true q363
                                              have p364 : 0 ≤ (x8_3 : Int) := of_decide_eq_true (by first | (with_reducible assumption) | assumption)
                                              have q364 : x8_3 < (t357.length : Int) := of_decide_eq_true (by first | (with_reducible assumption) | assumption)
                                              obtain ⟨ad364, e364, hx364_0⟩ := Kd.at_int (Kd.R_reads' HO_7.out).2.2 x8_3 p364 q364
                                              obtain rfl : ad362 = ad364 := (by injection e364)
                                              replace p364 := eq_true p364
                                              replace q364 := eq_true q364
                                              have p41 : 0 ≤ ((rd t357 x8_3) : Int) := of_decide_eq_true (by first | (with_reducible assumption) | assumption)
                                              have q41 : ((rd t357 x8_3) : Int) < ((x4_3.length : Int) : Int) := of_decide_eq_true (by first | (with_reducible assumption) | assumption)
                                              obtain ⟨hx41_0, hf41_0⟩ := Kd.R_celln false HO_4.out ((rd t357 x8_3) : Int) p41 q41
                                              replace p41 := eq_true p41
                                              replace q41 := eq_true q41
                                              have HP43 := Kd.R_putg HO_4.out ((rd t357 x8_3) : Int) true
                                              go_wp2_with (first | ((with_reducible refine gate_store (t := 4) (p := 83) rfl ?_); (try (rw [drewN_self wc]; generalize hq_ : World.drewN wc _ = wc; have n0_ := Aside0.mk (Kd.R_at hq_ HO_0.out); have n1_ := Aside0.mk (Kd.R_at hq_ HO_3.out); have n2_ := Aside0.mk (Kd.R_at hq_ HO_4.out); have n3_ := Aside0.mk (Kd.R_at hq_ HO_5.out); have n4_ := Aside0.mk (Kd.R_at hq_ HO_7.out); have n5_ := Aside0.mk (below_at hq_ HB.out); clear hq_ HO_0 HO_3 HO_4 HO_5 HO_7 HB; have HO_0 := n0_; have HO_3 := n1_; have HO_4 := n2_; have HO_5 := n3_; have HO_7 := n4_; have HB := n5_; clear n0_ n1_ n2_ n3_ n4_ n5_; (try (have HP43 := Kd.R_putg HO_4.out ((rd t357 x8_3) : Int) true)))); refine store_event (t := 4) (p := 83) (v := ?vo_w44) (w1 := (wc.setCell ⟨go16, ((rd t357 x8_3) : Int).toNat, none⟩ (.bool true))) ?hg ?ho ?hn ?hr ?_; (case ho => rfl); (case hg => rfl); (case hn => rfl); (case hr => first | (go_simp; done) | (go_simp; rfl)); intro w44 hw; have hg : wc.grownBy w44 (some go16) := (by rw [hw]; exact HP43.2); have hp_ : Kd.R Kd.bool 45 w44 w.heap.size (fun _ => True) (.slice (some ⟨go16, 0, none⟩) x4_3.length co16) y365 := (by rw [hw, Ny365.out]; exact HP43.1); clear HP43; have n0_ := Aside0.mk (Kd.R_over' (v := (.slice (some ⟨go16, 0, none⟩) x4_3.length co16)) (by (with_reducible repeat (first | apply Kd.R_alloc | apply Kd.R_drewN | apply Kd.R_drew)); exact HO_0.out) (Kd.R_typed HO_4.out) (by decide) hg); have n1_ := Aside0.mk (Kd.R_over' (v := (.slice (some ⟨go16, 0, none⟩) x4_3.length co16)) (by (with_reducible repeat (first | apply Kd.R_alloc | apply Kd.R_drewN | apply Kd.R_drew)); exact HO_3.out) (Kd.R_typed HO_4.out) (by decide) hg); have n2_ := Aside0.mk (hp_); have n3_ := Aside0.mk (Kd.R_over' (v := (.slice (some ⟨go16, 0, none⟩) x4_3.length co16)) (by (with_reducible repeat (first | apply Kd.R_alloc | apply Kd.R_drewN | apply Kd.R_drew)); exact HO_5.out) (Kd.R_typed HO_4.out) (by decide) hg); have n4_ := Aside0.mk (Kd.R_over' (v := (.slice (some ⟨go16, 0, none⟩) x4_3.length co16)) (by (with_reducible repeat (first | apply Kd.R_alloc | apply Kd.R_drewN | apply Kd.R_drew)); exact HO_7.out) (Kd.R_typed HO_4.out) (by decide) hg); have n5_ := Aside0.mk ((by rw [hw]; exact below_set (HB.out) GB16.out : Below w.heap.size w w44)); clear HO_0; clear HO_3; clear HO_4; clear HO_5; clear HO_7; clear HB; have HO_0 := n0_; have HO_3 := n1_; have HO_4 := n2_; have HO_5 := n3_; have HO_7 := n4_; have HB := n5_; clear n0_ n1_ n2_ n3_ n4_ n5_; clear hg hw hp_; have p366 : 0 ≤ (x8_3 : Int) := of_decide_eq_true (by first | (with_reducible assumption) | assumption); have q366 : x8_3 < (t357.length : Int) := of_decide_eq_true (by first | (with_reducible assumption) | assumption); obtain ⟨ad366, e366, hx366_0⟩ := Kd.at_int (Kd.R_reads' HO_7.out).2.2 x8_3 p366 q366; obtain rfl : ad362 = ad366 := (by injection e366); replace p366 := eq_true p366; replace q366 := eq_true q366) | ((with_reducible refine gate_builtin (b := .append) (xs := #[.tmp 84, .tmp 89]) rfl ?_); (try (refine gate_guard (by rfl) ?_; dsimp only)); at_builtin; refine Kd.R_append (Kd.int .i64) (w0 := w) w.heap.size rfl (.tmp 84) (.tmp 89) 40 3 (.int .i64 0) 8 rfl Tryd.underlying40 info3 rfl (by decide) (by omega) u5 x5_3 (rd t357 x8_3) [.int .i64 (rd t357 x8_3)] (fun k_ => some k_ ≠ (.slice (some ad362) t357.length co29 : Value).ownBlock) (fun _ => False) rfl rfl ?aP (fun _ hk => hk.elim) ?aF ?aO ?aB ?aS ?aL ?_; (case aP => exact rfl); (case aB => exact (by repeat (first | (with_reducible first | exact HB.out | apply below_alloc | apply pw_below_drewN | apply below_drew1) | exact HB.out))); (case aF => exact (fun k_ hk => Kd.fresh' (Kd.R_lt (by (with_reducible repeat (first | apply Kd.R_alloc | apply Kd.R_drewN | apply Kd.R_drew)); exact HO_7.out)) k_ hk)); (case aO => exact (by (with_reducible repeat (first | apply Kd.R_alloc | apply Kd.R_drewN | apply Kd.R_drew)); exact HO_5.out)); (case aS => exact (below_size (by repeat (first | (with_reducible first | exact HB.out | apply below_alloc | apply pw_below_drewN | apply below_drew1) | exact HB.out)))); (case aL => have := LMc42.out; omega); intro v368 w45 ho hb hg hat; rw [← Ny367.out] at ho; have n0_ := Aside0.mk (Kd.R_over' (by (with_reducible repeat (first | apply Kd.R_alloc | apply Kd.R_drewN | apply Kd.R_drew)); exact HO_0.out) (Kd.R_typed (by (with_reducible repeat (first | apply Kd.R_alloc | apply Kd.R_drewN | apply Kd.R_drew)); exact HO_5.out)) (by decide) hg); have n1_ := Aside0.mk (Kd.R_over' (by (with_reducible repeat (first | apply Kd.R_alloc | apply Kd.R_drewN | apply Kd.R_drew)); exact HO_3.out) (Kd.R_typed (by (with_reducible repeat (first | apply Kd.R_alloc | apply Kd.R_drewN | apply Kd.R_drew)); exact HO_5.out)) (by decide) hg); have n2_ := Aside0.mk (Kd.R_over' (by (with_reducible repeat (first | apply Kd.R_alloc | apply Kd.R_drewN | apply Kd.R_drew)); exact HO_4.out) (Kd.R_typed (by (with_reducible repeat (first | apply Kd.R_alloc | apply Kd.R_drewN | apply Kd.R_drew)); exact HO_5.out)) (by decide) hg); have n3_ := Aside0.mk (Kd.R_after (ok := (fun _ => True)) (by (with_reducible repeat (first | apply Kd.R_alloc | apply Kd.R_drewN | apply Kd.R_drew)); exact Kd.R_mono HO_7.out (fun _ hk => ⟨trivial, hk⟩)) hg hat); have n4_ := Aside0.mk (hb); have n5_ := Aside0.mk (ho); clear HO_0; clear HO_3; clear HO_4; clear HO_7; clear HB; clear HO_5; have HO_0 := n0_; have HO_3 := n1_; have HO_4 := n2_; have HO_7 := n3_; have HB := n4_; have HO369 := n5_; clear n0_ n1_ n2_ n3_ n4_ n5_; clear ho hb hg hat))
                                              repeat (go_quiet (first | ((with_reducible refine gate_store (t := 4) (p := 83) rfl ?_); (try (rw [drewN_self wc]; generalize hq_ : World.drewN wc _ = wc; have n0_ := Aside0.mk (Kd.R_at hq_ HO_0.out); have n1_ := Aside0.mk (Kd.R_at hq_ HO_3.out); have n2_ := Aside0.mk (Kd.R_at hq_ HO_4.out); have n3_ := Aside0.mk (Kd.R_at hq_ HO_5.out); have n4_ := Aside0.mk (Kd.R_at hq_ HO_7.out); have n5_ := Aside0.mk (below_at hq_ HB.out); clear hq_ HO_0 HO_3 HO_4 HO_5 HO_7 HB; have HO_0 := n0_; have HO_3 := n1_; have HO_4 := n2_; have HO_5 := n3_; have HO_7 := n4_; have HB := n5_; clear n0_ n1_ n2_ n3_ n4_ n5_; (try (have HP43 := Kd.R_putg HO_4.out ((rd t357 x8_3) : Int) true)))); refine store_event (t := 4) (p := 83) (v := ?vo_w44) (w1 := (wc.setCell ⟨go16, ((rd t357 x8_3) : Int).toNat, none⟩ (.bool true))) ?hg ?ho ?hn ?hr ?_; (case ho => rfl); (case hg => rfl); (case hn => rfl); (case hr => first | (go_simp; done) | (go_simp; rfl)); intro w44 hw; have hg : wc.grownBy w44 (some go16) := (by rw [hw]; exact HP43.2); have hp_ : Kd.R Kd.bool 45 w44 w.heap.size (fun _ => True) (.slice (some ⟨go16, 0, none⟩) x4_3.length co16) y365 := (by rw [hw, Ny365.out]; exact HP43.1); clear HP43; have n0_ := Aside0.mk (Kd.R_over' (v := (.slice (some ⟨go16, 0, none⟩) x4_3.length co16)) (by (with_reducible repeat (first | apply Kd.R_alloc | apply Kd.R_drewN | apply Kd.R_drew)); exact HO_0.out) (Kd.R_typed HO_4.out) (by decide) hg); have n1_ := Aside0.mk (Kd.R_over' (v := (.slice (some ⟨go16, 0, none⟩) x4_3.length co16)) (by (with_reducible repeat (first | apply Kd.R_alloc | apply Kd.R_drewN | apply Kd.R_drew)); exact HO_3.out) (Kd.R_typed HO_4.out) (by decide) hg); have n2_ := Aside0.mk (hp_); have n3_ := Aside0.mk (Kd.R_over' (v := (.slice (some ⟨go16, 0, none⟩) x4_3.length co16)) (by (with_reducible repeat (first | apply Kd.R_alloc | apply Kd.R_drewN | apply Kd.R_drew)); exact HO_5.out) (Kd.R_typed HO_4.out) (by decide) hg); have n4_ := Aside0.mk (Kd.R_over' (v := (.slice (some ⟨go16, 0, none⟩) x4_3.length co16)) (by (with_reducible repeat (first | apply Kd.R_alloc | apply Kd.R_drewN | apply Kd.R_drew)); exact HO_7.out) (Kd.R_typed HO_4.out) (by decide) hg); have n5_ := Aside0.mk ((by rw [hw]; exact below_set (HB.out) GB16.out : Below w.heap.size w w44)); clear HO_0; clear HO_3; clear HO_4; clear HO_5; clear HO_7; clear HB; have HO_0 := n0_; have HO_3 := n1_; have HO_4 := n2_; have HO_5 := n3_; have HO_7 := n4_; have HB := n5_; clear n0_ n1_ n2_ n3_ n4_ n5_; clear hg hw hp_; have p366 : 0 ≤ (x8_3 : Int) := of_decide_eq_true (by first | (with_reducible assumption) | assumption); have q366 : x8_3 < (t357.length : Int) := of_decide_eq_true (by first | (with_reducible assumption) | assumption); obtain ⟨ad366, e366, hx366_0⟩ := Kd.at_int (Kd.R_reads' HO_7.out).2.2 x8_3 p366 q366; obtain rfl : ad362 = ad366 := (by injection e366); replace p366 := eq_true p366; replace q366 := eq_true q366) | ((with_reducible refine gate_builtin (b := .append) (xs := #[.tmp 84, .tmp 89]) rfl ?_); (try (refine gate_guard (by rfl) ?_; dsimp only)); at_builtin; refine Kd.R_append (Kd.int .i64) (w0 := w) w.heap.size rfl (.tmp 84) (.tmp 89) 40 3 (.int .i64 0) 8 rfl Tryd.underlying40 info3 rfl (by decide) (by omega) u5 x5_3 (rd t357 x8_3) [.int .i64 (rd t357 x8_3)] (fun k_ => some k_ ≠ (.slice (some ad362) t357.length co29 : Value).ownBlock) (fun _ => False) rfl rfl ?aP (fun _ hk => hk.elim) ?aF ?aO ?aB ?aS ?aL ?_; (case aP => exact rfl); (case aB => exact (by repeat (first | (with_reducible first | exact HB.out | apply below_alloc | apply pw_below_drewN | apply below_drew1) | exact HB.out))); (case aF => exact (fun k_ hk => Kd.fresh' (Kd.R_lt (by (with_reducible repeat (first | apply Kd.R_alloc | apply Kd.R_drewN | apply Kd.R_drew)); exact HO_7.out)) k_ hk)); (case aO => exact (by (with_reducible repeat (first | apply Kd.R_alloc | apply Kd.R_drewN | apply Kd.R_drew)); exact HO_5.out)); (case aS => exact (below_size (by repeat (first | (with_reducible first | exact HB.out | apply below_alloc | apply pw_below_drewN | apply below_drew1) | exact HB.out)))); (case aL => have := LMc42.out; omega); intro v368 w45 ho hb hg hat; rw [← Ny367.out] at ho; have n0_ := Aside0.mk (Kd.R_over' (by (with_reducible repeat (first | apply Kd.R_alloc | apply Kd.R_drewN | apply Kd.R_drew)); exact HO_0.out) (Kd.R_typed (by (with_reducible repeat (first | apply Kd.R_alloc | apply Kd.R_drewN | apply Kd.R_drew)); exact HO_5.out)) (by decide) hg); have n1_ := Aside0.mk (Kd.R_over' (by (with_reducible repeat (first | apply Kd.R_alloc | apply Kd.R_drewN | apply Kd.R_drew)); exact HO_3.out) (Kd.R_typed (by (with_reducible repeat (first | apply Kd.R_alloc | apply Kd.R_drewN | apply Kd.R_drew)); exact HO_5.out)) (by decide) hg); have n2_ := Aside0.mk (Kd.R_over' (by (with_reducible repeat (first | apply Kd.R_alloc | apply Kd.R_drewN | apply Kd.R_drew)); exact HO_4.out) (Kd.R_typed (by (with_reducible repeat (first | apply Kd.R_alloc | apply Kd.R_drewN | apply Kd.R_drew)); exact HO_5.out)) (by decide) hg); have n3_ := Aside0.mk (Kd.R_after (ok := (fun _ => True)) (by (with_reducible repeat (first | apply Kd.R_alloc | apply Kd.R_drewN | apply Kd.R_drew)); exact Kd.R_mono HO_7.out (fun _ hk => ⟨trivial, hk⟩)) hg hat); have n4_ := Aside0.mk (hb); have n5_ := Aside0.mk (ho); clear HO_0; clear HO_3; clear HO_4; clear HO_7; clear HB; clear HO_5; have HO_0 := n0_; have HO_3 := n1_; have HO_4 := n2_; have HO_7 := n3_; have HB := n4_; have HO369 := n5_; clear n0_ n1_ n2_ n3_ n4_ n5_; clear ho hb hg hat)); try go_wp2_with (first | ((with_reducible refine gate_store (t := 4) (p := 83) rfl ?_); (try (rw [drewN_self wc]; generalize hq_ : World.drewN wc _ = wc; have n0_ := Aside0.mk (Kd.R_at hq_ HO_0.out); have n1_ := Aside0.mk (Kd.R_at hq_ HO_3.out); have n2_ := Aside0.mk (Kd.R_at hq_ HO_4.out); have n3_ := Aside0.mk (Kd.R_at hq_ HO_5.out); have n4_ := Aside0.mk (Kd.R_at hq_ HO_7.out); have n5_ := Aside0.mk (below_at hq_ HB.out); clear hq_ HO_0 HO_3 HO_4 HO_5 HO_7 HB; have HO_0 := n0_; have HO_3 := n1_; have HO_4 := n2_; have HO_5 := n3_; have HO_7 := n4_; have HB := n5_; clear n0_ n1_ n2_ n3_ n4_ n5_; (try (have HP43 := Kd.R_putg HO_4.out ((rd t357 x8_3) : Int) true)))); refine store_event (t := 4) (p := 83) (v := ?vo_w44) (w1 := (wc.setCell ⟨go16, ((rd t357 x8_3) : Int).toNat, none⟩ (.bool true))) ?hg ?ho ?hn ?hr ?_; (case ho => rfl); (case hg => rfl); (case hn => rfl); (case hr => first | (go_simp; done) | (go_simp; rfl)); intro w44 hw; have hg : wc.grownBy w44 (some go16) := (by rw [hw]; exact HP43.2); have hp_ : Kd.R Kd.bool 45 w44 w.heap.size (fun _ => True) (.slice (some ⟨go16, 0, none⟩) x4_3.length co16) y365 := (by rw [hw, Ny365.out]; exact HP43.1); clear HP43; have n0_ := Aside0.mk (Kd.R_over' (v := (.slice (some ⟨go16, 0, none⟩) x4_3.length co16)) (by (with_reducible repeat (first | apply Kd.R_alloc | apply Kd.R_drewN | apply Kd.R_drew)); exact HO_0.out) (Kd.R_typed HO_4.out) (by decide) hg); have n1_ := Aside0.mk (Kd.R_over' (v := (.slice (some ⟨go16, 0, none⟩) x4_3.length co16)) (by (with_reducible repeat (first | apply Kd.R_alloc | apply Kd.R_drewN | apply Kd.R_drew)); exact HO_3.out) (Kd.R_typed HO_4.out) (by decide) hg); have n2_ := Aside0.mk (hp_); have n3_ := Aside0.mk (Kd.R_over' (v := (.slice (some ⟨go16, 0, none⟩) x4_3.length co16)) (by (with_reducible repeat (first | apply Kd.R_alloc | apply Kd.R_drewN | apply Kd.R_drew)); exact HO_5.out) (Kd.R_typed HO_4.out) (by decide) hg); have n4_ := Aside0.mk (Kd.R_over' (v := (.slice (some ⟨go16, 0, none⟩) x4_3.length co16)) (by (with_reducible repeat (first | apply Kd.R_alloc | apply Kd.R_drewN | apply Kd.R_drew)); exact HO_7.out) (Kd.R_typed HO_4.out) (by decide) hg); have n5_ := Aside0.mk ((by rw [hw]; exact below_set (HB.out) GB16.out : Below w.heap.size w w44)); clear HO_0; clear HO_3; clear HO_4; clear HO_5; clear HO_7; clear HB; have HO_0 := n0_; have HO_3 := n1_; have HO_4 := n2_; have HO_5 := n3_; have HO_7 := n4_; have HB := n5_; clear n0_ n1_ n2_ n3_ n4_ n5_; clear hg hw hp_; have p366 : 0 ≤ (x8_3 : Int) := of_decide_eq_true (by first | (with_reducible assumption) | assumption); have q366 : x8_3 < (t357.length : Int) := of_decide_eq_true (by first | (with_reducible assumption) | assumption); obtain ⟨ad366, e366, hx366_0⟩ := Kd.at_int (Kd.R_reads' HO_7.out).2.2 x8_3 p366 q366; obtain rfl : ad362 = ad366 := (by injection e366); replace p366 := eq_true p366; replace q366 := eq_true q366) | ((with_reducible refine gate_builtin (b := .append) (xs := #[.tmp 84, .tmp 89]) rfl ?_); (try (refine gate_guard (by rfl) ?_; dsimp only)); at_builtin; refine Kd.R_append (Kd.int .i64) (w0 := w) w.heap.size rfl (.tmp 84) (.tmp 89) 40 3 (.int .i64 0) 8 rfl Tryd.underlying40 info3 rfl (by decide) (by omega) u5 x5_3 (rd t357 x8_3) [.int .i64 (rd t357 x8_3)] (fun k_ => some k_ ≠ (.slice (some ad362) t357.length co29 : Value).ownBlock) (fun _ => False) rfl rfl ?aP (fun _ hk => hk.elim) ?aF ?aO ?aB ?aS ?aL ?_; (case aP => exact rfl); (case aB => exact (by repeat (first | (with_reducible first | exact HB.out | apply below_alloc | apply pw_below_drewN | apply below_drew1) | exact HB.out))); (case aF => exact (fun k_ hk => Kd.fresh' (Kd.R_lt (by (with_reducible repeat (first | apply Kd.R_alloc | apply Kd.R_drewN | apply Kd.R_drew)); exact HO_7.out)) k_ hk)); (case aO => exact (by (with_reducible repeat (first | apply Kd.R_alloc | apply Kd.R_drewN | apply Kd.R_drew)); exact HO_5.out)); (case aS => exact (below_size (by repeat (first | (with_reducible first | exact HB.out | apply below_alloc | apply pw_below_drewN | apply below_drew1) | exact HB.out)))); (case aL => have := LMc42.out; omega); intro v368 w45 ho hb hg hat; rw [← Ny367.out] at ho; have n0_ := Aside0.mk (Kd.R_over' (by (with_reducible repeat (first | apply Kd.R_alloc | apply Kd.R_drewN | apply Kd.R_drew)); exact HO_0.out) (Kd.R_typed (by (with_reducible repeat (first | apply Kd.R_alloc | apply Kd.R_drewN | apply Kd.R_drew)); exact HO_5.out)) (by decide) hg); have n1_ := Aside0.mk (Kd.R_over' (by (with_reducible repeat (first | apply Kd.R_alloc | apply Kd.R_drewN | apply Kd.R_drew)); exact HO_3.out) (Kd.R_typed (by (with_reducible repeat (first | apply Kd.R_alloc | apply Kd.R_drewN | apply Kd.R_drew)); exact HO_5.out)) (by decide) hg); have n2_ := Aside0.mk (Kd.R_over' (by (with_reducible repeat (first | apply Kd.R_alloc | apply Kd.R_drewN | apply Kd.R_drew)); exact HO_4.out) (Kd.R_typed (by (with_reducible repeat (first | apply Kd.R_alloc | apply Kd.R_drewN | apply Kd.R_drew)); exact HO_5.out)) (by decide) hg); have n3_ := Aside0.mk (Kd.R_after (ok := (fun _ => True)) (by (with_reducible repeat (first | apply Kd.R_alloc | apply Kd.R_drewN | apply Kd.R_drew)); exact Kd.R_mono HO_7.out (fun _ hk => ⟨trivial, hk⟩)) hg hat); have n4_ := Aside0.mk (hb); have n5_ := Aside0.mk (ho); clear HO_0; clear HO_3; clear HO_4; clear HO_7; clear HB; clear HO_5; have HO_0 := n0_; have HO_3 := n1_; have HO_4 := n2_; have HO_7 := n3_; have HB := n4_; have HO369 := n5_; clear n0_ n1_ n2_ n3_ n4_ n5_; clear ho hb hg hat)))
                                              (try simp only [← hl4_3])
                                              go_roundg kj30
                                              case measure => have := HJ5.out; have := HK2.out; have := HK3.out; have := HJ30.out; omega
                                              case rel => exact ⟨(y365), (y367), (wrap64 (x8_3 + 1)), (by first | rfl | (simp; done) | (simp [*]; done) | (simp; rfl) | (simp; decide +kernel)), H', ⟨by have := HJ5.out; have := HK2.out; have := HK3.out; have := HJ30.out; omega⟩, ⟨by (try simp only [hl4_2]); (try simp only [hl4_3]); (with_reducible repeat (first | apply Kd.R_alloc | apply Kd.R_drewN | apply Kd.R_drew)); exact HO_0.out⟩, ⟨by (try simp only [hl4_2]); (try simp only [hl4_3]); (with_reducible repeat (first | apply Kd.R_alloc | apply Kd.R_drewN | apply Kd.R_drew)); exact HO_3.out⟩, ⟨by (try simp only [hl4_2]); (try simp only [hl4_3]); (with_reducible repeat (first | apply Kd.R_alloc | apply Kd.R_drewN | apply Kd.R_drew)); exact HO_4.out⟩, ⟨by (try simp only [hl4_2]); (try simp only [hl4_3]); (with_reducible repeat (first | apply Kd.R_alloc | apply Kd.R_drewN | apply Kd.R_drew)); exact HO369.out⟩, ⟨by (try simp only [hl4_2]); (try simp only [hl4_3]); (with_reducible repeat (first | apply Kd.R_alloc | apply Kd.R_drewN | apply Kd.R_drew)); exact Kd.R_mono HO_7.out (fun _ hk => hk.2)⟩, ⟨by repeat (first | (with_reducible first | exact HB.out | apply below_alloc | apply pw_below_drewN | apply below_drew1) | exact HB.out)⟩⟩
                                            · rw [if_neg c42] at H
                                              exact absurd H (by simp)
                                        · rw [if_neg c38] at H
                                          exact absurd H (by simp)
                                      · rw [if_neg c37] at H
                                        exact absurd H (by simp)
                                    · rw [if_neg c36] at H
                                      exact absurd H (by simp)
                                  · rw [if_neg c35] at H
                                    exact absurd H (by simp)
                          · rw [if_neg c30] at H
                            have c30b0 : decide (x8_3 < (t357.length : Int)) = false := decide_eq_false c30
                            (try simp only [hl4_2] at c30b0)
                            (try simp only [hl4_3] at c30b0)
                            clear c30
                            have H' := Aside0.mk H
                            clear H
                            go_wp2
                            repeat (go_quiet (fail); try go_wp2)
                            (try simp only [← hl4_2, ← hl4_3])
                            go_roundg k3
                            case measure => have := HJ5.out; have := HK2.out; have := HK3.out; omega
                            case rel => exact ⟨(x4_3), (x5_3), (wrap64 (x6_2 + 1)), (by first | rfl | (simp; done) | (simp [*]; done) | (simp; rfl) | (simp; decide +kernel)), H', ⟨by have := HJ5.out; have := HK2.out; have := HK3.out; omega⟩, ⟨by (try simp only [hl4_2]); (try simp only [hl4_3]); (with_reducible repeat (first | apply Kd.R_alloc | apply Kd.R_drewN | apply Kd.R_drew)); exact HO_0.out⟩, ⟨by (try simp only [hl4_2]); (try simp only [hl4_3]); (with_reducible repeat (first | apply Kd.R_alloc | apply Kd.R_drewN | apply Kd.R_drew)); exact HO_3.out⟩, ⟨by (try simp only [hl4_2]); (try simp only [hl4_3]); (with_reducible repeat (first | apply Kd.R_alloc | apply Kd.R_drewN | apply Kd.R_drew)); exact HO_4.out⟩, ⟨by (try simp only [hl4_2]); (try simp only [hl4_3]); (with_reducible repeat (first | apply Kd.R_alloc | apply Kd.R_drewN | apply Kd.R_drew)); exact Kd.R_mono HO_5.out (fun _ hk => trivial)⟩, ⟨by repeat (first | (with_reducible first | exact HB.out | apply below_alloc | apply pw_below_drewN | apply below_drew1) | exact HB.out)⟩⟩
                  · rw [if_neg c24] at H
                    exact absurd H (by simp)
                · rw [if_neg c23] at H
                  have c23b0 : decide (x6_2 < (x5_2.length : Int)) = false := decide_eq_false c23
                  (try simp only [hl4_2] at c23b0)
                  clear c23
                  have H' := Aside0.mk H
                  clear H
                  obtain ⟨Ao46, co46, eo46⟩ := Kd.R_slice HO_5.out
                  subst eo46
                  go_wp2
                  repeat (go_quiet (fail); try go_wp2)
                  go_loopg [9] k2 (fun kq v9 w' => ∃ (x9_3 : Int), v9 = .int .i64 x9_3 ∧ Aside0 (attestorlaw26_IsaReach.l2 kq t343 x4_2 x9_3 = some r) ∧ Aside0 (kq ≤ k2) ∧ Aside0 (Kd.R Kd.bool 4 w' w.heap.size (fun _ => True) v344 t343) ∧ Aside0 (Kd.R Kd.bool 45 w' w.heap.size (fun _ => True) (.slice (some ⟨go16, 0, none⟩) x4_2.length co16) x4_2) ∧ Aside0 (Below w.heap.size w w'))
                  case atStart => exact ⟨(0), (by first | rfl | (simp; done) | (simp [*]; done) | (simp; rfl) | (simp; decide +kernel)), H', ⟨Nat.le_refl _⟩, ⟨by (try simp only [hl4_2]); (with_reducible repeat (first | apply Kd.R_alloc | apply Kd.R_drewN | apply Kd.R_drew)); exact HO_3.out⟩, ⟨by (try simp only [hl4_2]); (with_reducible repeat (first | apply Kd.R_alloc | apply Kd.R_drewN | apply Kd.R_drew)); exact HO_4.out⟩, ⟨by repeat (first | (with_reducible first | exact HB.out | apply below_alloc | apply pw_below_drewN | apply below_drew1) | exact HB.out)⟩⟩
                  case round =>
                    clear H'
                    try clear c1
                    try clear p1
                    try clear q1
                    try clear hx1
                    try clear qi1
                    try clear hf1
                    try clear c2
                    try clear p2
                    try clear c3
                    try clear p3
                    try clear q3
                    try clear hx3
                    try clear qi3
                    try clear c4
                    try clear p4
                    try clear q4
                    try clear hx4
                    try clear hf4
                    try clear c5
                    try clear c5b0
                    try clear c5b1
                    try clear p6
                    try clear c7
                    try clear c11
                    try clear c11b0
                    try clear c11b1
                    try clear c12
                    try clear c12b0
                    try clear c12b1
                    try clear c14
                    try clear c15
                    try clear c15b0
                    try clear c15b1
                    try clear p16
                    try clear q16
                    try clear hx16
                    try clear qi16
                    try clear hf16
                    try clear c23
                    try clear c23b0
                    try clear c24
                    try clear c24b0
                    try clear c26
                    try clear c26b0
                    try clear c26b1
                    try clear c26b2
                    try clear c30
                    try clear c30b0
                    try clear c32
                    try clear c32b0
                    try clear c33
                    try clear c33b0
                    try clear c34
                    try clear p34
                    try clear q34
                    try clear hx34
                    try clear qi34
                    try clear c35
                    try clear c35b0
                    try clear p35
                    try clear q35
                    try clear hx35
                    try clear c36
                    try clear c36b0
                    try clear p36
                    try clear q36
                    try clear hx36
                    try clear c37
                    try clear c37b0
                    try clear c38
                    try clear c38b0
                    try clear q39
                    try clear c40
                    try clear p41
                    try clear q41
                    try clear hx41
                    try clear hf41
                    try clear c42
                    try clear hx16_0
                    try clear hx348_0
                    try clear hx356_0
                    try clear hx360_0
                    try clear hx361_0
                    try clear hx362_0
                    try clear hx363_0
                    try clear hx364_0
                    try clear hx366_0
                    try clear hx41_0
                    try clear p1
                    try clear p16
                    try clear p2
                    try clear p3
                    try clear p348
                    try clear p356
                    try clear p360
                    try clear p361
                    try clear p362
                    try clear p363
                    try clear p364
                    try clear p366
                    try clear p41
                    try clear p6
                    try clear q1
                    try clear q16
                    try clear q3
                    try clear q348
                    try clear q356
                    try clear q360
                    try clear q361
                    try clear q362
                    try clear q363
                    try clear q364
                    try clear q366
                    try clear q41
                    obtain ⟨x9_3, rfl, HA, HK3, HO_3, HO_4, HB⟩ := hrel
                    cases gk with
                    | zero => exact absurd HA.out (by simp [attestorlaw26_IsaReach.l2])
                    | succ k3 =>
                      have H := HA.out
                      clear HA
                      simp only [attestorlaw26_IsaReach.l2] at H
                      by_cases c47 : x9_3 < (t343.length : Int)
                      · rw [if_pos c47] at H
                        have c47b0 : decide (x9_3 < (t343.length : Int)) = true := decide_eq_true c47
                        (try simp only [hl4_2] at c47b0)
                        clear c47
                        by_cases c48 : 0 ≤ x9_3
                        · rw [if_pos c48] at H
                          have c48b0 : decide (0 ≤ x9_3) = true := decide_eq_true c48
                          (try simp only [hl4_2] at c48b0)
                          clear c48
                          by_cases c49 : x9_3 < (x4_2.length : Int)
                          · rw [if_pos c49] at H
                            have c49b0 : decide (x9_3 < (x4_2.length : Int)) = true := decide_eq_true c49
                            (try simp only [hl4_2] at c49b0)
                            clear c49
                            by_cases c50 : ((rdOf false t343 x9_3) != (rdOf false x4_2 x9_3)) = true
                            · rw [if_pos c50] at H
                              exact absurd H (by simp)
                            · rw [if_neg c50] at H
                              have c50b0 : ((rdOf false t343 x9_3) != (rdOf false x4_2 x9_3)) = false := by simpa using c50
                              (try simp only [hl4_2] at c50b0)
                              (try (have c50b1 : decide ((rdOf false t343 x9_3) = (rdOf false x4_2 x9_3)) = true := by simpa using c50))
                              (try simp only [hl4_2] at c50b1)
                              (try (have c50b2 : ((rdOf false t343 x9_3) == (rdOf false x4_2 x9_3)) = true := by simpa using c50))
                              (try simp only [hl4_2] at c50b2)
                              clear c50
                              have H' := Aside0.mk H
                              clear H
                              obtain ⟨Ao51, co51, eo51⟩ := Kd.R_slice HO_3.out
                              subst eo51
                              have p370 : 0 ≤ (x9_3 : Int) := of_decide_eq_true (by first | (with_reducible assumption) | assumption)
                              have q370 : x9_3 < (t343.length : Int) := of_decide_eq_true (by first | (with_reducible assumption) | assumption)
                              obtain ⟨ad370, e370, hx370_0⟩ := Kd.at_bool (Kd.R_reads' HO_3.out).2.2 x9_3 p370 q370
                              cases e370
                              replace p370 := eq_true p370
                              replace q370 := eq_true q370
                              have p371 : 0 ≤ (x9_3 : Int) := of_decide_eq_true (by first | (with_reducible assumption) | assumption)
                              have q371 : x9_3 < (x4_2.length : Int) := of_decide_eq_true (by first | (with_reducible assumption) | assumption)
                              have q371L : (x9_3 < 41) = True := eq_true (by have h1_ := q371; have h2_ := HLN.out; omega)
                              obtain ⟨ad371, e371, hx371_0⟩ := Kd.at_bool (Kd.R_reads' HO_4.out).2.2 x9_3 p371 q371
                              obtain rfl : (⟨go16, 0, none⟩ : Addr) = ad371 := (by injection e371)
                              (first | simp only [add_plain] at hx371_0 | simp only [add_at] at hx371_0 | simp only [Addr.add, Nat.zero_add] at hx371_0 | skip)
                              replace p371 := eq_true p371
                              replace q371 := eq_true q371
                              go_wp2
                              repeat (go_quiet (fail); try go_wp2)
                              go_roundg k3
                              case measure => have := HJ5.out; have := HK2.out; have := HK3.out; omega
                              case rel => exact ⟨(wrap64 (x9_3 + 1)), (by first | rfl | (simp; done) | (simp [*]; done) | (simp; rfl) | (simp; decide +kernel)), H', ⟨by have := HJ5.out; have := HK2.out; have := HK3.out; omega⟩, ⟨by (try simp only [hl4_2]); (with_reducible repeat (first | apply Kd.R_alloc | apply Kd.R_drewN | apply Kd.R_drew)); exact HO_3.out⟩, ⟨by (try simp only [hl4_2]); (with_reducible repeat (first | apply Kd.R_alloc | apply Kd.R_drewN | apply Kd.R_drew)); exact HO_4.out⟩, ⟨by repeat (first | (with_reducible first | exact HB.out | apply below_alloc | apply pw_below_drewN | apply below_drew1) | exact HB.out)⟩⟩
                          · rw [if_neg c49] at H
                            exact absurd H (by simp)
                        · rw [if_neg c48] at H
                          exact absurd H (by simp)
                      · rw [if_neg c47] at H
                        have c47b0 : decide (x9_3 < (t343.length : Int)) = false := decide_eq_false c47
                        (try simp only [hl4_2] at c47b0)
                        clear c47
                        replace H := Option.bind_eq_some_iff.mp H
                        obtain ⟨t372, A520, H⟩ := H
                        replace H : (some t372) = some r := H
                        have A52 := Aside0.mk A520
                        clear A520
                        obtain rfl := Option.some.inj H
                        obtain ⟨Ao53, co53, eo53⟩ := Kd.R_slice HO_3.out
                        subst eo53
                        go_wp2_with (first | (go_at_call 13; (with_reducible refine (attestorlaw26_lives.calls k3  t372 _ ?side1 A52.out).mono ?_); (case side1 => repeat (first | exact (GL.below HRG.out HB.out) | (with_reducible refine GL.alloc ?_ _) | (with_reducible refine GL.drewN ?_ _) | (with_reducible refine GL.drew ?_))); rintro e w54 ⟨rfl, hb⟩; have n0_ := Aside0.mk (Kd.R_below (by (with_reducible repeat (first | apply Kd.R_alloc | apply Kd.R_drewN | apply Kd.R_drew)); exact HO_3.out) hb); have n1_ := Aside0.mk (Kd.R_below (by (with_reducible repeat (first | apply Kd.R_alloc | apply Kd.R_drewN | apply Kd.R_drew)); exact HO_4.out) hb); have n2_ := Aside0.mk (below_step (by repeat (first | (with_reducible first | exact HB.out | apply below_alloc | apply pw_below_drewN | apply below_drew1) | exact HB.out)) hb); clear HO_3; clear HO_4; clear HB; have HO_3 := n0_; have HO_4 := n1_; have HB := n2_; clear n0_ n1_ n2_; (try clear hb); (try clear hb2); (try clear hk); (try clear hi)))
                        repeat (go_quiet (first | (go_at_call 13; (with_reducible refine (attestorlaw26_lives.calls k3  t372 _ ?side1 A52.out).mono ?_); (case side1 => repeat (first | exact (GL.below HRG.out HB.out) | (with_reducible refine GL.alloc ?_ _) | (with_reducible refine GL.drewN ?_ _) | (with_reducible refine GL.drew ?_))); rintro e w54 ⟨rfl, hb⟩; have n0_ := Aside0.mk (Kd.R_below (by (with_reducible repeat (first | apply Kd.R_alloc | apply Kd.R_drewN | apply Kd.R_drew)); exact HO_3.out) hb); have n1_ := Aside0.mk (Kd.R_below (by (with_reducible repeat (first | apply Kd.R_alloc | apply Kd.R_drewN | apply Kd.R_drew)); exact HO_4.out) hb); have n2_ := Aside0.mk (below_step (by repeat (first | (with_reducible first | exact HB.out | apply below_alloc | apply pw_below_drewN | apply below_drew1) | exact HB.out)) hb); clear HO_3; clear HO_4; clear HB; have HO_3 := n0_; have HO_4 := n1_; have HB := n2_; clear n0_ n1_ n2_; (try clear hb); (try clear hb2); (try clear hk); (try clear hi))); try go_wp2_with (first | (go_at_call 13; (with_reducible refine (attestorlaw26_lives.calls k3  t372 _ ?side1 A52.out).mono ?_); (case side1 => repeat (first | exact (GL.below HRG.out HB.out) | (with_reducible refine GL.alloc ?_ _) | (with_reducible refine GL.drewN ?_ _) | (with_reducible refine GL.drew ?_))); rintro e w54 ⟨rfl, hb⟩; have n0_ := Aside0.mk (Kd.R_below (by (with_reducible repeat (first | apply Kd.R_alloc | apply Kd.R_drewN | apply Kd.R_drew)); exact HO_3.out) hb); have n1_ := Aside0.mk (Kd.R_below (by (with_reducible repeat (first | apply Kd.R_alloc | apply Kd.R_drewN | apply Kd.R_drew)); exact HO_4.out) hb); have n2_ := Aside0.mk (below_step (by repeat (first | (with_reducible first | exact HB.out | apply below_alloc | apply pw_below_drewN | apply below_drew1) | exact HB.out)) hb); clear HO_3; clear HO_4; clear HB; have HO_3 := n0_; have HO_4 := n1_; have HB := n2_; clear n0_ n1_ n2_; (try clear hb); (try clear hb2); (try clear hk); (try clear hi))))
                        go_ret
                        exact ⟨by first | rfl | (simp [errW_none, errW_some] <;> rfl) | (simp [*, errW_none, errW_some] <;> rfl), by repeat (first | (with_reducible first | exact HB.out | apply below_alloc | apply pw_below_drewN | apply below_drew1) | exact HB.out)⟩
          · rw [if_neg c15] at H
            exact absurd H (by simp)
  · rw [if_neg c5] at H
    have c5b0 : (t346 == 0) = false := beq_eq_false_iff_ne.mpr c5
    have c5b1 : (t346 != 0) = true := bne_iff_ne.mpr c5
    by_cases c55 : (t343.length : Int) = 0
    · rw [if_pos c55] at H
      have c55b0 : ((t343.length : Int) == 0) = true := beq_iff_eq.mpr c55
      have c55b1 : ((t343.length : Int) != 0) = false := bne_eq_false_iff_eq.mpr c55
      clear c55
      replace H := Option.bind_eq_some_iff.mp H
      obtain ⟨t347, A560, H⟩ := H
      replace H : (some t347) = some r := H
      have A56 := Aside0.mk A560
      clear A560
      obtain rfl := Option.some.inj H
      go_enter Tryd.func7, Tryd.ntmps7
      go_wp2_with (first | (go_at_call 14; (with_reducible refine (attestorlaw26_cut.calls _ _ l0 t340 _ ?side1 ?side2 A2.out).mono ?_); (case side1 => repeat (first | exact HR0.out | (with_reducible refine Kd.C_alloc ?_ _) | (with_reducible refine Kd.C_drewN ?_ _) | (with_reducible refine Kd.C_drew ?_))); (case side2 => exact HC0.out); rintro e w57 ⟨v341, rfl, ho0, hb⟩; have n0_ := Aside0.mk (Kd.R_lower ho0 (below_size (by repeat (first | (with_reducible first | exact HB.out | apply below_alloc | apply pw_below_drewN | apply below_drew1) | exact HB.out)))); have n1_ := Aside0.mk (below_step (by repeat (first | (with_reducible first | exact HB.out | apply below_alloc | apply pw_below_drewN | apply below_drew1) | exact HB.out)) hb); clear HB; have HO342 := n0_; have HB := n1_; clear n0_ n1_; (try clear hb); (try clear hb2); (try clear hk); (try clear hi); (try clear ho0); obtain ⟨Ao58, co58, eo58⟩ := Kd.R_slice HO342.out; subst eo58) | (go_at_call 23; (with_reducible refine (isa_Reach.calls k _ _ t340 t343 _ ?side1 ?side2 ?side3 A3.out).mono ?_); (case side1 => repeat (first | exact (Kd.R_reads' HO342.out).2.2 | (with_reducible refine Kd.C_alloc ?_ _) | (with_reducible refine Kd.C_drewN ?_ _) | (with_reducible refine Kd.C_drew ?_))); (case side2 => exact (Kd.R_reads' HO342.out).2.1); (case side3 => repeat (first | exact (GL.below HRG.out HB.out) | (with_reducible refine GL.alloc ?_ _) | (with_reducible refine GL.drewN ?_ _) | (with_reducible refine GL.drew ?_))); rintro e w59 ⟨v344, rfl, ho0, hb⟩; have n0_ := Aside0.mk (Kd.R_below (by (with_reducible repeat (first | apply Kd.R_alloc | apply Kd.R_drewN | apply Kd.R_drew)); exact HO342.out) hb); have n1_ := Aside0.mk (Kd.R_lower ho0 (below_size (by repeat (first | (with_reducible first | exact HB.out | apply below_alloc | apply pw_below_drewN | apply below_drew1) | exact HB.out)))); have n2_ := Aside0.mk (below_step (by repeat (first | (with_reducible first | exact HB.out | apply below_alloc | apply pw_below_drewN | apply below_drew1) | exact HB.out)) hb); clear HO342; clear HB; have HO342 := n0_; have HO345 := n1_; have HB := n2_; clear n0_ n1_ n2_; (try clear hb); (try clear hb2); (try clear hk); (try clear hi); (try clear ho0)) | (go_at_call 16; (with_reducible refine (isa_Valid.calls k _ _ t340 t346 _ ?side1 ?side2 ?side3 A4.out).mono ?_); (case side1 => repeat (first | exact (Kd.R_reads' HO342.out).2.2 | (with_reducible refine Kd.C_alloc ?_ _) | (with_reducible refine Kd.C_drewN ?_ _) | (with_reducible refine Kd.C_drew ?_))); (case side2 => exact (Kd.R_reads' HO342.out).2.1); (case side3 => repeat (first | exact (GL.below HRG.out HB.out) | (with_reducible refine GL.alloc ?_ _) | (with_reducible refine GL.drewN ?_ _) | (with_reducible refine GL.drew ?_))); rintro e w60 ⟨rfl, hb⟩; have n0_ := Aside0.mk (Kd.R_below (by (with_reducible repeat (first | apply Kd.R_alloc | apply Kd.R_drewN | apply Kd.R_drew)); exact HO342.out) hb); have n1_ := Aside0.mk (Kd.R_below (by (with_reducible repeat (first | apply Kd.R_alloc | apply Kd.R_drewN | apply Kd.R_drew)); exact HO345.out) hb); have n2_ := Aside0.mk (below_step (by repeat (first | (with_reducible first | exact HB.out | apply below_alloc | apply pw_below_drewN | apply below_drew1) | exact HB.out)) hb); clear HO342; clear HO345; clear HB; have HO342 := n0_; have HO345 := n1_; have HB := n2_; clear n0_ n1_ n2_; (try clear hb); (try clear hb2); (try clear hk); (try clear hi); obtain ⟨Ao61, co61, eo61⟩ := Kd.R_slice HO345.out; subst eo61) | (go_at_call 13; (with_reducible refine (attestorlaw26_lives.calls k  t347 _ ?side1 A56.out).mono ?_); (case side1 => repeat (first | exact (GL.below HRG.out HB.out) | (with_reducible refine GL.alloc ?_ _) | (with_reducible refine GL.drewN ?_ _) | (with_reducible refine GL.drew ?_))); rintro e w62 ⟨rfl, hb⟩; have n0_ := Aside0.mk (Kd.R_below (by (with_reducible repeat (first | apply Kd.R_alloc | apply Kd.R_drewN | apply Kd.R_drew)); exact HO342.out) hb); have n1_ := Aside0.mk (Kd.R_below (by (with_reducible repeat (first | apply Kd.R_alloc | apply Kd.R_drewN | apply Kd.R_drew)); exact HO345.out) hb); have n2_ := Aside0.mk (below_step (by repeat (first | (with_reducible first | exact HB.out | apply below_alloc | apply pw_below_drewN | apply below_drew1) | exact HB.out)) hb); clear HO342; clear HO345; clear HB; have HO342 := n0_; have HO345 := n1_; have HB := n2_; clear n0_ n1_ n2_; (try clear hb); (try clear hb2); (try clear hk); (try clear hi)))
      repeat (go_quiet (first | (go_at_call 14; (with_reducible refine (attestorlaw26_cut.calls _ _ l0 t340 _ ?side1 ?side2 A2.out).mono ?_); (case side1 => repeat (first | exact HR0.out | (with_reducible refine Kd.C_alloc ?_ _) | (with_reducible refine Kd.C_drewN ?_ _) | (with_reducible refine Kd.C_drew ?_))); (case side2 => exact HC0.out); rintro e w57 ⟨v341, rfl, ho0, hb⟩; have n0_ := Aside0.mk (Kd.R_lower ho0 (below_size (by repeat (first | (with_reducible first | exact HB.out | apply below_alloc | apply pw_below_drewN | apply below_drew1) | exact HB.out)))); have n1_ := Aside0.mk (below_step (by repeat (first | (with_reducible first | exact HB.out | apply below_alloc | apply pw_below_drewN | apply below_drew1) | exact HB.out)) hb); clear HB; have HO342 := n0_; have HB := n1_; clear n0_ n1_; (try clear hb); (try clear hb2); (try clear hk); (try clear hi); (try clear ho0); obtain ⟨Ao58, co58, eo58⟩ := Kd.R_slice HO342.out; subst eo58) | (go_at_call 23; (with_reducible refine (isa_Reach.calls k _ _ t340 t343 _ ?side1 ?side2 ?side3 A3.out).mono ?_); (case side1 => repeat (first | exact (Kd.R_reads' HO342.out).2.2 | (with_reducible refine Kd.C_alloc ?_ _) | (with_reducible refine Kd.C_drewN ?_ _) | (with_reducible refine Kd.C_drew ?_))); (case side2 => exact (Kd.R_reads' HO342.out).2.1); (case side3 => repeat (first | exact (GL.below HRG.out HB.out) | (with_reducible refine GL.alloc ?_ _) | (with_reducible refine GL.drewN ?_ _) | (with_reducible refine GL.drew ?_))); rintro e w59 ⟨v344, rfl, ho0, hb⟩; have n0_ := Aside0.mk (Kd.R_below (by (with_reducible repeat (first | apply Kd.R_alloc | apply Kd.R_drewN | apply Kd.R_drew)); exact HO342.out) hb); have n1_ := Aside0.mk (Kd.R_lower ho0 (below_size (by repeat (first | (with_reducible first | exact HB.out | apply below_alloc | apply pw_below_drewN | apply below_drew1) | exact HB.out)))); have n2_ := Aside0.mk (below_step (by repeat (first | (with_reducible first | exact HB.out | apply below_alloc | apply pw_below_drewN | apply below_drew1) | exact HB.out)) hb); clear HO342; clear HB; have HO342 := n0_; have HO345 := n1_; have HB := n2_; clear n0_ n1_ n2_; (try clear hb); (try clear hb2); (try clear hk); (try clear hi); (try clear ho0)) | (go_at_call 16; (with_reducible refine (isa_Valid.calls k _ _ t340 t346 _ ?side1 ?side2 ?side3 A4.out).mono ?_); (case side1 => repeat (first | exact (Kd.R_reads' HO342.out).2.2 | (with_reducible refine Kd.C_alloc ?_ _) | (with_reducible refine Kd.C_drewN ?_ _) | (with_reducible refine Kd.C_drew ?_))); (case side2 => exact (Kd.R_reads' HO342.out).2.1); (case side3 => repeat (first | exact (GL.below HRG.out HB.out) | (with_reducible refine GL.alloc ?_ _) | (with_reducible refine GL.drewN ?_ _) | (with_reducible refine GL.drew ?_))); rintro e w60 ⟨rfl, hb⟩; have n0_ := Aside0.mk (Kd.R_below (by (with_reducible repeat (first | apply Kd.R_alloc | apply Kd.R_drewN | apply Kd.R_drew)); exact HO342.out) hb); have n1_ := Aside0.mk (Kd.R_below (by (with_reducible repeat (first | apply Kd.R_alloc | apply Kd.R_drewN | apply Kd.R_drew)); exact HO345.out) hb); have n2_ := Aside0.mk (below_step (by repeat (first | (with_reducible first | exact HB.out | apply below_alloc | apply pw_below_drewN | apply below_drew1) | exact HB.out)) hb); clear HO342; clear HO345; clear HB; have HO342 := n0_; have HO345 := n1_; have HB := n2_; clear n0_ n1_ n2_; (try clear hb); (try clear hb2); (try clear hk); (try clear hi); obtain ⟨Ao61, co61, eo61⟩ := Kd.R_slice HO345.out; subst eo61) | (go_at_call 13; (with_reducible refine (attestorlaw26_lives.calls k  t347 _ ?side1 A56.out).mono ?_); (case side1 => repeat (first | exact (GL.below HRG.out HB.out) | (with_reducible refine GL.alloc ?_ _) | (with_reducible refine GL.drewN ?_ _) | (with_reducible refine GL.drew ?_))); rintro e w62 ⟨rfl, hb⟩; have n0_ := Aside0.mk (Kd.R_below (by (with_reducible repeat (first | apply Kd.R_alloc | apply Kd.R_drewN | apply Kd.R_drew)); exact HO342.out) hb); have n1_ := Aside0.mk (Kd.R_below (by (with_reducible repeat (first | apply Kd.R_alloc | apply Kd.R_drewN | apply Kd.R_drew)); exact HO345.out) hb); have n2_ := Aside0.mk (below_step (by repeat (first | (with_reducible first | exact HB.out | apply below_alloc | apply pw_below_drewN | apply below_drew1) | exact HB.out)) hb); clear HO342; clear HO345; clear HB; have HO342 := n0_; have HO345 := n1_; have HB := n2_; clear n0_ n1_ n2_; (try clear hb); (try clear hb2); (try clear hk); (try clear hi))); try go_wp2_with (first | (go_at_call 14; (with_reducible refine (attestorlaw26_cut.calls _ _ l0 t340 _ ?side1 ?side2 A2.out).mono ?_); (case side1 => repeat (first | exact HR0.out | (with_reducible refine Kd.C_alloc ?_ _) | (with_reducible refine Kd.C_drewN ?_ _) | (with_reducible refine Kd.C_drew ?_))); (case side2 => exact HC0.out); rintro e w57 ⟨v341, rfl, ho0, hb⟩; have n0_ := Aside0.mk (Kd.R_lower ho0 (below_size (by repeat (first | (with_reducible first | exact HB.out | apply below_alloc | apply pw_below_drewN | apply below_drew1) | exact HB.out)))); have n1_ := Aside0.mk (below_step (by repeat (first | (with_reducible first | exact HB.out | apply below_alloc | apply pw_below_drewN | apply below_drew1) | exact HB.out)) hb); clear HB; have HO342 := n0_; have HB := n1_; clear n0_ n1_; (try clear hb); (try clear hb2); (try clear hk); (try clear hi); (try clear ho0); obtain ⟨Ao58, co58, eo58⟩ := Kd.R_slice HO342.out; subst eo58) | (go_at_call 23; (with_reducible refine (isa_Reach.calls k _ _ t340 t343 _ ?side1 ?side2 ?side3 A3.out).mono ?_); (case side1 => repeat (first | exact (Kd.R_reads' HO342.out).2.2 | (with_reducible refine Kd.C_alloc ?_ _) | (with_reducible refine Kd.C_drewN ?_ _) | (with_reducible refine Kd.C_drew ?_))); (case side2 => exact (Kd.R_reads' HO342.out).2.1); (case side3 => repeat (first | exact (GL.below HRG.out HB.out) | (with_reducible refine GL.alloc ?_ _) | (with_reducible refine GL.drewN ?_ _) | (with_reducible refine GL.drew ?_))); rintro e w59 ⟨v344, rfl, ho0, hb⟩; have n0_ := Aside0.mk (Kd.R_below (by (with_reducible repeat (first | apply Kd.R_alloc | apply Kd.R_drewN | apply Kd.R_drew)); exact HO342.out) hb); have n1_ := Aside0.mk (Kd.R_lower ho0 (below_size (by repeat (first | (with_reducible first | exact HB.out | apply below_alloc | apply pw_below_drewN | apply below_drew1) | exact HB.out)))); have n2_ := Aside0.mk (below_step (by repeat (first | (with_reducible first | exact HB.out | apply below_alloc | apply pw_below_drewN | apply below_drew1) | exact HB.out)) hb); clear HO342; clear HB; have HO342 := n0_; have HO345 := n1_; have HB := n2_; clear n0_ n1_ n2_; (try clear hb); (try clear hb2); (try clear hk); (try clear hi); (try clear ho0)) | (go_at_call 16; (with_reducible refine (isa_Valid.calls k _ _ t340 t346 _ ?side1 ?side2 ?side3 A4.out).mono ?_); (case side1 => repeat (first | exact (Kd.R_reads' HO342.out).2.2 | (with_reducible refine Kd.C_alloc ?_ _) | (with_reducible refine Kd.C_drewN ?_ _) | (with_reducible refine Kd.C_drew ?_))); (case side2 => exact (Kd.R_reads' HO342.out).2.1); (case side3 => repeat (first | exact (GL.below HRG.out HB.out) | (with_reducible refine GL.alloc ?_ _) | (with_reducible refine GL.drewN ?_ _) | (with_reducible refine GL.drew ?_))); rintro e w60 ⟨rfl, hb⟩; have n0_ := Aside0.mk (Kd.R_below (by (with_reducible repeat (first | apply Kd.R_alloc | apply Kd.R_drewN | apply Kd.R_drew)); exact HO342.out) hb); have n1_ := Aside0.mk (Kd.R_below (by (with_reducible repeat (first | apply Kd.R_alloc | apply Kd.R_drewN | apply Kd.R_drew)); exact HO345.out) hb); have n2_ := Aside0.mk (below_step (by repeat (first | (with_reducible first | exact HB.out | apply below_alloc | apply pw_below_drewN | apply below_drew1) | exact HB.out)) hb); clear HO342; clear HO345; clear HB; have HO342 := n0_; have HO345 := n1_; have HB := n2_; clear n0_ n1_ n2_; (try clear hb); (try clear hb2); (try clear hk); (try clear hi); obtain ⟨Ao61, co61, eo61⟩ := Kd.R_slice HO345.out; subst eo61) | (go_at_call 13; (with_reducible refine (attestorlaw26_lives.calls k  t347 _ ?side1 A56.out).mono ?_); (case side1 => repeat (first | exact (GL.below HRG.out HB.out) | (with_reducible refine GL.alloc ?_ _) | (with_reducible refine GL.drewN ?_ _) | (with_reducible refine GL.drew ?_))); rintro e w62 ⟨rfl, hb⟩; have n0_ := Aside0.mk (Kd.R_below (by (with_reducible repeat (first | apply Kd.R_alloc | apply Kd.R_drewN | apply Kd.R_drew)); exact HO342.out) hb); have n1_ := Aside0.mk (Kd.R_below (by (with_reducible repeat (first | apply Kd.R_alloc | apply Kd.R_drewN | apply Kd.R_drew)); exact HO345.out) hb); have n2_ := Aside0.mk (below_step (by repeat (first | (with_reducible first | exact HB.out | apply below_alloc | apply pw_below_drewN | apply below_drew1) | exact HB.out)) hb); clear HO342; clear HO345; clear HB; have HO342 := n0_; have HO345 := n1_; have HB := n2_; clear n0_ n1_ n2_; (try clear hb); (try clear hb2); (try clear hk); (try clear hi))))
      go_ret
      exact ⟨by first | rfl | (simp [errW_none, errW_some] <;> rfl) | (simp [*, errW_none, errW_some] <;> rfl), by repeat (first | (with_reducible first | exact HB.out | apply below_alloc | apply pw_below_drewN | apply below_drew1) | exact HB.out)⟩
    · rw [if_neg c55] at H
      exact absurd H (by simp)

end Go.Proofs.YtamjeglenbokfaaDoor.Q
end
section
namespace Go.Proofs.YtamjeglenbokfaaDoor.Q
open Go.RowKit Go.Proofs.YtamjeglenbokfaaDoorW.PrintWords Go.Proofs.YtamjeglenbokfaaDoorW.PrintLast Go.Proofs.YtamjeglenbokfaaDoorW.PrintMore
set_option linter.unusedVariables false
set_option linter.unusedSimpArgs false
open Go.Proofs.YtamjeglenbokfaaDoor.Dfs (vis R turn swp swps)
theorem rd_mem {X : List Int} {i : Nat} (h : i < X.length) : rd X (i : Int) ∈ X := by
  have e : rd X (i : Int) = X[i] := by unfold rd; rw [Int.toNat_natCast, List.getD_eq_getElem?_getD, List.getElem?_eq_getElem h]; rfl
  rw [e]; exact List.getElem_mem h
theorem rd_app {X : List Int} {i : Nat} (a : Int) (h : i < X.length) : rd (X ++ [a]) (i : Int) = rd X (i : Int) := by
  unfold rd
  rw [Int.toNat_natCast, List.getD_eq_getElem?_getD, List.getD_eq_getElem?_getD, List.getElem?_append_left h]
theorem mem_rd {X : List Int} {y : Int} (h : y ∈ X) : ∃ i : Nat, i < X.length ∧ rd X (i : Int) = y := by
  obtain ⟨i, hi, e⟩ := List.getElem_of_mem h
  refine ⟨i, hi, ?_⟩
  unfold rd
  rw [Int.toNat_natCast, List.getD_eq_getElem?_getD, List.getElem?_eq_getElem hi]
  exact e
structure Bfs (l : List S37) (S : List Bool) (X : List Int) (i : Nat) : Prop where
  len : S.length = 41
  cnt : X.length + S.count false = 41
  mem : ∀ y : Int, 0 ≤ y → (Dfs.mk S y = true ↔ y ∈ X)
  rch : ∀ y ∈ X, R (sc l) 0 y
  zero : 0 ∈ X
  done : ∀ j : Nat, j < i → ∀ z ∈ sc l (rd X (j : Int)), z ∈ X
theorem sc_ne (l : List S37) (y : Int) : ¬ (((sc l y).length : Nat) : Int) = 0 := by
  unfold sc nxl
  repeat' split
  all_goals simp
theorem R_range {l : List S37} (hP : okP l) {y : Int} (r : R (sc l) 0 y) : 0 ≤ y ∧ y < ((l.length + 1 : Nat) : Int) := by
  induction r with
  | refl => omega
  | step _ hz ih => exact sc_range hP _ ih.1 ih.2 _ hz
theorem q_l1 (l : List S37) (hw : ∀ i ∈ l, wfI i) (hn : l.length ≤ 40) (hP : okP l) (A : List Bool) (B i : Nat) (x : Int) (next : ∀ S X, Bfs l S X (i + 1) → i + 1 ≤ X.length → ∀ K, B ≤ K → attestorlaw26_IsaReach.l0 K l A S X ((i + 1 : Nat) : Int) = some true) :
    ∀ (rest : List Int) (j : Nat) (S : List Bool) (X : List Int), (sc l x).drop j = rest → Bfs l S X i → i < X.length → rd X (i : Int) = x → (∀ z ∈ (sc l x).take j, z ∈ X) → ∀ K, B + 2 * rest.length + 1 ≤ K → attestorlaw26_IsaReach.l1 K l A S X (i : Int) (sc l x) (j : Int) = some true := by
  intro rest
  have h2 := sc_length l x
  induction rest with
  | nil =>
    intro j S X hd hI hi hx ht K hK
    obtain ⟨K, rfl⟩ : ∃ q, K = q + 1 := ⟨K - 1, by omega⟩
    have hX : X.length ≤ 41 := by have := hI.cnt; omega
    rw [attestorlaw26_IsaReach.l1, if_neg (jge (drop_nil hd)), wrs hi (by omega)]
    refine next S X ⟨hI.len, hI.cnt, hI.mem, hI.rch, hI.zero, fun j' hj' z hz => ?_⟩ hi K (by simpa using hK)
    by_cases e : j' = i
    · subst e
      rw [hx] at hz
      rw [List.take_of_length_le (drop_nil hd)] at ht
      exact ht z hz
    · exact hI.done j' (by omega) z hz
  | cons a rest ih =>
    intro j S X hd hI hi hx ht K hK
    obtain ⟨hj, hra, hd'⟩ := drop_cons hd
    rw [List.length_cons] at hK
    obtain ⟨K, rfl⟩ : ∃ q, K = q + 2 := ⟨K - 2, by omega⟩
    have hxm : x ∈ X := by rw [← hx]; exact rd_mem hi
    have hxr := R_range hP (hI.rch x hxm)
    have ham : a ∈ sc l x := by rw [← hra]; exact rd_mem hj
    have ha := sc_range hP x hxr.1 hxr.2 a ham
    have hX : X.length ≤ 41 := by have := hI.cnt; omega
    have hL32 : l.length ≤ 32 := hP.1
    have htake : (sc l x).take (j + 1) = (sc l x).take j ++ [a] := by
      rw [List.take_add_one]
      have e : (sc l x)[j]? = some a := by
        rw [List.getElem?_eq_getElem hj]
        have e2 : rd (sc l x) (j : Int) = (sc l x)[j] := by unfold rd; rw [Int.toNat_natCast, List.getD_eq_getElem?_getD, List.getElem?_eq_getElem hj]; rfl
        rw [← e2, hra]
      rw [e]
      rfl
    rw [attestorlaw26_IsaReach.l1, if_pos (jlt hj), if_pos (Int.natCast_nonneg _), hra, if_neg (by omega), attestorlaw26_IsaReach.j3, if_neg (by rw [decide_eq_false (by omega)]; decide), if_pos (Int.natCast_nonneg _), if_pos (jlt hj), hra, if_pos ha.1, if_pos (by rw [hI.len]; omega), wrs hj (by omega)]
    by_cases hm : Dfs.mk S a = true
    · rw [if_pos (show rdOf false S a = true from hm)]
      refine ih (j + 1) S X hd' hI hi hx ?_ K (by omega)
      intro z hz
      rw [htake] at hz
      rcases List.mem_append.1 hz with hz | hz
      · exact ht z hz
      · rw [List.mem_singleton.1 hz]
        exact (hI.mem a ha.1).1 hm
    · rw [if_neg (show ¬ rdOf false S a = true from hm), if_pos (show X.length < 17592186044416 by omega)]
      have hsl : a.toNat < S.length := by rw [hI.len]; omega
      have hc := Dfs.count_set S a.toNat hsl (by unfold Dfs.mk at hm; simpa using hm)
      refine ih (j + 1) (S.set a.toNat true) (X ++ [a]) hd' ⟨by rw [List.length_set]; exact hI.len, ?_, ?_, ?_, List.mem_append.2 (Or.inl hI.zero), ?_⟩ (by rw [List.length_append]; omega) ((rd_app a hi).trans hx) ?_ K (by omega)
      · have := hI.cnt
        rw [List.length_append, List.length_singleton]
        omega
      · intro y hy
        rw [Dfs.mk_set hsl ha.1 hy, hI.mem y hy, List.mem_append, List.mem_singleton]
        exact ⟨fun h => h.symm, fun h => h.symm⟩
      · intro y hy
        rcases List.mem_append.1 hy with hy | hy
        · exact hI.rch y hy
        · rw [List.mem_singleton.1 hy]
          exact R.step (hI.rch x hxm) ham
      · intro j' hj' z hz
        rw [rd_app a (by omega)] at hz
        exact List.mem_append.2 (Or.inl (hI.done j' hj' z hz))
      · intro z hz
        rw [htake] at hz
        rcases List.mem_append.1 hz with hz | hz
        · exact List.mem_append.2 (Or.inl (ht z hz))
        · exact List.mem_append.2 (Or.inr hz)
theorem q_l2 (n : Nat) (hn : n ≤ 41) (A S : List Bool) (hA : A.length = n) (hS : S.length = 41) (he : ∀ y : Int, 0 ≤ y → y < (n : Int) → Dfs.mk A y = Dfs.mk S y) : ∀ (d i K : Nat), n - i = d → i ≤ n → d + 60 ≤ K → attestorlaw26_IsaReach.l2 K A S (i : Int) = some true := by
  intro d
  induction d with
  | zero =>
    intro i K hd hi hK
    obtain ⟨K, rfl⟩ : ∃ q, K = q + 1 := ⟨K - 1, by omega⟩
    rw [attestorlaw26_IsaReach.l2, if_neg (jge (by omega))]
    exact bnd (lives_true K (by omega)) rfl
  | succ d ih =>
    intro i K hd hi hK
    obtain ⟨K, rfl⟩ : ∃ q, K = q + 1 := ⟨K - 1, by omega⟩
    have hi2 : i < n := by omega
    have hb := he (i : Int) (Int.natCast_nonneg _) (jlt hi2)
    rw [attestorlaw26_IsaReach.l2, if_pos (by rw [hA]; exact jlt hi2), if_pos (Int.natCast_nonneg _), if_pos (by rw [hS]; exact jlt (by omega)), if_neg (by rw [show rdOf false A (i : Int) = rdOf false S (i : Int) from hb]; simp), wrs hi2 (by omega)]
    exact ih (i + 1) K (by omega) (by omega) (by omega)
theorem q_l0 (l : List S37) (hw : ∀ i ∈ l, wfI i) (hn : l.length ≤ 40) (hP : okP l) (A : List Bool) (hA : A.length = l.length + 1) (hR : ∀ y : Int, 0 ≤ y → y < ((l.length + 1 : Nat) : Int) → (Dfs.mk A y = true ↔ R (sc l) 0 y)) : ∀ (d i : Nat) (S : List Bool) (X : List Int), 41 - i = d → Bfs l S X i → i ≤ X.length → ∀ K, 10 * d + 200 ≤ K → attestorlaw26_IsaReach.l0 K l A S X (i : Int) = some true := by
  intro d
  induction d with
  | zero =>
    intro i S X hd hI hi K hK
    have hX : X.length ≤ 41 := by have := hI.cnt; omega
    have hc0 : S.count false = 0 := by have := hI.cnt; omega
    exfalso
    have hL32 : l.length ≤ 32 := hP.1
    have hm := (hI.mem 40 (by omega)).1 (by
      have h40 : 40 < S.length := by rw [hI.len]; omega
      unfold Dfs.mk
      rw [show ((40 : Int)).toNat = 40 from rfl, List.getD_eq_getElem?_getD, List.getElem?_eq_getElem h40, Option.getD_some]
      have := List.count_eq_zero.1 hc0
      cases hb : S[40] with
      | true => rfl
      | false => exact absurd (hb ▸ List.getElem_mem h40) this)
    have := R_range hP (hI.rch 40 hm)
    omega
  | succ d ih =>
    intro i S X hd hI hi K hK
    obtain ⟨K, rfl⟩ : ∃ q, K = q + 1 := ⟨K - 1, by omega⟩
    have hX : X.length ≤ 41 := by have := hI.cnt; omega
    by_cases h : i < X.length
    · have hxm := rd_mem h
      have hxr := R_range hP (hI.rch _ hxm)
      obtain ⟨ts, hN, _, _, hE⟩ := next_all l hw hn (rd X (i : Int)) K (by omega)
      have hts := hE hP hxr.1 (by omega)
      have h2 := sc_length l (rd X (i : Int))
      rw [attestorlaw26_IsaReach.l0, if_pos (jlt h), if_pos (Int.natCast_nonneg _)]
      refine bnd hN ?_
      rw [show ts = sc l (rd X (i : Int)) from hts]
      refine (if_neg (sc_ne l _)).trans ?_
      exact q_l1 l hw hn hP A (10 * d + 200) i (rd X (i : Int)) (fun S' X' hI' hi' K' hK' => ih (i + 1) S' X' (by omega) hI' hi' K' hK') (sc l (rd X (i : Int))) 0 S X rfl hI h rfl (fun z hz => absurd hz (by simp)) K (by omega)
    · have hie : i = X.length := by omega
      have hL32 : l.length ≤ 32 := hP.1
      rw [attestorlaw26_IsaReach.l0, if_neg (jge (by omega))]
      refine q_l2 (l.length + 1) (by omega) A S hA hI.len (fun y h0 h1 => ?_) (l.length + 1) 0 K rfl (Nat.zero_le _) (by omega)
      have hall : ∀ y, R (sc l) 0 y → y ∈ X := by
        intro y r
        induction r with
        | refl => exact hI.zero
        | step _ hz ihr =>
          obtain ⟨j, hj, e⟩ := mem_rd ihr
          rw [← e] at hz
          exact hI.done j (by omega) _ hz
      have hiff : Dfs.mk A y = true ↔ Dfs.mk S y = true := (hR y h0 h1).trans ⟨fun r => (hI.mem y h0).2 (hall y r), fun h => hI.rch y ((hI.mem y h0).1 h)⟩
      cases ha : Dfs.mk A y <;> cases hs : Dfs.mk S y <;> simp_all
theorem least_true (l : List S37) (hw : ∀ i ∈ l, wfI i) : ∃ k, attestorlaw26_IsaReach.f k l = some true := by
  obtain ⟨L, hL, hn, hm⟩ := cut_f l
  have hwL : ∀ i ∈ L, wfI i := fun i hi => hw i (hm i hi)
  obtain ⟨e, h1, _, h3⟩ := valid_same L hwL hn 1000 (by omega)
  obtain ⟨t, r1, r2, r3⟩ := reach_f L hwL hn 1000 (by omega)
  refine ⟨1000, ?_⟩
  unfold attestorlaw26_IsaReach.f
  refine bnd hL (bnd r1 (bnd h1 ?_))
  by_cases he : e = 0
  · have hP := h3.1 he
    obtain ⟨a1, a2⟩ := r2 hP
    have hz : Dfs.mk t 0 = true := (a2 0 (by omega) (by omega)).2 R.refl
    refine (if_pos he).trans ?_
    rw [wl hn, if_pos (by rw [a1]), if_pos (by rw [a1]; omega), attestorlaw26_IsaReach.j0, if_neg (by rw [show rdOf false t 0 = true from hz]; decide)]
    refine bnd rfl ?_
    rw [if_pos (by simp)]
    refine q_l0 L hwL hn hP t a1 a2 41 0 _ [0] rfl ⟨by simp, by decide, ?_, ?_, by simp, fun j hj => absurd hj (Nat.not_lt_zero _)⟩ (Nat.zero_le _) 999 (by omega)
    · intro y hy
      have hmk := Dfs.mk_set (s := List.replicate 41 false) (x := 0) (y := y) (by simp) (by omega) hy
      rw [hmk, List.mem_singleton]
      refine ⟨fun h => h.resolve_right ?_, fun h => Or.inl h⟩
      unfold Dfs.mk
      rw [List.getD_eq_getElem?_getD, List.getElem?_replicate]
      split <;> simp
    · intro y hy
      rw [List.mem_singleton.1 hy]
      exact R.refl
  · have hP : ¬ okP L := fun q => he (h3.2 q)
    rw [r3 hP]
    refine (if_neg he).trans ((if_pos rfl).trans ?_)
    exact bnd (lives_true 1000 (by omega)) rfl
end Go.Proofs.YtamjeglenbokfaaDoor.Q
end
section
namespace Go.Proofs.YtamjeglenbokfaaDoor.Q
open Go.ChangeShapes Go.WideShapes Go.ChangeAt Go.WideMaps Go.WideElems Go.RowKit
open Go.Proofs.YtamjeglenbokfaaDoorW.PrintWords Go.Proofs.YtamjeglenbokfaaDoorW.PrintLast Go.Proofs.YtamjeglenbokfaaDoorW.PrintMore
open Go.Proofs.YtamjeglenbokfaaDoor.Opn
set_option linter.unusedVariables false

set_option maxRecDepth 100000 in
theorem isaReach_lifted (os : Os) (started : os.Started) (H : Type) (enc : TypeId × Value → H) :
    ReturnsInHanded {} Tryd.checked os 7 .any (fun w args => (Rows.isaReachSpec.pre enc Tryd.prog Tryd.f7 [] false w args ∧ laidMetH Tryd.prog laid1 w) ∧ sizedMet enc Tryd.prog Tryd.f7 (OpenSpec.ofChange Rows.isaReachSpec) false w args)
      (Rows.isaReachSpec.post enc Tryd.prog Tryd.f7 false true false false) := by
  refine returnsInHanded_of_change_and (C := Tryd.checked) (X := (fun w _ => laidMetH Tryd.prog laid1 w)) (fun _ _ _ hh h => h.of_heap hh) own started (by kernel_rfl) Tryd.func7
    (ChangeSpec.witness_shaped (enc := enc) (C := Tryd.checked) (os := os) (X := (fun w _ => laidMetH Tryd.prog laid1 w)) false (World.doorLaid Tryd.prog 400 os) #[.slice none 0 0] 8 rfl (World.shaped_of_RefB (by kernel_rfl) (by kernel_rfl)) (by kernel_rfl) (by kernel_rfl) (by kernel_rfl) (door_met os _)) ?_
  intro W base args ds gs before hval0 hW _ _ hL _
  have hval : ∀ (j : Nat) t v, Tryd.f7.params[j]? = some t → args[j]? = some v → Value.okWide Tryd.prog W .any base t v := hval0
  have hW' := hW
  obtain ⟨p, q, hA0, hV, rfl, hfz, hnd⟩ := hW
  have hA : DataW.TrodAll enc Tryd.prog W 0 (fun _ => true) true Tryd.f7.params.toList args.toList ds p := hA0
  rw [Tryd.params7] at hA hval
  obtain ⟨v0, vs0, d0, ds0, p0, q0, hargs, rfl, rfl, h0, r0⟩ := trodAll_cons hA
  obtain ⟨rfl, rfl, rfl⟩ := trodAll_nil r0
  obtain rfl : args = #[v0] := by cases args; simp_all
  obtain ⟨rfl, rfl⟩ := trodVars_none hV
  obtain ⟨a0, len0, cap0, rfl⟩ := okWide_slice Tryd.underlying23 (hval 0 23 v0 rfl rfl)
  have k0 := h0
  have lt0 : ∀ x ∈ p0, x.block < W.heap.size := by obtain ⟨m, hm⟩ := k0; exact DataW.trod_lt m _ _ _ hm
  obtain ⟨m0, hm0⟩ := h0
  obtain ⟨l0, ⟨A0, c0, hc0, hle0, hC0⟩, hw0⟩ := opn23 (enc := enc) (W := W) m0 _ _ hm0
  simp only [Value.cells, List.cons.injEq, and_true, Value.slice.injEq] at hc0
  obtain ⟨rfl, rfl, rfl⟩ := hc0
  clear hA0 hval0
  refine (attestorlaw26_IsaReach.calls _ a0 cap0 l0 true W hC0 hle0 (gl_of_laid hL) (least_true l0 (fun i hi => wfI_of (hw0 i hi))).choose_spec).mono fun e W' ⟨he, bel⟩ => ?_
  subst he
  exact ⟨_, rfl, _, _, _, [], _, [], hW', trodAll_mk1 (shut_bool Tryd.underlying4 _), (trodAll_cons_mk (Below.trod laidOut (by kernel_rfl) (of_decide_eq_true (by kernel_rfl)) k0 bel lt0) trodAll_mk0), rfl, bel.frame _, fun h => by cases h⟩
theorem isaReach_row : Rows.IsaReachSaid :=
  OpenClaim.holds_of_wide 7 Tryd.f7 rfl rfl rfl rfl rfl rfl rfl ⟨rfl, rfl, rfl, rfl, rfl⟩ rfl rfl rfl rfl rfl (by kernel_rfl) Tryd.func7 (by kernel_rfl)
    (of_decide_eq_true (by kernel_rfl)) (by unfold Func.isWrapper; first | (rw [if_pos (by decide +kernel)]; kernel_rfl) | (rw [if_neg (by decide +kernel)]; exact ⟨rfl, rfl⟩))
    (fun os started H enc _ => isaReach_lifted os started H enc)
theorem isaReach_card : Rows.IsaReachCardSaid :=
  Claim7.holds_tied_plain_at .later [] [.data] true Rows.isaReachCard.stood.harness false
    isaReach_row (fun _ h => by cases h) (by kernel_rfl) (fun _ h => by cases h) isaReach_row_tie rfl ⟨rfl, rfl⟩ (by kernel_rfl) rfl
    (fun f fn hf hfn => by
      obtain rfl : f = 7 := Option.some.inj ((show Tryd.prog.funcNamed "attestor/attestorlaw26.IsaReach" = some 7 by kernel_rfl).symm.trans hf) |>.symm
      obtain rfl : fn = Tryd.f7 := (Option.some.inj (Tryd.func7.symm.trans hfn)).symm
      exact ⟨by kernel_rfl, fun j t ht => by
        rw [Tryd.params7] at ht
        have hm : t ∈ [23] := by simpa using Array.mem_of_getElem? ht
        have hall : ([23].all fun u => !Tryd.prog.wantsStandIn u) = true := by kernel_rfl
        exact (show Tryd.prog.wantsStandIn t = false by simpa using List.all_eq_true.1 hall t hm)⟩)
    (by kernel_rfl)
end Go.Proofs.YtamjeglenbokfaaDoor.Q
namespace Go.Proofs.YtamjeglenbokfaaDoor
/-- Under a short name, for the claim. -/
theorem isaReach_holds : Rows.IsaReachCardSaid := Q.isaReach_card
end Go.Proofs.YtamjeglenbokfaaDoor
#print axioms Go.Proofs.YtamjeglenbokfaaDoor.isaReach_holds
end
