/- Several texts in one, in build order. What they prove, each by its own first remark:
Of PLoops what this claim needs.
For all arguments attestorlaw28.MachineLoops returns true and leaves them as they were, where the variable 'uses' holds what the program's text lays (the card ties that): no other condition. -/
import Derived.Test.YtgmdpghbkjlnhaaDoorM5
import Derived.Test.YtgmdpghbkjlnhaaDoorM4
import Derived.Test.YtgmdpghbkjlnhaaDoorCards
import Derived.Test.YtgmdpghbkjlnhaaDoorTie
import Derived.SevenTiedAt
import Derived.SizedLaws
import Derived.ShutString
import Derived.ChangeOld
import Derived.ProofKit
import Derived.Below
import Derived.OpenShut
section
namespace Go.Proofs.YtgmdpghbkjlnhaaDoor.Q
open Go.RowKit Go.Proofs.YtgmdpghbkjlnhaaDoorW.PrintWords Go.Proofs.YtgmdpghbkjlnhaaDoorW.PrintLast Go.Proofs.YtgmdpghbkjlnhaaDoorW.PrintMore
set_option linter.unusedVariables false
set_option linter.unusedSimpArgs false
theorem loops_k (l : List S47) (hw : ∀ i ∈ l, wfI i) (hn : l.length ≤ 40) (s : M) (hB : okB l s = true) (hs : okS s) : ∀ k : Nat,
    (∀ i : Nat, i ≤ 151 → 1000 + (151 - i) * 400 ≤ k → attestorlaw28_MachineLoops.l0 k l (sts l 151 s) i s.p0 s.p1 s.p2 s.p3 s.p4 s.p5 s.p6 s.p7 s.p8 s.p9 s.p10 s.p11 s.p12 s.p13 s.p14 s.p15 s.p16 s.p17 s.p18 s.p19 s.p20 = some true) ∧
    (∀ i j : Nat, i < j → i < 151 → j ≤ 151 → 1001 + (150 - i) * 400 + (151 - j) * 2 ≤ k → attestorlaw28_MachineLoops.l1 k l (sts l 151 s) i j s.p0 s.p1 s.p2 s.p3 s.p4 s.p5 s.p6 s.p7 s.p8 s.p9 s.p10 s.p11 s.p12 s.p13 s.p14 s.p15 s.p16 s.p17 s.p18 s.p19 s.p20 = some true) := by
  intro k
  induction k using Nat.strongRecOn with
  | ind k ih =>
  have hl : (sts l 151 s).length = 151 := sts_length l 151 s
  have wr : ∀ i : Nat, i ≤ 151 → wrap64 ((i : Int) + 1) = ((i + 1 : Nat) : Int) := by intro i hi; unfold wrap64; omega
  constructor
  · intro i hi hk
    obtain ⟨k, rfl⟩ : ∃ j, k = j + 1 := ⟨k - 1, by omega⟩
    rw [attestorlaw28_MachineLoops.l0]
    refine iteb (fun h => ?_) (fun h => ?_)
    · rw [hl] at h
      rw [wr i hi]
      exact (ih k (by omega)).2 i (i + 1) (by omega) (by omega) (by omega) (by omega)
    · exact bnd (lives_true _ (by omega)) rfl
  · intro i j hij hi hj hk
    obtain ⟨k, rfl⟩ : ∃ j, k = j + 2 := ⟨k - 2, by omega⟩
    rw [attestorlaw28_MachineLoops.l1]
    refine iteb (fun h => ?_) (fun h => ?_)
    · rw [hl] at h
      have hj2 : j < 151 := by omega
      have next : attestorlaw28_MachineLoops.j2 (k + 1) l (sts l 151 s) i j true s.p0 s.p1 s.p2 s.p3 s.p4 s.p5 s.p6 s.p7 s.p8 s.p9 s.p10 s.p11 s.p12 s.p13 s.p14 s.p15 s.p16 s.p17 s.p18 s.p19 s.p20 = some true := by
        rw [attestorlaw28_MachineLoops.j2]
        refine (if_pos rfl).trans ?_
        rw [wr j hj]
        exact (ih k (by omega)).2 i (j + 1) (by omega) hi (by omega) (by omega)
      rw [if_pos (show (0 : Int) ≤ (i : Int) by omega), if_pos (show (i : Int) < ((sts l 151 s).length : Int) by rw [hl]; omega), if_pos (show (0 : Int) ≤ (j : Int) by omega), sts_rd l 151 i s hi, sts_rd l 151 j s hj2]
      refine iteb (fun _ => next) (fun hc => ?_)
      have he : itr l i s = itr l j s := by
        apply toS_inj
        simp only [Bool.or_eq_true, Bool.not_eq_true', beq_eq_false_iff_ne, ne_eq, not_or, Decidable.not_not] at hc
        obtain ⟨c0, ⟨c1_0, c1_1, c1_2, c1_3⟩, c2_0, c2_1, c2_2, c2_3, c2_4, c2_5, c2_6, c2_7, c2_8, c2_9, c2_10, c2_11, c2_12, c2_13, c2_14, c2_15⟩ := hc
        exact sEq c0 c1_0 c1_1 c1_2 c1_3 c2_0 c2_1 c2_2 c2_3 c2_4 c2_5 c2_6 c2_7 c2_8 c2_9 c2_10 c2_11 c2_12 c2_13 c2_14 c2_15
      clear hc
      refine bnd (Halted_f l hw hn (k + 1) (by omega) (itr l i s)) ?_
      rw [itr_okB l i hB, Bool.true_and]
      by_cases hh : hlt l (itr l i s)
      · rw [show decide ((fet l (itr l i s).p0).f0 = 0) = true from decide_eq_true hh]
        exact next
      · rw [show decide ((fet l (itr l i s).p0).f0 = 0) = false from decide_eq_false hh]
        rw [attestorlaw28_MachineLoops.j2]
        refine (if_neg (by decide)).trans ?_
        have hfree := back_free hij he hh
        have e2 : wrap64 ((i : Int) + (wrap64 (2 * (wrap64 ((j : Int) - (i : Int)))))) = ((i + 2 * (j - i) : Nat) : Int) := by
          have q1 : wrap64 ((j : Int) - (i : Int)) = ((j - i : Nat) : Int) := by unfold wrap64; omega
          rw [q1]
          have q2 : wrap64 (2 * ((j - i : Nat) : Int)) = ((2 * (j - i) : Nat) : Int) := by unfold wrap64; omega
          rw [q2]
          unfold wrap64
          omega
        have hr : ∀ n : Nat, n ≤ 450 → runV l s (n : Int) = (itr l n s).e2 n 0 := by
          intro n hn4
          unfold runV bd
          rw [if_pos (show okB l s = true ∧ (0 : Int) ≤ (n : Int) from ⟨hB, by omega⟩), if_neg (show ¬ (n : Int) > 65536 by omega), if_pos rfl]
          show (rn l n 0 s).1.e2 ((rn l n 0 s).2 : Nat) 0 = _
          rw [rn_full l n 0 s (fun m _ => hfree m), Nat.zero_add]
        rw [e2]
        refine bnd ((Run_f l hw hn k (450 : Nat) (by omega) (by omega) hs).trans (congrArg some (hr 450 (by omega)))) ?_
        refine bnd ((Run_f l hw hn k ((i + 2 * (j - i) : Nat) : Int) (by omega) (by omega) hs).trans (congrArg some (hr (i + 2 * (j - i)) (by omega)))) ?_
        rw [back_twice hij he]
        refine (if_pos rfl).trans ?_
        refine (if_pos rfl).trans ?_
        refine (if_pos rfl).trans ?_
        rw [if_pos (show (0 : Int) ≤ (i : Int) by omega), if_pos (show (i : Int) < ((sts l 151 s).length : Int) by rw [hl]; omega), sts_rd l 151 i s hi]
        refine (if_pos ?_).trans ?_
        · simp only [toS, M.e2, beq_self_eq_true, Bool.and_self]
        · exact bnd (lives_true _ (by omega)) rfl
    · rw [wr i (by omega)]
      exact (ih (k + 1) (by omega)).1 (i + 1) (by omega) (by omega)
theorem loops_true (l : List S47) (hw : ∀ i ∈ l, wfI i) (s : M) (hs : okS s) : ∃ k, attestorlaw28_MachineLoops.f k l s.p0 s.p1 s.p2 s.p3 s.p4 s.p5 s.p6 s.p7 s.p8 s.p9 s.p10 s.p11 s.p12 s.p13 s.p14 s.p15 s.p16 s.p17 s.p18 s.p19 s.p20 = some true := by
  obtain ⟨L, hL, hn, hm⟩ := cut_f l
  have hwL : ∀ i ∈ L, wfI i := fun i hi => hw i (hm i hi)
  obtain ⟨p, hp0, hp1, hV⟩ := valid_state L hn s
  obtain ⟨e, hE, hE2⟩ := valid_some L hwL hn 70000 (by omega)
  refine ⟨70000, ?_⟩
  unfold attestorlaw28_MachineLoops.f
  refine bnd hL (bnd hV ?_)
  have hsp : okS (atM s p) := okS_at hs p
  have hp2 : (atM s p).p0 = p := rfl
  refine bnd (States_f L hwL hn 70000 151 (by omega) (by omega) hsp) ?_
  by_cases hB : okB L (atM s p) = true
  · have hst : stsV L (atM s p) 151 = (sts L 151 (atM s p), 0) := by
      unfold stsV bd
      rw [if_pos (show okB L (atM s p) = true ∧ (0 : Int) ≤ 151 from ⟨hB, by omega⟩), if_neg (show ¬ (151 : Int) > 65536 by omega), if_pos rfl]
      rfl
    rw [hst]
    refine (if_pos rfl).trans ?_
    exact (loops_k L hwL hn (atM s p) hB hsp 70000).1 0 (by omega) (by omega)
  · have hst : stsV L (atM s p) 151 = ([], 1) := by
      unfold stsV bd
      rw [if_neg (show ¬ (okB L (atM s p) = true ∧ (0 : Int) ≤ 151) from fun q => hB q.1), if_neg (show ¬ (1 : Int) = 0 by omega)]
    rw [hst]
    refine (if_neg (by decide)).trans ?_
    refine bnd hE ?_
    have hne : e ≠ 0 := fun h0 => hB ((okB_iff L (atM s p)).2 ⟨hE2.1 h0, hp0, hp1⟩)
    rw [if_neg hne]
    exact bnd (lives_true _ (by omega)) rfl
end Go.Proofs.YtgmdpghbkjlnhaaDoor.Q
end
section
namespace Go.Proofs.YtgmdpghbkjlnhaaDoor.Q
open Go.ChangeShapes Go.WideShapes Go.ChangeAt Go.WideMaps Go.WideElems Go.RowKit
open Go.Proofs.YtgmdpghbkjlnhaaDoorW.PrintWords Go.Proofs.YtgmdpghbkjlnhaaDoorW.PrintLast Go.Proofs.YtgmdpghbkjlnhaaDoorW.PrintMore
open Go.Proofs.YtgmdpghbkjlnhaaDoor.Opn
set_option linter.unusedVariables false

set_option maxRecDepth 100000 in
theorem machineLoops_lifted (os : Os) (started : os.Started) (H : Type) (enc : TypeId × Value → H) :
    ReturnsInHanded {} Tryd.checked os 6 .any (fun w args => (Rows.machineLoopsSpec.pre enc Tryd.prog Tryd.f6 [] false w args ∧ laidMetH Tryd.prog laid1 w) ∧ sizedMet enc Tryd.prog Tryd.f6 (OpenSpec.ofChange Rows.machineLoopsSpec) false w args)
      (Rows.machineLoopsSpec.post enc Tryd.prog Tryd.f6 false true false false) := by
  refine returnsInHanded_of_change_and (C := Tryd.checked) (X := (fun w _ => laidMetH Tryd.prog laid1 w)) (fun _ _ _ hh h => h.of_heap hh) own started (by kernel_rfl) Tryd.func6
    (ChangeSpec.witness_shaped (enc := enc) (C := Tryd.checked) (os := os) (X := (fun w _ => laidMetH Tryd.prog laid1 w)) false (World.doorLaid Tryd.prog 400 os) #[.slice none 0 0, .agg #[.int .i64 0, .int .u8 0, .int .u8 0, .int .u8 0, .int .u8 0, .int .u8 0, .int .u8 0, .int .u8 0, .int .u8 0, .int .u8 0, .int .u8 0, .int .u8 0, .int .u8 0, .int .u8 0, .int .u8 0, .int .u8 0, .int .u8 0, .int .u8 0, .int .u8 0, .int .u8 0, .int .u8 0]] 8 rfl (World.shaped_of_RefB (by kernel_rfl) (by kernel_rfl)) (by kernel_rfl) (by kernel_rfl) (by kernel_rfl) (door_met os _)) ?_
  intro W base args ds gs before hval0 hW _ _ hL _
  have hval : ∀ (j : Nat) t v, Tryd.f6.params[j]? = some t → args[j]? = some v → Value.okWide Tryd.prog W .any base t v := hval0
  have hW' := hW
  obtain ⟨p, q, hA0, hV, rfl, hfz, hnd⟩ := hW
  have hA : DataW.TrodAll enc Tryd.prog W 0 (fun _ => true) true Tryd.f6.params.toList args.toList ds p := hA0
  rw [Tryd.params6] at hA hval
  obtain ⟨v0, vs0, d0, ds0, p0, q0, hargs, rfl, rfl, h0, r0⟩ := trodAll_cons hA
  obtain ⟨v1, vs1, d1, ds1, p1, q1, rfl, rfl, rfl, h1, r1⟩ := trodAll_cons r0
  obtain ⟨rfl, rfl, rfl⟩ := trodAll_nil r1
  obtain rfl : args = #[v0, v1] := by cases args; simp_all
  obtain ⟨rfl, rfl⟩ := trodVars_none hV
  obtain ⟨a0, len0, cap0, rfl⟩ := okWide_slice Tryd.underlying22 (hval 0 22 v0 rfl rfl)
  have k0 := h0
  have lt0 : ∀ x ∈ p0, x.block < W.heap.size := by obtain ⟨m, hm⟩ := k0; exact DataW.trod_lt m _ _ _ hm
  obtain ⟨m0, hm0⟩ := h0
  obtain ⟨l0, ⟨A0, c0, hc0, hle0, hC0⟩, hw0⟩ := opn22 (enc := enc) (W := W) m0 _ _ hm0
  simp only [Value.cells, List.cons.injEq, and_true, Value.slice.injEq] at hc0
  obtain ⟨rfl, rfl, rfl⟩ := hc0
  have k1 := h1
  have lt1 : ∀ x ∈ p1, x.block < W.heap.size := by obtain ⟨m, hm⟩ := k1; exact DataW.trod_lt m _ _ _ hm
  obtain ⟨cs1, rfl, _⟩ := okWide_struct Tryd.underlying26 (hval 1 26 v1 rfl rfl)
  obtain ⟨m1, hm1⟩ := h1
  obtain ⟨a1_0, a1_1, a1_2, a1_3, a1_4, a1_5, a1_6, a1_7, a1_8, a1_9, a1_10, a1_11, a1_12, a1_13, a1_14, a1_15, a1_16, a1_17, a1_18, a1_19, a1_20, hcs1, w1_0, w1_1, w1_2, w1_3, w1_4, w1_5, w1_6, w1_7, w1_8, w1_9, w1_10, w1_11, w1_12, w1_13, w1_14, w1_15, w1_16, w1_17, w1_18, w1_19, w1_20⟩ := flat26 m1 _ _ hm1
  obtain rfl : cs1 = #[.int .i64 a1_0, .int .u8 a1_1, .int .u8 a1_2, .int .u8 a1_3, .int .u8 a1_4, .int .u8 a1_5, .int .u8 a1_6, .int .u8 a1_7, .int .u8 a1_8, .int .u8 a1_9, .int .u8 a1_10, .int .u8 a1_11, .int .u8 a1_12, .int .u8 a1_13, .int .u8 a1_14, .int .u8 a1_15, .int .u8 a1_16, .int .u8 a1_17, .int .u8 a1_18, .int .u8 a1_19, .int .u8 a1_20] := by cases cs1; simp only [Value.cells] at hcs1; subst hcs1; rfl
  clear hA0 hval0
  refine (attestorlaw28_MachineLoops.calls _ a0 cap0 l0 a1_0 a1_1 a1_2 a1_3 a1_4 a1_5 a1_6 a1_7 a1_8 a1_9 a1_10 a1_11 a1_12 a1_13 a1_14 a1_15 a1_16 a1_17 a1_18 a1_19 a1_20 true W hC0 hle0 (gl_of_laid hL) (loops_true l0 (fun i hi => wfI_of (hw0 i hi)) ⟨a1_0, a1_1, a1_2, a1_3, a1_4, a1_5, a1_6, a1_7, a1_8, a1_9, a1_10, a1_11, a1_12, a1_13, a1_14, a1_15, a1_16, a1_17, a1_18, a1_19, a1_20⟩ (okS_mk w1_1 w1_2 w1_3 w1_4 w1_5 w1_6 w1_7 w1_8 w1_9 w1_10 w1_11 w1_12 w1_13 w1_14 w1_15 w1_16 w1_17 w1_18 w1_19 w1_20)).choose_spec).mono fun e W' ⟨he, bel⟩ => ?_
  subst he
  exact ⟨_, rfl, _, _, _, [], _, [], hW', trodAll_mk1 (shut_bool Tryd.underlying4 _), (trodAll_cons_mk (Below.trod laidOut (by kernel_rfl) (of_decide_eq_true (by kernel_rfl)) k0 bel lt0) (trodAll_cons_mk (Below.trod laidOut (by kernel_rfl) (of_decide_eq_true (by kernel_rfl)) k1 bel lt1) trodAll_mk0)), rfl, bel.frame _, fun h => by cases h⟩
theorem machineLoops_row : Rows.MachineLoopsSaid :=
  OpenClaim.holds_of_wide 6 Tryd.f6 rfl rfl rfl rfl rfl rfl rfl ⟨rfl, rfl, rfl, rfl, rfl⟩ rfl rfl rfl rfl rfl (by kernel_rfl) Tryd.func6 (by kernel_rfl)
    (of_decide_eq_true (by kernel_rfl)) (by unfold Func.isWrapper; first | (rw [if_pos (by decide +kernel)]; kernel_rfl) | (rw [if_neg (by decide +kernel)]; exact ⟨rfl, rfl⟩))
    (fun os started H enc _ => machineLoops_lifted os started H enc)
theorem machineLoops_card : Rows.MachineLoopsCardSaid :=
  Claim7.holds_tied_plain_at .later [] [.data] true Rows.machineLoopsCard.stood.harness false
    machineLoops_row (fun _ h => by cases h) (by kernel_rfl) (fun _ h => by cases h) machineLoops_row_tie rfl ⟨rfl, rfl⟩ (by kernel_rfl) rfl
    (fun f fn hf hfn => by
      obtain rfl : f = 6 := Option.some.inj ((show Tryd.prog.funcNamed "attestor/attestorlaw28.MachineLoops" = some 6 by kernel_rfl).symm.trans hf) |>.symm
      obtain rfl : fn = Tryd.f6 := (Option.some.inj (Tryd.func6.symm.trans hfn)).symm
      exact ⟨by kernel_rfl, fun j t ht => by
        rw [Tryd.params6] at ht
        have hm : t ∈ [22, 26] := by simpa using Array.mem_of_getElem? ht
        have hall : ([22, 26].all fun u => !Tryd.prog.wantsStandIn u) = true := by kernel_rfl
        exact (show Tryd.prog.wantsStandIn t = false by simpa using List.all_eq_true.1 hall t hm)⟩)
    (by kernel_rfl)
end Go.Proofs.YtgmdpghbkjlnhaaDoor.Q
namespace Go.Proofs.YtgmdpghbkjlnhaaDoor
/-- Under a short name, for the claim. -/
theorem machineLoops_holds : Rows.MachineLoopsCardSaid := Q.machineLoops_card
end Go.Proofs.YtgmdpghbkjlnhaaDoor
#print axioms Go.Proofs.YtgmdpghbkjlnhaaDoor.machineLoops_holds
end
