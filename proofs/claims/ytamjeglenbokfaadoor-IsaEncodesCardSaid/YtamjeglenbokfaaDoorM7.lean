/- Several texts in one, in build order. What they prove, each by its own first remark:
Of EPEnc what this claim needs.
For all arguments attestorlaw26.IsaEncodes returns true and leaves them as they were, where the variables 'fields' and 'uses' hold what the program's text lays (the card ties that): no other condition. -/
import Derived.Test.YtamjeglenbokfaaDoorM2
import Derived.Test.YtamjeglenbokfaaDoorM4
import Derived.Test.YtamjeglenbokfaaDoorM6
import Derived.Test.YtamjeglenbokfaaDoorCards
import Derived.Test.YtamjeglenbokfaaDoorTie
import Derived.SevenTiedAt
import Derived.SizedLaws
import Derived.ShutString
import Derived.ChangeOld
import Derived.ProofKit
import Derived.Below
import Derived.OpenShut
section
namespace Go.Proofs.YtamjeglenbokfaaDoor.Q
open Go.RowKit Go.Proofs.YtamjeglenbokfaaDoorW.PrintWords Go.Proofs.YtamjeglenbokfaaDoorW.PrintLast Go.Proofs.YtamjeglenbokfaaDoorW.PrintMore
open Go.Proofs.YtamjeglenbokfaaDoor.Num
set_option linter.unusedVariables false
set_option linter.unusedSimpArgs false
theorem lives_isa (k : Nat) (hk : 41 ≤ k) : attestorlaw26_lives.f k = some true :=
  at_rounds (fun k => attestorlaw26_lives.mono k) hk (by decide +kernel)
theorem wrb {x : Int} (h0 : 0 ≤ x) (h1 : x ≤ 255) : wrap64 x = x := by unfold wrap64; omega
theorem rvalid1 {i : S37} (h : wfI i) : attestorref26_valid.f i.f0 i.f1 i.f2 i.f3 = some (decide (i.f0 < 9) && (decide (i.f1 ≤ 3) && (decide (i.f2 ≤ 3) && isa_fits.g i.f0 i.f1 i.f2 i.f3))) := by
  obtain ⟨⟨w0, _⟩, ⟨w1, _⟩, ⟨w2, _⟩, ⟨w3, _⟩⟩ := h
  obtain ⟨o, a, b, m⟩ := i
  simp only at *
  unfold attestorref26_valid.f attestorref26_usesB.f attestorref26_usesImm.f isa_fits.g
  by_cases h1 : o ≤ 8
  · rw [if_pos h1, decide_eq_true (by omega : o < 9)]
    by_cases h2 : a ≤ 3
    · rw [if_pos h2]
      by_cases h3 : b ≤ 3
      · rw [if_pos h3]
        by_cases k0 : o = 0 <;> by_cases k1 : o = 1 <;> by_cases k8 : o = 8 <;> by_cases ha : a = 0 <;> by_cases hb : b = 0 <;> by_cases hm : m = 0 <;> first | omega | (by_cases k2 : 2 ≤ o <;> by_cases k7 : o ≤ 7 <;> first | omega | simp [*])
      · rw [if_neg h3]
        simp [h3]
    · rw [if_neg h2]
      simp [h2]
  · rw [if_neg h1, decide_eq_false (by omega)]
    rfl
theorem wrs {m n : Nat} (h : m < n) (hn : n ≤ 60000) : wrap64 ((m : Int) + 1) = ((m + 1 : Nat) : Int) := by unfold wrap64; omega
theorem rdI_mem2 {l : List S37} {m : Nat} (h : m < l.length) : rd_T37 l (m : Int) ∈ l := rdI_mem (by omega) (by omega)
theorem valid_both (l : List S37) (hw : ∀ i ∈ l, wfI i) (hn : l.length ≤ 40) : ∀ (d m k : Nat), l.length - m = d → m ≤ l.length → d < k → ∃ e, isa_Valid.l0 k l l (l.length : Int) (m : Int) = some e ∧ attestorref26_Valid.l0 k l (m : Int) = some e := by
  intro d
  induction d with
  | zero =>
    intro m k hd hm hk
    obtain ⟨k, rfl⟩ : ∃ j, k = j + 1 := ⟨k - 1, by omega⟩
    exact ⟨0, by rw [isa_Valid.l0, if_neg (by omega)], by rw [attestorref26_Valid.l0, if_neg (by omega)]⟩
  | succ d ih =>
    intro m k hd hm hk
    obtain ⟨k, rfl⟩ : ∃ j, k = j + 1 := ⟨k - 1, by omega⟩
    have hm2 : m < l.length := by omega
    have hi := hw _ (rdI_mem2 hm2)
    obtain ⟨e, e1, e2⟩ := ih (m + 1) k (by omega) (by omega) (by omega)
    clear ih
    rw [isa_Valid.l0, attestorref26_Valid.l0, wrs hm2 (by omega), if_pos (by omega), if_pos (by omega), if_pos (by omega), if_pos (by omega), if_pos (by omega), fits_some hi, rvalid1 hi]
    generalize (decide ((rd_T37 l (m : Int)).f0 < 9) && (decide ((rd_T37 l (m : Int)).f1 ≤ 3) && (decide ((rd_T37 l (m : Int)).f2 ≤ 3) && isa_fits.g (rd_T37 l (m : Int)).f0 (rd_T37 l (m : Int)).f1 (rd_T37 l (m : Int)).f2 (rd_T37 l (m : Int)).f3))) = b
    cases b with
    | false => exact ⟨1, rfl, rfl⟩
    | true =>
      have hl := lands_some hi (l.length : Int)
      by_cases h8 : (rd_T37 l (m : Int)).f0 = 8
      · by_cases h9 : (rd_T37 l (m : Int)).f3 ≤ (l.length : Int)
        · refine ⟨e, ?_, ?_⟩
          · refine bnd rfl ((if_pos rfl).trans (bnd hl ((if_pos (decide_eq_true (fun _ => h9))).trans e1)))
          · refine bnd rfl ((if_pos rfl).trans ((if_pos h8).trans ((if_neg ?_).trans e2)))
            rw [wrb hi.2.2.2.1 hi.2.2.2.2]
            omega
        · refine ⟨2, ?_, ?_⟩
          · refine bnd rfl ((if_pos rfl).trans (bnd hl (if_neg (by rw [decide_eq_false (fun q => h9 (q h8))]; decide))))
          · refine bnd rfl ((if_pos rfl).trans ((if_pos h8).trans (if_pos ?_)))
            rw [wrb hi.2.2.2.1 hi.2.2.2.2]
            omega
      · refine ⟨e, ?_, ?_⟩
        · refine bnd rfl ((if_pos rfl).trans (bnd hl ((if_pos (decide_eq_true (fun q => absurd q h8))).trans e1)))
        · exact bnd rfl ((if_pos rfl).trans ((if_neg h8).trans e2))
theorem valid_same (l : List S37) (hw : ∀ i ∈ l, wfI i) (hn : l.length ≤ 40) (k : Nat) (hk : 41 ≤ k) : ∃ e, isa_Valid.f k l = some e ∧ attestorref26_Valid.f k l = some e ∧ (e = 0 ↔ okP l) := by
  obtain ⟨e, hE, hE2⟩ := valid_some l hw hn k hk
  refine ⟨e, hE, ?_, hE2⟩
  unfold isa_Valid.f at hE
  unfold attestorref26_Valid.f
  by_cases h : (l.length : Int) > 32
  · rw [if_pos h] at hE ⊢
    exact hE
  · rw [if_neg h] at hE ⊢
    obtain ⟨e', h1, h2⟩ := valid_both l hw hn l.length 0 k rfl (Nat.zero_le _) (by omega)
    have : some e' = some e := h1.symm.trans hE
    rw [← this]
    exact h2
theorem cut_f (l : List S37) : ∃ L : List S37, attestorlaw26_cut.f l = some L ∧ L.length ≤ 40 ∧ ∀ x ∈ L, x ∈ l := by
  have hm : 0 ≤ mn (l.length : Int) 40 ∧ mn (l.length : Int) 40 ≤ (l.length : Int) ∧ mn (l.length : Int) 40 ≤ 40 := by unfold mn; split <;> omega
  have hT : (l.take (mn (l.length : Int) 40).toNat).length ≤ 40 := by rw [List.length_take]; omega
  refine ⟨l.take (mn (l.length : Int) 40).toNat, ?_, hT, fun x hx => List.mem_of_mem_take hx⟩
  unfold attestorlaw26_cut.f
  rw [if_pos hm.1, if_pos hm.2.1, Option.bind_some, if_pos (by simp only [List.length_nil]; omega)]
  rfl
theorem byte_sum {o a b : Int} (h0 : 0 ≤ o) (h1 : o < 9) (a0 : 0 ≤ a) (a1 : a ≤ 3) (b0 : 0 ≤ b) (b1 : b ≤ 3) : ((((16 * o) % 256) + ((4 * a) % 256)) % 256 + b) % 256 = o * 16 + a * 4 + b := by omega
theorem renc_loop (l : List S37) (hok : ∀ i ∈ l, okI l.length i) (hn : l.length ≤ 32) (d : Nat) : ∀ (k : Nat) (x5 : List Int) (i : Nat), i ≤ l.length → l.length - i = d → d < k → x5.length ≤ 200 - 2 * d →
    attestorref26_Encode.l0 k l x5 i = some (x5 ++ encs (l.drop i), 0) := by
  induction d with
  | zero =>
    intro k x5 i h1 hd hk hx
    obtain ⟨k, rfl⟩ : ∃ m, k = m + 1 := ⟨k - 1, by omega⟩
    rw [attestorref26_Encode.l0, if_neg (by omega), List.drop_eq_nil_of_le (by omega)]
    simp [encs]
  | succ d ih =>
    intro k x5 i h1 hd hk hx
    obtain ⟨k, rfl⟩ : ∃ m, k = m + 1 := ⟨k - 1, by omega⟩
    have hil : i < l.length := by omega
    have hm := hok _ (rdI_mem (l := l) (i := (i : Int)) (by omega) (by omega))
    obtain ⟨⟨⟨w0, _⟩, ⟨w1, _⟩, ⟨w2, _⟩, _⟩, o1, o2, o3, _⟩ := hm
    have next := ih k (x5 ++ [(rd_T37 l i).f0 * 16 + (rd_T37 l i).f1 * 4 + (rd_T37 l i).f2, (rd_T37 l i).f3]) (i + 1) (by omega) (by omega) (by omega) (by simp; omega)
    clear ih
    have hr : rd_T37 l i = l[i] := by unfold rd_T37; rw [Int.toNat_natCast, List.getD_eq_getElem?_getD, List.getElem?_eq_getElem hil]; rfl
    have hx2 : x5.length + 2 < 140737488355328 := by omega
    rw [attestorref26_Encode.l0, if_pos (Int.ofNat_lt.2 hil), if_pos (Int.natCast_nonneg _), byte_sum w0 o1 w1 o2 w2 o3, wrs hil (by omega)]
    refine bnd rfl ((if_pos hx2).trans (next.trans ?_))
    rw [List.drop_eq_getElem_cons hil, hr, show encs (l[i] :: l.drop (i + 1)) = enc1 l[i] ++ encs (l.drop (i + 1)) from List.flatMap_cons, ← List.append_assoc]
    rfl
theorem enc_bytes (l : List S37) (h : ∀ i ∈ l, okI l.length i) (hn : l.length ≤ 32) : ∀ x ∈ enc l, 0 ≤ x ∧ x < 256 := by
  intro x hx
  unfold enc encs at hx
  rcases List.mem_cons.1 hx with rfl | hx
  · omega
  · obtain ⟨i, hi, hxi⟩ := List.mem_flatMap.1 hx
    obtain ⟨⟨⟨w0, _⟩, ⟨w1, _⟩, ⟨w2, _⟩, w3⟩, o1, o2, o3, _⟩ := h i hi
    unfold enc1 at hxi
    simp only [List.mem_cons, List.not_mem_nil, or_false] at hxi
    rcases hxi with rfl | rfl <;> omega
theorem encode_both (l : List S37) (hw : ∀ i ∈ l, wfI i) (hn : l.length ≤ 40) (k : Nat) (hk : 42 ≤ k) : ∃ b e, isa_Encode.f k l = some (b, e) ∧ attestorref26_Encode.f k l = some (b, e) ∧ b.length ≤ 65 ∧ ∀ x ∈ b, 0 ≤ x ∧ x < 256 := by
  obtain ⟨e, h1, h2, h3⟩ := valid_same l hw hn k (by omega)
  by_cases he : e = 0
  · have hP := h3.1 he
    refine ⟨enc l, 0, encode_ok l hP k (by omega), ?_, by rw [enc_length]; have := hP.1; omega, enc_bytes l hP.2 hP.1⟩
    unfold attestorref26_Encode.f
    refine bnd h2 ((if_pos he).trans ?_)
    have := renc_loop l hP.2 hP.1 l.length k [(l.length : Int) % 256] 0 (Nat.zero_le _) rfl (by have := hP.1; omega) (by have := hP.1; simp; omega)
    refine this.trans ?_
    have hm : (l.length : Int) % 256 = (l.length : Int) := by have := hP.1; omega
    rw [hm]
    rfl
  · refine ⟨[], e, ?_, ?_, Nat.zero_le _, fun x hx => absurd hx (by simp)⟩
    · unfold isa_Encode.f
      exact bnd h1 (if_neg he)
    · unfold attestorref26_Encode.f
      exact bnd h2 (if_neg he)
theorem wrapB {x : Int} (h0 : 0 ≤ x) (h1 : x < 256) : IntKind.u64.wrap x = x := by
  have : IntKind.u64.wrap x = x % 18446744073709551616 := by simp [IntKind.wrap, IntKind.bits, IntKind.signed]
  omega
theorem rd_get {b : List Int} {j : Nat} (h : j < b.length) : rd b (j : Int) = b[j] := by
  unfold rd
  rw [Int.toNat_natCast, List.getD_eq_getElem?_getD, List.getElem?_eq_getElem h]
  rfl
theorem dig_l0 (b : List Int) (hb : ∀ x ∈ b, 0 ≤ x ∧ x < 256) (hl : b.length ≤ 65) (K : Nat) : ∀ (d j : Nat), b.length - j = d → j ≤ b.length → isa_Digest.l0 (K + d + 1) (b.take j ++ List.replicate d 0) b (b.length : Int) (j : Int) = (sponge_Hash.f K 3 b).bind fun t => some (t.1, t.2, 0) := by
  intro d
  induction d with
  | zero =>
    intro j hd hj
    have e : j = b.length := by omega
    subst e
    rw [isa_Digest.l0, if_neg (by omega), List.take_length, List.replicate_zero, List.append_nil]
  | succ d ih =>
    intro j hd hj
    have hj2 : j < b.length := by omega
    have next := ih (j + 1) (by omega) (by omega)
    clear ih
    have hx := hb _ (List.getElem_mem hj2)
    have hset : (b.take j ++ List.replicate (d + 1) 0).set j b[j] = b.take (j + 1) ++ List.replicate d 0 := by
      rw [List.set_append_right _ _ (by rw [List.length_take]; omega), List.length_take, show j - min j b.length = 0 by omega, List.replicate_succ, List.set_cons_zero, List.take_add_one, List.getElem?_eq_getElem hj2, List.append_assoc]
      rfl
    have hlen : (b.take j ++ List.replicate (d + 1) 0).length = b.length := by simp; omega
    rw [show K + (d + 1) + 1 = (K + d + 1) + 1 by omega, isa_Digest.l0, if_pos (Int.ofNat_lt.2 hj2), if_pos (Int.natCast_nonneg _), if_pos (Int.ofNat_lt.2 hj2), hlen, if_pos (Int.ofNat_lt.2 hj2), rd_get hj2, wrapB hx.1 hx.2, wrs hj2 (by omega), Int.toNat_natCast, hset]
    exact next
theorem rdig_l0 (b : List Int) (hb : ∀ x ∈ b, 0 ≤ x ∧ x < 256) (hl : b.length ≤ 65) (K : Nat) : ∀ (d j : Nat), b.length - j = d → j ≤ b.length → attestorref26_Digest.l0 (K + d + 1) b (b.take j) (j : Int) = (attestorref06_Hash.f K 3 b).bind fun t => some (t.1, t.2, 0) := by
  intro d
  induction d with
  | zero =>
    intro j hd hj
    have e : j = b.length := by omega
    subst e
    rw [attestorref26_Digest.l0, if_neg (by omega), List.take_length]
  | succ d ih =>
    intro j hd hj
    have hj2 : j < b.length := by omega
    have next := ih (j + 1) (by omega) (by omega)
    clear ih
    have hx := hb _ (List.getElem_mem hj2)
    have hset : b.take j ++ [b[j]] = b.take (j + 1) := by
      rw [List.take_add_one, List.getElem?_eq_getElem hj2]
      rfl
    have hlen : (b.take j).length < 17592186044416 := by rw [List.length_take]; omega
    rw [show K + (d + 1) + 1 = (K + d + 1) + 1 by omega, attestorref26_Digest.l0, if_pos (Int.ofNat_lt.2 hj2), if_pos (Int.natCast_nonneg _), if_pos hlen, rd_get hj2, wrapB hx.1 hx.2, wrs hj2 (by omega), hset]
    exact next
theorem digest_both (l : List S37) (hw : ∀ i ∈ l, wfI i) (hn : l.length ≤ 40) (k : Nat) (hk : 1000 ≤ k) : ∃ x y e : Int, isa_Digest.f k l = some (x, y, e) ∧ attestorref26_Digest.f k l = some (x, y, e) := by
  obtain ⟨b, e, h1, h2, h3, h4⟩ := encode_both l hw hn k (by omega)
  by_cases he : e = 0
  · obtain ⟨L, hL⟩ := ints_nat b (fun x hx => (h4 x hx).1)
    have hLl : L.length = b.length := by rw [hL, I_len]
    obtain ⟨K, hK⟩ : ∃ K, k = K + b.length + 1 := ⟨k - b.length - 1, by omega⟩
    obtain ⟨x, y, g1, g2⟩ := hash_both 3 L (by omega) K (by omega)
    rw [← hL] at g1 g2
    refine ⟨x, y, 0, ?_, ?_⟩
    · unfold isa_Digest.f
      refine bnd h1 ((if_pos he).trans ((if_pos (Int.natCast_nonneg _)).trans ((if_pos (by rw [Int.toNat_natCast]; show b.length ≤ 35184372088832; omega)).trans ?_)))
      have := dig_l0 b h4 h3 K b.length 0 rfl (Nat.zero_le _)
      rw [List.take_zero, List.nil_append, ← hK] at this
      refine this.trans ?_
      exact bnd g1 rfl
    · unfold attestorref26_Digest.f
      refine bnd h2 ((if_pos he).trans ?_)
      have := rdig_l0 b h4 h3 K b.length 0 rfl (Nat.zero_le _)
      rw [List.take_zero, ← hK] at this
      refine this.trans ?_
      exact bnd g2 rfl
  · refine ⟨0, 0, e, ?_, ?_⟩
    · unfold isa_Digest.f
      exact bnd h1 (if_neg he)
    · unfold attestorref26_Digest.f
      exact bnd h2 (if_neg he)
theorem encodes_true (l : List S37) (hw : ∀ i ∈ l, wfI i) : ∃ k, attestorlaw26_IsaEncodes.f k l = some true := by
  obtain ⟨L, hL, hn, hm⟩ := cut_f l
  have hwL : ∀ i ∈ L, wfI i := fun i hi => hw i (hm i hi)
  obtain ⟨b, e, h1, h2, _, _⟩ := encode_both L hwL hn 1000 (by omega)
  obtain ⟨x, y, q, g1, g2⟩ := digest_both L hwL hn 1000 (by omega)
  refine ⟨1000, ?_⟩
  unfold attestorlaw26_IsaEncodes.f
  refine bnd hL (bnd h1 (bnd h2 (bnd g1 (bnd g2 ((if_pos rfl).trans ((if_pos rfl).trans ((if_pos ?_).trans ((if_pos rfl).trans ?_))))))))
  · simp only [beq_self_eq_true, Bool.and_self]
  · exact bnd (lives_isa 1000 (by omega)) rfl
end Go.Proofs.YtamjeglenbokfaaDoor.Q
end
section
namespace Go.Proofs.YtamjeglenbokfaaDoor.Q
open Go.ChangeShapes Go.WideShapes Go.ChangeAt Go.WideMaps Go.WideElems Go.RowKit
open Go.Proofs.YtamjeglenbokfaaDoorW.PrintWords Go.Proofs.YtamjeglenbokfaaDoorW.PrintLast Go.Proofs.YtamjeglenbokfaaDoorW.PrintMore
open Go.Proofs.YtamjeglenbokfaaDoor.Opn
set_option linter.unusedVariables false

set_option maxRecDepth 100000 in
theorem isaEncodes_lifted (os : Os) (started : os.Started) (H : Type) (enc : TypeId × Value → H) :
    ReturnsInHanded {} Tryd.checked os 9 .any (fun w args => (Rows.isaEncodesSpec.pre enc Tryd.prog Tryd.f9 [] false w args ∧ laidMetH Tryd.prog laid1 w) ∧ sizedMet enc Tryd.prog Tryd.f9 (OpenSpec.ofChange Rows.isaEncodesSpec) false w args)
      (Rows.isaEncodesSpec.post enc Tryd.prog Tryd.f9 false true false false) := by
  refine returnsInHanded_of_change_and (C := Tryd.checked) (X := (fun w _ => laidMetH Tryd.prog laid1 w)) (fun _ _ _ hh h => h.of_heap hh) own started (by kernel_rfl) Tryd.func9
    (ChangeSpec.witness_shaped (enc := enc) (C := Tryd.checked) (os := os) (X := (fun w _ => laidMetH Tryd.prog laid1 w)) false (World.doorLaid Tryd.prog 400 os) #[.slice none 0 0] 8 rfl (World.shaped_of_RefB (by kernel_rfl) (by kernel_rfl)) (by kernel_rfl) (by kernel_rfl) (by kernel_rfl) (door_met os _)) ?_
  intro W base args ds gs before hval0 hW _ _ hL _
  have hval : ∀ (j : Nat) t v, Tryd.f9.params[j]? = some t → args[j]? = some v → Value.okWide Tryd.prog W .any base t v := hval0
  have hW' := hW
  obtain ⟨p, q, hA0, hV, rfl, hfz, hnd⟩ := hW
  have hA : DataW.TrodAll enc Tryd.prog W 0 (fun _ => true) true Tryd.f9.params.toList args.toList ds p := hA0
  rw [Tryd.params9] at hA hval
  obtain ⟨v0, vs0, d0, ds0, p0, q0, hargs, rfl, rfl, h0, r0⟩ := trodAll_cons hA
  obtain ⟨rfl, rfl, rfl⟩ := trodAll_nil r0
  obtain rfl : args = #[v0] := by cases args; simp_all
  obtain ⟨rfl, rfl⟩ := trodVars_none hV
  obtain ⟨a0, len0, cap0, rfl⟩ := okWide_slice Tryd.underlying23 (hval 0 23 v0 rfl rfl)
  have k0 := h0
  have lt0 : ∀ x ∈ p0, x.block < W.heap.size := by obtain ⟨m, hm⟩ := k0; exact DataW.trod_lt m _ _ _ hm
  obtain ⟨m0, hm0⟩ := h0
  obtain ⟨l0, ⟨A0, c0, hc0, hle0, hC0⟩, hw0⟩ := opn23 (enc := enc) (W := W) m0 _ _ hm0
  simp only [Value.cells, List.cons.injEq, and_true, Value.slice.injEq] at hc0
  obtain ⟨rfl, rfl, rfl⟩ := hc0
  clear hA0 hval0
  refine (attestorlaw26_IsaEncodes.calls _ a0 cap0 l0 true W hC0 hle0 (gl_of_laid hL) (encodes_true l0 (fun i hi => wfI_of (hw0 i hi))).choose_spec).mono fun e W' ⟨he, bel⟩ => ?_
  subst he
  exact ⟨_, rfl, _, _, _, [], _, [], hW', trodAll_mk1 (shut_bool Tryd.underlying4 _), (trodAll_cons_mk (Below.trod laidOut (by kernel_rfl) (of_decide_eq_true (by kernel_rfl)) k0 bel lt0) trodAll_mk0), rfl, bel.frame _, fun h => by cases h⟩
theorem isaEncodes_row : Rows.IsaEncodesSaid :=
  OpenClaim.holds_of_wide 9 Tryd.f9 rfl rfl rfl rfl rfl rfl rfl ⟨rfl, rfl, rfl, rfl, rfl⟩ rfl rfl rfl rfl rfl (by kernel_rfl) Tryd.func9 (by kernel_rfl)
    (of_decide_eq_true (by kernel_rfl)) (by unfold Func.isWrapper; first | (rw [if_pos (by decide +kernel)]; kernel_rfl) | (rw [if_neg (by decide +kernel)]; exact ⟨rfl, rfl⟩))
    (fun os started H enc _ => isaEncodes_lifted os started H enc)
theorem isaEncodes_card : Rows.IsaEncodesCardSaid :=
  Claim7.holds_tied_plain_at .later [] [.widerDeep, .data] true Rows.isaEncodesCard.stood.harness false
    isaEncodes_row (fun _ h => by cases h) (by kernel_rfl) (fun _ h => by cases h) isaEncodes_row_tie rfl ⟨rfl, rfl⟩ (by kernel_rfl) rfl
    (fun f fn hf hfn => by
      obtain rfl : f = 9 := Option.some.inj ((show Tryd.prog.funcNamed "attestor/attestorlaw26.IsaEncodes" = some 9 by kernel_rfl).symm.trans hf) |>.symm
      obtain rfl : fn = Tryd.f9 := (Option.some.inj (Tryd.func9.symm.trans hfn)).symm
      exact ⟨by kernel_rfl, fun j t ht => by
        rw [Tryd.params9] at ht
        have hm : t ∈ [23] := by simpa using Array.mem_of_getElem? ht
        have hall : ([23].all fun u => !Tryd.prog.wantsStandIn u) = true := by kernel_rfl
        exact (show Tryd.prog.wantsStandIn t = false by simpa using List.all_eq_true.1 hall t hm)⟩)
    (by kernel_rfl)
end Go.Proofs.YtamjeglenbokfaaDoor.Q
namespace Go.Proofs.YtamjeglenbokfaaDoor
/-- Under a short name, for the claim. -/
theorem isaEncodes_holds : Rows.IsaEncodesCardSaid := Q.isaEncodes_card
end Go.Proofs.YtamjeglenbokfaaDoor
#print axioms Go.Proofs.YtamjeglenbokfaaDoor.isaEncodes_holds
end
