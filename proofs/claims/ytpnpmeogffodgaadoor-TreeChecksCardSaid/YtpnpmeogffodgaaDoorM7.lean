/- Several texts in one, in build order. What they prove, each by its own first remark:
Of PChecks what this claim needs.
For all arguments attestorlaw07.TreeChecks returns true and leaves them as they were, where the package-level variables hold what the program's text lays (the card ties that): no other condition. -/
import Derived.Test.YtpnpmeogffodgaaDoorM6
import Derived.Test.YtpnpmeogffodgaaDoorM3
import Derived.Test.YtpnpmeogffodgaaDoorM5
import Derived.Test.YtpnpmeogffodgaaDoorM2
import Derived.Test.YtpnpmeogffodgaaDoorCards
import Derived.Test.YtpnpmeogffodgaaDoorTie
import Derived.SevenTiedAt
import Derived.SizedLaws
import Derived.ShutString
import Derived.ChangeOld
import Derived.ProofKit
import Derived.Below
import Derived.OpenShut
section
namespace Go.Proofs.YtpnpmeogffodgaaDoor.Q
open Go.RowKit Go.Proofs.YtpnpmeogffodgaaDoorW.PrintWords Go.Proofs.YtpnpmeogffodgaaDoorW.PrintLast Go.Proofs.YtpnpmeogffodgaaDoorW.PrintMore
open Go.Proofs.YtpnpmeogffodgaaDoor.Num
set_option linter.unusedVariables false
set_option linter.unusedSimpArgs false
theorem valid_f (f : Int) : field_Valid.f f = some (decide (0 ≤ f ∧ f < 4)) := by
  by_cases h : 0 ≤ f ∧ f < 4
  · obtain ⟨p, g, e, D⟩ := fd_of h.1 h.2
    rw [valid_yes D.F, decide_eq_true h]
  · rw [valid_no h, decide_eq_false h]
theorem rvalid_f (f : Int) : attestorref01_Valid.f f = some (decide (0 ≤ f ∧ f < 4)) := by
  by_cases h : 0 ≤ f ∧ f < 4
  · obtain ⟨p, g, e, D⟩ := fd_of h.1 h.2
    rw [rvalid_yes D.F, decide_eq_true h]
  · rw [rvalid_no h, decide_eq_false h]
def OpD (f i a b : Int) (l : List S36) : Prop := (0 ≤ f ∧ f < 4) ∧ 0 ≤ i ∧ l.length ≤ 18 ∧ okD (fp f) ⟨a, b⟩ = true ∧ l.all (okD (fp f)) = true
instance (f i a b : Int) (l : List S36) : Decidable (OpD f i a b l) := by unfold OpD; infer_instance
theorem opens_f (f i a b : Int) (l : List S36) : tree_opens.f f i a b l = some (decide (OpD f i a b l)) := by
  unfold tree_opens.f
  rw [valid_f, Option.bind_some]
  by_cases h1 : 0 ≤ f ∧ f < 4
  · rw [decide_eq_true h1, if_pos rfl]
    by_cases h2 : 0 ≤ i
    · rw [if_pos h2]
      by_cases h3 : l.length ≤ 18
      · rw [if_pos (by omega), proper_f, Option.bind_some]
        by_cases h4 : okD (fp f) ⟨a, b⟩ = true
        · rw [if_pos (by simp [h4]), proper_f, Option.bind_some]
          cases h5 : l.all (okD (fp f)) <;> simp [OpD, h1, h2, h3, h4, h5]
        · rw [if_neg (by simp [h4])]
          simp [OpD, h4]
      · rw [if_neg (by omega)]
        simp [OpD, h3]
    · rw [if_neg h2]
      simp [OpD, h2]
  · rw [decide_eq_false h1, if_neg (by decide)]
    simp only [OpD, h1, false_and, decide_false]
theorem climb_j0 (f i a b : Int) (l : List S36) (k : Nat) (hk : 1100 ≤ k) (hl : l.length ≤ 1000) : attestorref07_Climb.f k f i a b l = if OpD f i a b l then attestorref07_Climb.l0 (k - 1) f i l 0 a b else some (0, 0) := by
  obtain ⟨k, rfl⟩ : ∃ m, k = m + 1 := ⟨k - 1, by omega⟩
  have jt : attestorref07_Climb.j0 (k + 1) f i l true a b = some (0, 0) := by rw [attestorref07_Climb.j0, if_pos rfl]
  have jf : attestorref07_Climb.j0 (k + 1) f i l false a b = attestorref07_Climb.l0 k f i l 0 a b := by rw [attestorref07_Climb.j0, if_neg (by decide)]
  unfold attestorref07_Climb.f
  rw [rvalid_f, Option.bind_some]
  by_cases h1 : 0 ≤ f ∧ f < 4
  · rw [decide_eq_true h1, if_pos rfl]
    by_cases h2 : i < 0
    · rw [if_pos h2, jt, if_neg (fun h => by have := h.2.1; omega)]
    · rw [if_neg h2]
      by_cases h3 : l.length ≤ 18
      · rw [if_neg (by omega), Proper_f, Option.bind_some]
        by_cases h4 : okD (fp f) ⟨a, b⟩ = true
        · rw [if_pos h4, All_f f l (k + 1) (by omega) (by omega), Option.bind_some]
          cases h5 : l.all (okD (fp f))
          · rw [Bool.not_false, jt, if_neg (fun h => by have := h.2.2.2.2; rw [h5] at this; cases this)]
          · rw [Bool.not_true, jf, if_pos ⟨h1, by omega, h3, h4, h5⟩]
            rfl
        · rw [if_neg h4, jt, if_neg (fun h => h4 h.2.2.2.1)]
      · rw [if_pos (by omega), jt, if_neg (fun h => h3 h.2.2.1)]
  · rw [decide_eq_false h1, if_neg (by decide), jt, if_neg (fun h => h1 h.1)]
theorem climb_open {f i a b : Int} {l : List S36} (ho : OpD f i a b l) (ha : 0 ≤ a) (hb : 0 ≤ b) (hl : ∀ d ∈ l, nnD d) (hi : i < 9223372036854775808) : ∃ y0 y1 : Nat, tree_climb.f f i a b l = some ((y0 : Int), (y1 : Int)) ∧ ∀ k, 1100 ≤ k → attestorref07_Climb.f k f i a b l = some ((y0 : Int), (y1 : Int)) := by
  obtain ⟨a', rfl⟩ := Int.eq_ofNat_of_zero_le ha
  obtain ⟨b', rfl⟩ := Int.eq_ofNat_of_zero_le hb
  obtain ⟨y0, y1, hy, hr⟩ := climb_both ho.1 l hl i ho.2.1 hi a' b'
  have h18 := ho.2.2.1
  refine ⟨y0, y1, hy, fun k hk => ?_⟩
  rw [climb_j0 f i _ _ l k hk (by omega), if_pos ho]
  exact hr l 0 (k - 1) rfl (by omega) (by omega) (by omega)
theorem Climb_both (f i a b : Int) (l : List S36) (ha : 0 ≤ a) (hb : 0 ≤ b) (hl : ∀ d ∈ l, nnD d) (hi : i < 9223372036854775808) (hll : l.length ≤ 1000) : ∃ y0 y1 : Nat, tree_Climb.f f i a b l = some ((y0 : Int), (y1 : Int)) ∧ ∀ k, 1100 ≤ k → attestorref07_Climb.f k f i a b l = some ((y0 : Int), (y1 : Int)) := by
  unfold tree_Climb.f
  rw [opens_f, Option.bind_some]
  by_cases ho : OpD f i a b l
  · obtain ⟨y0, y1, hy, hr⟩ := climb_open ho ha hb hl hi
    exact ⟨y0, y1, by rw [decide_eq_true ho, if_pos rfl, hy, Option.bind_some], hr⟩
  · exact ⟨0, 0, by rw [decide_eq_false ho, if_neg (by decide)]; rfl, fun k hk => by rw [climb_j0 f i a b l k hk hll, if_neg ho]; rfl⟩
theorem shl_pow : ∀ j : Fin 40, shl .i64 1 ((j : Nat) : Int) = ((2 ^ (j : Nat) : Nat) : Int) := by decide +kernel
theorem shl_of (d : Nat) (h : d < 40) : shl .i64 1 (d : Int) = ((2 ^ d : Nat) : Int) := shl_pow ⟨d, h⟩
theorem shr_of (i : Int) (d : Nat) (h : d < 40) : shr .i64 i (d : Int) = i / ((2 ^ d : Nat) : Int) := by
  show i / 2 ^ min ((d : Int).toNat) 64 = _
  rw [Int.toNat_natCast, Nat.min_eq_left (by omega)]
  simp
theorem Check_both (f i a b : Int) (cap l : List S36) (ha : 0 ≤ a) (hb : 0 ≤ b) (hl : ∀ d ∈ l, nnD d) (hi : i < 9223372036854775808) (hll : l.length ≤ 39) (hc : cap.length ≤ 1000) : ∃ r : Bool, tree_Check.f f cap i a b l = some r ∧ ∀ k, 1100 ≤ k → attestorref07_Check.f k f cap i a b l = some r := by
  have hLog : ∀ k, 1100 ≤ k → attestorref07_Log.f k (cap.length : Int) = some (lgI (cap.length : Int)) := fun k hk => Log_f _ k (by omega)
  have w0 : ∀ c : Int, -1 ≤ c → c ≤ 18 → wrap64 (c + (l.length : Int)) = c + (l.length : Int) := fun c h0 h1 => by unfold wrap64; omega
  have hge : -1 ≤ lgI (cap.length : Int) := by
    by_cases h : 0 ≤ lgI (cap.length : Int)
    · omega
    · by_cases hp : ∃ k : Nat, k < 19 ∧ (cap.length : Int) = ((2 ^ k : Nat) : Int)
      · obtain ⟨k, hk, e⟩ := hp
        exact absurd ((keys ⟨k, hk⟩).2.2.2) (by rw [← e]; intro h2; omega)
      · have := lgI_none (cap.length : Int) fun k hk e => hp ⟨k, hk, e⟩; omega
  have hle : lgI (cap.length : Int) ≤ 18 := by
    by_cases h : 0 ≤ lgI (cap.length : Int)
    · obtain ⟨c, h1, h2, _⟩ := lgI_pow _ h; omega
    · omega
  have hw := w0 _ hge hle
  -- the layer
  have HL : ∀ c, lgI (cap.length : Int) = c → tree_Check.f f cap i a b l = if c < 0 then some false else if OpD f i a b l then (if cap.all (okD (fp f)) = true then (if c + (l.length : Int) > 18 then some false else if (shr .i64 i (l.length : Int)) ≥ (cap.length : Int) then some false else ((tree_climb.f f i a b l).bind fun y => (if 0 ≤ (shr .i64 i (l.length : Int)) then (if (shr .i64 i (l.length : Int)) < (cap.length : Int) then (some (y.1 == ((rd_T36 cap (shr .i64 i (l.length : Int))).f0) && (y.2 == ((rd_T36 cap (shr .i64 i (l.length : Int))).f1)))) else none) else none))) else some false) else some false := by
    intro c e
    unfold tree_Check.f
    rw [height_f, Option.bind_some, opens_f, Option.bind_some, proper_f, Option.bind_some, hw, e]
    by_cases h1 : c < 0
    · rw [if_pos h1, if_pos h1]
    · rw [if_neg h1, if_neg h1]
      by_cases ho : OpD f i a b l
      · rw [decide_eq_true ho, if_pos rfl, if_pos ho]
      · rw [decide_eq_false ho, if_neg (by decide), if_neg ho]
  by_cases h0 : lgI (cap.length : Int) < 0
  · refine ⟨false, by rw [HL _ rfl, if_pos h0], fun k hk => ?_⟩
    unfold attestorref07_Check.f
    rw [hLog k hk, Option.bind_some, rvalid_f, Option.bind_some, if_pos h0, ite_self]
  obtain ⟨c, hc1, hc2, hc3⟩ := lgI_pow _ (Int.not_lt.mp h0)
  rw [hc2] at hw
  have HR : ∀ k, 1100 ≤ k → attestorref07_Check.f k f cap i a b l = if 0 ≤ f ∧ f < 4 then (if ((c + l.length : Nat) : Int) > 18 then some false else if i < 0 then some false else if i ≥ ((2 ^ (c + l.length) : Nat) : Int) then some false else if cap.all (okD (fp f)) = true then (if okD (fp f) ⟨a, b⟩ = true then (if l.all (okD (fp f)) = true then ((attestorref07_Climb.f k f i a b l).bind fun y => (if 0 ≤ i / ((2 ^ l.length : Nat) : Int) then (if i / ((2 ^ l.length : Nat) : Int) < (cap.length : Int) then (some (y.1 == ((rd_T36 cap (i / ((2 ^ l.length : Nat) : Int))).f0) && (y.2 == ((rd_T36 cap (i / ((2 ^ l.length : Nat) : Int))).f1)))) else none) else none)) else some false) else some false) else some false) else some false := by
    intro k hk
    unfold attestorref07_Check.f
    rw [hLog k hk, Option.bind_some, rvalid_f, Option.bind_some, hc2, All_f f cap k (by omega) (by omega), Option.bind_some, Proper_f, Option.bind_some, All_f f l k (by omega) (by omega), Option.bind_some, hw, show (c : Int) + (l.length : Int) = ((c + l.length : Nat) : Int) by omega]
    by_cases h1 : 0 ≤ f ∧ f < 4
    · rw [decide_eq_true h1, if_pos rfl, if_pos h1, if_neg (show ¬ ((c : Int) < 0) by omega)]
      by_cases h2 : ((c + l.length : Nat) : Int) > 18
      · rw [if_pos h2, if_pos h2]
      · rw [if_neg h2, if_neg h2]
        by_cases h3 : i < 0
        · rw [if_pos h3, if_pos h3]
        · have hp := Nat.pow_pos (n := l.length) (show 0 < 2 by decide)
          have hq : 2 ^ l.length ≤ 2 ^ 39 := Nat.pow_le_pow_right (by decide) hll
          rw [if_neg h3, if_neg h3, if_pos (by omega), shl_of (c + l.length) (by omega), shl_of l.length (by omega)]
          have hq2 : wrap64 (Int.tdiv i ((2 ^ l.length : Nat) : Int)) = i / ((2 ^ l.length : Nat) : Int) := by
            rw [Int.tdiv_eq_ediv_of_nonneg (by omega)]
            have h5 : 0 ≤ i / ((2 ^ l.length : Nat) : Int) := Int.ediv_nonneg (by omega) (by omega)
            have h6 : i / ((2 ^ l.length : Nat) : Int) ≤ i := Int.ediv_le_self _ (by omega)
            unfold wrap64
            omega
          have hz : (((2 ^ l.length : Nat) : Int) = 0) = False := eq_false (by omega)
          simp only [hq2, hz, if_false]
    · rw [decide_eq_false h1, if_neg (by decide), if_neg h1]
  have hp := Nat.pow_pos (n := l.length) (show 0 < 2 by decide)
  have hmul : (2 : Nat) ^ (c + l.length) = 2 ^ c * 2 ^ l.length := Nat.pow_add 2 c l.length
  by_cases ho : OpD f i a b l
  · obtain ⟨o1, o2, o3, o4, o5⟩ := ho
    by_cases hcap : cap.all (okD (fp f)) = true
    · by_cases h18 : c + l.length ≤ 18
      · have key : i / ((2 ^ l.length : Nat) : Int) ≥ (cap.length : Int) ↔ i ≥ ((2 ^ (c + l.length) : Nat) : Int) := by
          rw [hc3, hmul]
          constructor
          · intro h
            have := (Int.le_ediv_iff_mul_le (by omega : (0 : Int) < ((2 ^ l.length : Nat) : Int))).mp h
            push_cast at this ⊢
            exact this
          · intro h
            refine (Int.le_ediv_iff_mul_le (by omega : (0 : Int) < ((2 ^ l.length : Nat) : Int))).mpr ?_
            push_cast at h ⊢
            exact h
        obtain ⟨y0, y1, hy, hr⟩ := climb_open ⟨o1, o2, o3, o4, o5⟩ ha hb hl hi
        by_cases hb2 : i / ((2 ^ l.length : Nat) : Int) ≥ (cap.length : Int)
        · refine ⟨false, ?_, fun k hk => ?_⟩
          · rw [HL _ hc2, if_neg (by omega), if_pos ⟨o1, o2, o3, o4, o5⟩, if_pos hcap, if_neg (by omega), shr_of i l.length (by omega), if_pos hb2]
          · rw [HR k hk, if_pos o1, if_neg (by omega), if_neg (by omega), if_pos (key.mp hb2)]
        · have h5 : 0 ≤ i / ((2 ^ l.length : Nat) : Int) := Int.ediv_nonneg (by omega) (by omega)
          refine ⟨((y0 : Int) == (rd_T36 cap (i / ((2 ^ l.length : Nat) : Int))).f0 && (y1 : Int) == (rd_T36 cap (i / ((2 ^ l.length : Nat) : Int))).f1), ?_, fun k hk => ?_⟩
          · rw [HL _ hc2, if_neg (by omega), if_pos ⟨o1, o2, o3, o4, o5⟩, if_pos hcap, if_neg (by omega), shr_of i l.length (by omega), if_neg hb2, hy, Option.bind_some, if_pos h5, if_pos (by omega)]
          · rw [HR k hk, if_pos o1, if_neg (by omega), if_neg (by omega), if_neg (fun h => hb2 (key.mpr h)), if_pos hcap, if_pos o4, if_pos o5, hr k hk, Option.bind_some, if_pos h5, if_pos (by omega)]
      · refine ⟨false, ?_, fun k hk => ?_⟩
        · rw [HL _ hc2, if_neg (by omega), if_pos ⟨o1, o2, o3, o4, o5⟩, if_pos hcap, if_pos (by omega)]
        · rw [HR k hk, if_pos o1, if_pos (by omega)]
    · refine ⟨false, ?_, fun k hk => ?_⟩
      · rw [HL _ hc2, if_neg (by omega), if_pos ⟨o1, o2, o3, o4, o5⟩, if_neg hcap]
      · rw [HR k hk, if_pos o1, if_neg hcap, ite_self, ite_self, ite_self]
  · refine ⟨false, ?_, fun k hk => ?_⟩
    · rw [HL _ hc2, if_neg (by omega), if_neg ho]
    · rw [HR k hk]
      by_cases h1 : 0 ≤ f ∧ f < 4
      · rw [if_pos h1]
        by_cases h2 : ((c + l.length : Nat) : Int) > 18
        · rw [if_pos h2]
        · rw [if_neg h2]
          by_cases h3 : i < 0
          · rw [if_pos h3]
          · rw [if_neg h3]
            have : ¬ (okD (fp f) ⟨a, b⟩ = true ∧ l.all (okD (fp f)) = true) := fun h => ho ⟨h1, by omega, by omega, h.1, h.2⟩
            by_cases h4 : okD (fp f) ⟨a, b⟩ = true
            · rw [if_pos h4, if_neg (fun h => this ⟨h4, h⟩), ite_self, ite_self]
            · rw [if_neg h4, ite_self, ite_self]
      · rw [if_neg h1]
theorem checks_true (f : Int) (cap : List S36) (i a b : Int) (path : List S36) (ha : 0 ≤ a) (hb : 0 ≤ b) (hl : ∀ d ∈ path, nnD d) (hi : i < 9223372036854775808) : attestorlaw07_TreeChecks.f 1200 f cap i a b path = some true := by
  have hl2 : ∀ d ∈ path.take 20, nnD d := fun d hd => hl d (List.mem_of_mem_take hd)
  have h20 : (path.take 20).length ≤ 20 := List.length_take_le ..
  have h70 : (cap.take 70).length ≤ 70 := List.length_take_le ..
  obtain ⟨y0, y1, hy, hr⟩ := Climb_both f i a b (path.take 20) ha hb hl2 hi (by omega)
  obtain ⟨r, hc, hcr⟩ := Check_both f i a b (cap.take 70) (path.take 20) ha hb hl2 hi (by omega) (by omega)
  obtain ⟨r2, hc2, hcr2⟩ := Check_both f i a b [(⟨(y0 : Int), (y1 : Int)⟩ : S36)] (path.take 20) ha hb hl2 hi (by omega) (by simp)
  unfold attestorlaw07_TreeChecks.f
  refine bnd (cut_f cap 70 (by omega)) (bnd (cut_f path 20 (by omega)) (bnd hy (bnd (hr 1200 (by omega)) ?_)))
  rw [if_neg (by simp)]
  refine bnd hc (bnd (hcr 1200 (by omega)) ?_)
  rw [show (r != r) = false by cases r <;> rfl]
  show attestorlaw07_TreeChecks.j0 (1199 + 1) f i (path.take 20) false a b = some true
  rw [attestorlaw07_TreeChecks.j0, if_neg (by decide)]
  refine bnd (hr 1199 (by omega)) (bnd rfl (bnd hc2 (bnd (hcr2 1199 (by omega)) ?_)))
  rw [if_pos (by simp)]
  exact bnd (lives_true 1199 (by omega)) rfl
end Go.Proofs.YtpnpmeogffodgaaDoor.Q
end
section
namespace Go.Proofs.YtpnpmeogffodgaaDoor.Q
open Go.ChangeShapes Go.WideShapes Go.ChangeAt Go.WideMaps Go.WideElems Go.RowKit
open Go.Proofs.YtpnpmeogffodgaaDoorW.PrintWords Go.Proofs.YtpnpmeogffodgaaDoorW.PrintLast Go.Proofs.YtpnpmeogffodgaaDoorW.PrintMore
open Go.Proofs.YtpnpmeogffodgaaDoor.Opn
set_option linter.unusedVariables false

theorem okWide_array_ {P : Program} {w : World} {r : Reach} {base : Nat} {t : TypeId} {v : Value} {n : Nat} {e : TypeId} (ht : P.underlying t = some (.array n e)) (h : Value.okWide P w r base t v) : ∃ cs, v = .agg cs ∧ cs.size = P.cellsOf t := by
  simp only [Value.okWide, ht] at h
  obtain ⟨cs, h1, h2, _⟩ := h
  exact ⟨cs, h1, h2⟩
set_option maxRecDepth 100000 in
theorem treeChecks_lifted (os : Os) (started : os.Started) (H : Type) (enc : TypeId × Value → H) :
    ReturnsInHanded {} Tryd.checked os 5 .any (fun w args => (Rows.treeChecksSpec.pre enc Tryd.prog Tryd.f5 [] false w args ∧ laidMetH Tryd.prog laid1 w) ∧ sizedMet enc Tryd.prog Tryd.f5 (OpenSpec.ofChange Rows.treeChecksSpec) false w args)
      (Rows.treeChecksSpec.post enc Tryd.prog Tryd.f5 false true false false) := by
  refine returnsInHanded_of_change_and (C := Tryd.checked) (X := (fun w _ => laidMetH Tryd.prog laid1 w)) (fun _ _ _ hh h => h.of_heap hh) own started (by kernel_rfl) Tryd.func5
    (ChangeSpec.witness_shaped (enc := enc) (C := Tryd.checked) (os := os) (X := (fun w _ => laidMetH Tryd.prog laid1 w)) false (World.doorLaid Tryd.prog 400 os) #[.int .i64 0, .slice none 0 0, .int .i64 0, .agg #[.int .u64 0, .int .u64 0], .slice none 0 0] 8 rfl (World.shaped_of_RefB (by kernel_rfl) (by kernel_rfl)) (by kernel_rfl) (by kernel_rfl) (by kernel_rfl) (door_met os _)) ?_
  intro W base args ds gs before hval0 hW _ _ hL _
  have hval : ∀ (j : Nat) t v, Tryd.f5.params[j]? = some t → args[j]? = some v → Value.okWide Tryd.prog W .any base t v := hval0
  have hW' := hW
  obtain ⟨p, q, hA0, hV, rfl, hfz, hnd⟩ := hW
  have hA : DataW.TrodAll enc Tryd.prog W 0 (fun _ => true) true Tryd.f5.params.toList args.toList ds p := hA0
  rw [Tryd.params5] at hA hval
  obtain ⟨v0, vs0, d0, ds0, p0, q0, hargs, rfl, rfl, h0, r0⟩ := trodAll_cons hA
  obtain ⟨v1, vs1, d1, ds1, p1, q1, rfl, rfl, rfl, h1, r1⟩ := trodAll_cons r0
  obtain ⟨v2, vs2, d2, ds2, p2, q2, rfl, rfl, rfl, h2, r2⟩ := trodAll_cons r1
  obtain ⟨v3, vs3, d3, ds3, p3, q3, rfl, rfl, rfl, h3, r3⟩ := trodAll_cons r2
  obtain ⟨v4, vs4, d4, ds4, p4, q4, rfl, rfl, rfl, h4, r4⟩ := trodAll_cons r3
  obtain ⟨rfl, rfl, rfl⟩ := trodAll_nil r4
  obtain rfl : args = #[v0, v1, v2, v3, v4] := by cases args; simp_all
  obtain ⟨rfl, rfl⟩ := trodVars_none hV
  obtain ⟨a0, rfl, rfl, rfl, w0⟩ := open_int Tryd.underlying3 (hval 0 3 v0 rfl rfl) h0
  obtain ⟨a1, len1, cap1, rfl⟩ := okWide_slice Tryd.underlying22 (hval 1 22 v1 rfl rfl)
  have k1 := h1
  have lt1 : ∀ x ∈ p1, x.block < W.heap.size := by obtain ⟨m, hm⟩ := k1; exact DataW.trod_lt m _ _ _ hm
  obtain ⟨m1, hm1⟩ := h1
  obtain ⟨l1, ⟨A1, c1, hc1, hle1, hC1⟩, hw1⟩ := opn22 (enc := enc) (W := W) m1 _ _ hm1
  simp only [Value.cells, List.cons.injEq, and_true, Value.slice.injEq] at hc1
  obtain ⟨rfl, rfl, rfl⟩ := hc1
  obtain ⟨a2, rfl, rfl, rfl, w2⟩ := open_int Tryd.underlying3 (hval 2 3 v2 rfl rfl) h2
  have k3 := h3
  have lt3 : ∀ x ∈ p3, x.block < W.heap.size := by obtain ⟨m, hm⟩ := k3; exact DataW.trod_lt m _ _ _ hm
  obtain ⟨cs3, rfl, _⟩ := okWide_array_ Tryd.underlying36 (hval 3 36 v3 rfl rfl)
  obtain ⟨m3, hm3⟩ := h3
  obtain ⟨a3_0, a3_1, hcs3, w3_0, w3_1⟩ := flat36 m3 _ _ hm3
  obtain rfl : cs3 = #[.int .u64 a3_0, .int .u64 a3_1] := by cases cs3; simp only [Value.cells] at hcs3; subst hcs3; rfl
  obtain ⟨a4, len4, cap4, rfl⟩ := okWide_slice Tryd.underlying22 (hval 4 22 v4 rfl rfl)
  have k4 := h4
  have lt4 : ∀ x ∈ p4, x.block < W.heap.size := by obtain ⟨m, hm⟩ := k4; exact DataW.trod_lt m _ _ _ hm
  obtain ⟨m4, hm4⟩ := h4
  obtain ⟨l4, ⟨A4, c4, hc4, hle4, hC4⟩, hw4⟩ := opn22 (enc := enc) (W := W) m4 _ _ hm4
  simp only [Value.cells, List.cons.injEq, and_true, Value.slice.injEq] at hc4
  obtain ⟨rfl, rfl, rfl⟩ := hc4
  clear hA0 hval0
  refine (attestorlaw07_TreeChecks.calls 1200 a0 a1 cap1 l1 a2 a3_0 a3_1 a4 cap4 l4 true W hC1 hle1 hC4 hle4 (gl_of_laid hL) (checks_true a0 l1 a2 a3_0 a3_1 l4 (wf_u64 w3_0).1 (wf_u64 w3_1).1 (nn_of hw4) (by have := (wf_i64 w2).2; omega))).mono fun e W' ⟨he, bel⟩ => ?_
  subst he
  exact ⟨_, rfl, _, _, _, [], _, [], hW', trodAll_mk1 (shut_bool Tryd.underlying4 _), (trodAll_cons_mk (shut_int Tryd.underlying3 w0) (trodAll_cons_mk (Below.trod laidOut (by kernel_rfl) (of_decide_eq_true (by kernel_rfl)) k1 bel lt1) (trodAll_cons_mk (shut_int Tryd.underlying3 w2) (trodAll_cons_mk (Below.trod laidOut (by kernel_rfl) (of_decide_eq_true (by kernel_rfl)) k3 bel lt3) (trodAll_cons_mk (Below.trod laidOut (by kernel_rfl) (of_decide_eq_true (by kernel_rfl)) k4 bel lt4) trodAll_mk0))))), rfl, bel.frame _, fun h => by cases h⟩
theorem treeChecks_row : Rows.TreeChecksSaid :=
  OpenClaim.holds_of_wide 5 Tryd.f5 rfl rfl rfl rfl rfl rfl rfl ⟨rfl, rfl, rfl, rfl, rfl⟩ rfl rfl rfl rfl rfl (by kernel_rfl) Tryd.func5 (by kernel_rfl)
    (of_decide_eq_true (by kernel_rfl)) (by unfold Func.isWrapper; first | (rw [if_pos (by decide +kernel)]; kernel_rfl) | (rw [if_neg (by decide +kernel)]; exact ⟨rfl, rfl⟩))
    (fun os started H enc _ => treeChecks_lifted os started H enc)
theorem treeChecks_card : Rows.TreeChecksCardSaid :=
  Claim7.holds_tied_plain_at .later [] [.widerDeep, .data, .data] true Rows.treeChecksCard.stood.harness false
    treeChecks_row (fun _ h => by cases h) (by kernel_rfl) (fun _ h => by cases h) treeChecks_row_tie rfl ⟨rfl, rfl⟩ (by kernel_rfl) rfl
    (fun f fn hf hfn => by
      obtain rfl : f = 5 := Option.some.inj ((show Tryd.prog.funcNamed "attestor/attestorlaw07.TreeChecks" = some 5 by kernel_rfl).symm.trans hf) |>.symm
      obtain rfl : fn = Tryd.f5 := (Option.some.inj (Tryd.func5.symm.trans hfn)).symm
      exact ⟨by kernel_rfl, fun j t ht => by
        rw [Tryd.params5] at ht
        have hm : t ∈ [3, 22, 3, 36, 22] := by simpa using Array.mem_of_getElem? ht
        have hall : ([3, 22, 3, 36, 22].all fun u => !Tryd.prog.wantsStandIn u) = true := by kernel_rfl
        exact (show Tryd.prog.wantsStandIn t = false by simpa using List.all_eq_true.1 hall t hm)⟩)
    (by kernel_rfl)
end Go.Proofs.YtpnpmeogffodgaaDoor.Q
namespace Go.Proofs.YtpnpmeogffodgaaDoor
/-- Under a short name, for the claim. -/
theorem treeChecks_holds : Rows.TreeChecksCardSaid := Q.treeChecks_card
end Go.Proofs.YtpnpmeogffodgaaDoor
#print axioms Go.Proofs.YtpnpmeogffodgaaDoor.treeChecks_holds
end
