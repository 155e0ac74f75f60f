/- The plain law of FieldOps: the layer and its reference agree at every number of a field and at all numbers. -/
import Derived.Test.YtdojfdjokggaiaaDoorPField
import Derived.Test.YtdojfdjokggaiaaDoorQf11
namespace Go.Proofs.YtdojfdjokggaiaaDoor.Q
open Go.RowKit Go.Proofs.YtdojfdjokggaiaaDoorW.PrintWords Go.Proofs.YtdojfdjokggaiaaDoorW.PrintLast Go.Proofs.YtdojfdjokggaiaaDoorW.PrintMore
open Go.Proofs.YtdojfdjokggaiaaDoor.Num
set_option linter.unusedVariables false
set_option linter.unusedSimpArgs false

theorem rof_eq (k : Nat) (f : Int) : attestorref01_Of.f (k + 1) f = field_Of.f f := by
  unfold attestorref01_Of.f field_Of.f
  by_cases h : 0 ≤ f ∧ f < 4
  · obtain ⟨p, F⟩ := fld_of h.1 h.2
    have := F.two
    rw [rvalid_yes F, Option.bind_some, if_pos rfl, rp_eq, Option.bind_some, rgen_eq, Option.bind_some, rtwos_eq, Option.bind_some, rexp_eq, Option.bind_some, F.eq, decide_eq_true (by omega)]
    have he : IntKind.u64.wrap (fe f) = fe f := by unfold fe; repeat' (first | decide | split)
    rw [he]
  · rw [rvalid_no h, Option.bind_some, if_neg (by decide)]
    obtain ⟨h1, h2, h3, h4⟩ := no_fld h
    rw [h1, h2, h3, h4]; rfl
theorem reduce_both (f : Int) (a : Nat) : ∃ v : Nat, field_Reduce.f f a = some (v : Int) ∧ attestorref01_Reduce.f f a = some (v : Int) := by
  by_cases h : 0 ≤ f ∧ f < 4
  · obtain ⟨p, F⟩ := fld_of h.1 h.2
    exact ⟨a % p, by unfold field_Reduce.f; rw [valid_yes F, Option.bind_some, if_pos rfl, P_eq, F.eq, Option.bind_some, if_neg F.ne]; rfl, by unfold attestorref01_Reduce.f; rw [rvalid_yes F, Option.bind_some, if_pos rfl, rp_eq, F.eq, Option.bind_some, if_neg F.ne]; rfl⟩
  · exact ⟨0, by unfold field_Reduce.f; rw [valid_no h]; rfl, by unfold attestorref01_Reduce.f; rw [rvalid_no h]; rfl⟩
theorem is0_both (f : Int) (k : Nat) : ∃ v, field_Is.f (k + 1) f [] = some v ∧ attestorref01_Is.f (k + 1) f [] = some v := by
  obtain ⟨v, h1, h2⟩ := valid_both f
  exact ⟨v, by simp [field_Is.f, field_Is.l0, h1], by simp [attestorref01_Is.f, attestorref01_Is.l0, h2]⟩
theorem is2_both (f : Int) (k : Nat) (a b : Int) : ∃ v, field_Is.f (k + 3) f [a, b] = some v ∧ attestorref01_Is.f (k + 3) f [a, b] = some v := by
  obtain ⟨v, h1, h2⟩ := valid_both f
  by_cases ha : a ≥ fp f
  · exact ⟨false, by simp [field_Is.f, field_Is.l0, h1, P_eq, rd, wrap64, ha], by simp [attestorref01_Is.f, attestorref01_Is.l0, h2, rp_eq, rd, wrap64, ha]⟩
  · by_cases hb : b ≥ fp f
    · exact ⟨false, by simp [field_Is.f, field_Is.l0, h1, P_eq, rd, wrap64, ha, hb], by simp [attestorref01_Is.f, attestorref01_Is.l0, h2, rp_eq, rd, wrap64, ha, hb]⟩
    · exact ⟨v, by simp [field_Is.f, field_Is.l0, h1, P_eq, rd, wrap64, ha, hb], by simp [attestorref01_Is.f, attestorref01_Is.l0, h2, rp_eq, rd, wrap64, ha, hb]⟩
theorem ops_nat (f : Int) (a b n : Nat) (hn : n < 18446744073709551616) (k : Nat) (hk : 1073741824 < k) : attestorlaw01_FieldOps.f (k + 4) f a b n = some true := by
  obtain ⟨v1, p1, q1⟩ := valid_both f
  obtain ⟨v3, p3, q3⟩ := is2_both f k a b
  obtain ⟨v4, p4, q4⟩ := is0_both f (k + 2)
  obtain ⟨v5, p5, q5⟩ := reduce_both f n
  obtain ⟨v6, p6, q6⟩ := add_both f a b
  obtain ⟨v7, p7, q7⟩ := sub_both f a b
  obtain ⟨v8, p8, q8⟩ := mul_both f a b
  obtain ⟨v9, p9, q9⟩ := neg_both f a
  obtain ⟨u1, r1, s1⟩ := inv_both f (k + 1) a (by omega)
  obtain ⟨u2, r2, s2⟩ := div_both f (k + 1) a b (by omega)
  obtain ⟨u3, r3, s3⟩ := pow_both f (k + 1) a n (by omega) hn
  have hw := works_true (k + 1) (by omega)
  obtain ⟨o1, o2, o3, o4, o5, ho⟩ : ∃ o1 o2 o3 o4 o5, field_Of.f f = some (o1, o2, o3, o4, o5) := ⟨_, _, _, _, _, rfl⟩
  have ho2 := (rof_eq (k + 2) f).trans ho
  unfold attestorlaw01_FieldOps.f
  rw [p1, Option.bind_some, q1, Option.bind_some, if_neg (by simp), P_eq, Option.bind_some, rp_eq, Option.bind_some, if_pos rfl]
  rw [show field_Generator.f f = some (fg f) from rfl, Option.bind_some, rgen_eq, Option.bind_some, if_pos rfl, show field_Twos.f f = some (ft f) from rfl, Option.bind_some, rtwos_eq, Option.bind_some, if_pos rfl]
  rw [show field_Exponent.f f = some (fe f) from rfl, Option.bind_some, rexp_eq, Option.bind_some]
  simp only [attestorlaw01_FieldOps.j0]
  rw [if_neg (by simp), ho, Option.bind_some, ho2, Option.bind_some]
  dsimp only
  rw [if_neg (by simp), if_neg (by simp), p3, Option.bind_some, q3, Option.bind_some, if_neg (by simp), p4, Option.bind_some, q4, Option.bind_some, if_neg (by simp), p5, Option.bind_some, q5, Option.bind_some]
  simp only [attestorlaw01_FieldOps.j1]
  rw [if_neg (by simp), p6, Option.bind_some, q6, Option.bind_some, if_pos rfl, p7, Option.bind_some, q7, Option.bind_some, if_pos rfl, p8, Option.bind_some, q8, Option.bind_some, if_pos rfl, p9, Option.bind_some, q9, Option.bind_some]
  simp only [attestorlaw01_FieldOps.j2]
  rw [if_neg (by simp), r1, Option.bind_some, s1, Option.bind_some, if_pos rfl, r2, Option.bind_some, s2, Option.bind_some, if_pos rfl, r3, Option.bind_some, s3, Option.bind_some, if_pos rfl, hw]
  rfl
theorem ops_true (f a b n : Int) (ha : 0 ≤ a ∧ a < 18446744073709551616) (hb : 0 ≤ b ∧ b < 18446744073709551616) (hn : 0 ≤ n ∧ n < 18446744073709551616) : ∃ k, attestorlaw01_FieldOps.f k f a b n = some true := by
  obtain ⟨a, rfl⟩ := Int.eq_ofNat_of_zero_le ha.1
  obtain ⟨b, rfl⟩ := Int.eq_ofNat_of_zero_le hb.1
  obtain ⟨n, rfl⟩ := Int.eq_ofNat_of_zero_le hn.1
  exact ⟨_, ops_nat f a b n (by omega) 1073741825 (by omega)⟩
end Go.Proofs.YtdojfdjokggaiaaDoor.Q
