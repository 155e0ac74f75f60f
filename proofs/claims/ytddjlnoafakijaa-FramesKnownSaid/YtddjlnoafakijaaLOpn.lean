/- How what is read as an argument is told to the walks: a kind of the words for each type, and that its numbers are of their kinds. -/
import Derived.ChangeArms
import Derived.Deep.Slices
import Derived.KernelRfl
import Derived.OpenShut
import Derived.ProofKit
import Derived.SizedLaws
import Derived.Test.YtddjlnoafakijaaQ0
import Derived.Test.YtddjlnoafakijaaRows
import Derived.Test.YtddjlnoafakijaaWWords
namespace Go.Proofs.Ytddjlnoafakijaa.Opn
open Go.RowKit Go.Deep Go.Proofs.YtddjlnoafakijaaW.PrintWords
variable {H : Type} {enc : TypeId × Value → H} {P : Program} {W : World}

theorem add_add_ (a : Addr) (x y : Nat) : (a.add x).add y = a.add (x + y) := by
  unfold Addr.add
  by_cases hx : x = 0 <;> by_cases hy : y = 0 <;> simp [hx, hy, Nat.add_assoc]
/-- Whatever is read at type t is of the kind d; 'wf': what is known of it besides. -/
def Opn {α : Type} (enc : TypeId × Value → H) (P : Program) (W : World) (t : TypeId) (d : Kd α) (wf : α → Prop) : Prop :=
  ∀ fuel cs x, DataW.trod enc P W 0 (fun _ => true) true fuel t cs = some x → ∃ y, d.K W y cs ∧ wf y
theorem Opn.int {k : IntKind} {t : TypeId} (ht : P.underlying t = some (.int k)) : Opn enc P W t (Kd.int k) (fun y => (Lit.int k y).wf = true) := by
  intro fuel cs x h
  obtain ⟨n, rfl, _, hn⟩ := DataW.trod_int ht h
  exact ⟨n, rfl, hn⟩
theorem Opn.imp {α : Type} {t : TypeId} {d : Kd α} {wf wf' : α → Prop} (h : Opn enc P W t d wf) (hw : ∀ y, wf y → wf' y) : Opn enc P W t d wf' := by
  intro fuel cs x hx
  obtain ⟨y, hy, hz⟩ := h fuel cs x hx
  exact ⟨y, hy, hw y hz⟩
theorem Opn.slice {α : Type} {t e : TypeId} {d : Kd α} {wf : α → Prop} (ht : P.underlying t = some (.slice e)) (hs : P.cellsOf e = d.sz) (he : Opn enc P W e d wf) :
    Opn enc P W t (Kd.slice e d) (fun l => ∀ y ∈ l, wf y) := by
  intro fuel cs x h
  rcases open_slice ht h with ⟨rfl, _⟩ | ⟨a, len, cap, m, n, D, Pl, rfl, _, hl, hm, hmm, _, hx⟩
  · exact ⟨[], ⟨none, 0, rfl, Nat.le_refl _, Kd.C_nil d W⟩, fun y hy => by cases hy⟩
  · have hlm : len ≤ m := by rw [hmm]; split <;> omega
    have each : ∀ i : Fin len, ∃ y : α, ∃ c, W.cells? 0 (a.add (i.1 * d.sz)) d.sz = some c ∧ d.K W y c ∧ wf y := by
      intro i
      obtain ⟨c, hc, ht⟩ := hx i.1 (by omega)
      obtain ⟨y, hy, hz⟩ := he _ _ _ ht
      exact ⟨y, c, by rw [← hs]; exact hc, hy, hz⟩
    obtain ⟨f, hf⟩ := Classical.axiomOfChoice each
    have hlen : (List.ofFn f).length = len := List.length_ofFn
    refine ⟨List.ofFn f, ⟨some a, cap, by rw [hlen], by omega, ?_⟩, ?_⟩
    · rw [hlen]
      refine ⟨hlen, by unfold maxLen at hm; omega, fun _ => ⟨a, rfl, fun j p hp => ?_⟩⟩
      have hj : j < len := by have := (List.getElem?_eq_some_iff.1 hp).1; omega
      obtain ⟨c, hc, hk, _⟩ := hf ⟨j, hj⟩
      have hpj : p = f ⟨j, hj⟩ := by
        rw [List.getElem?_eq_getElem (by omega)] at hp
        rw [← Option.some.inj hp]
        exact List.getElem_ofFn ..
      subst hpj
      refine ⟨c, d.K_len hk, hk, fun i u hu => ?_⟩
      have hi : i < d.sz := by have := (List.getElem?_eq_some_iff.1 hu).1; rw [d.K_len hk] at this; exact this
      have hcc := (World.cells?_some hc).2.2 i hi
      rw [hu] at hcc
      rw [← hcc]
      rw [add_add_]
    · intro y hy
      obtain ⟨i, hi, rfl⟩ := List.mem_iff_getElem.1 hy
      rw [List.getElem_ofFn]
      exact (hf _).choose_spec.2.2
end Go.Proofs.Ytddjlnoafakijaa.Opn
namespace Go.Proofs.Ytddjlnoafakijaa.Q
open Go.RowKit Go.ChangeShapes Go.WideShapes
open Go.Proofs.YtddjlnoafakijaaW.PrintWords Go.Proofs.YtddjlnoafakijaaW.PrintLast Go.Proofs.YtddjlnoafakijaaW.PrintMore
open Go.Proofs.Ytddjlnoafakijaa.Opn
set_option linter.unusedVariables false
set_option linter.unusedSimpArgs false

theorem own : ownKnob Try.prog.godebug = Option.none := by kernel_rfl
theorem laidOut : laidOutB Try.prog = true := by kernel_rfl
theorem opn5 {H : Type} {enc : TypeId × Value → H} {W : World} : Opn enc Try.prog W 5 (Kd.int .u8) (fun x => (Lit.int .u8 x).wf = true) := Opn.int Try.underlying5
theorem cells5 : Try.prog.cellsOf 5 = 1 := by kernel_rfl
theorem opn23 {H : Type} {enc : TypeId × Value → H} {W : World} : Opn enc Try.prog W 23 (Kd.slice 5 (Kd.int .u8)) (fun x => ∀ y ∈ x, (Lit.int .u8 y).wf = true) := Opn.slice Try.underlying23 cells5 opn5
theorem cells22 : Try.prog.cellsOf 22 = 1 := by kernel_rfl
theorem cells23 : Try.prog.cellsOf 23 = 1 := by kernel_rfl
theorem cells25 : Try.prog.cellsOf 25 = 3 := by kernel_rfl
theorem flat25 {H : Type} {enc : TypeId × Value → H} {W : World} : ∀ fuel cs x, DataW.trod enc Try.prog W 0 (fun _ => true) true fuel 25 cs = some x → ∃ (a0 : Int) (a1 : Int) (A2 : Option Addr) (c2 : Nat) (l2 : (List Int)), cs = [.int .u8 a0, .int .u32 a1, .slice A2 l2.length c2] ∧ (Lit.int .u8 a0).wf = true ∧ (Lit.int .u32 a1).wf = true ∧ l2.length ≤ c2 ∧ Kd.C (Kd.int .u8) W A2 l2.length l2 ∧ ∀ y ∈ l2, (Lit.int .u8 y).wf = true := by
  intro fuel cs x h
  obtain ⟨xs, n, rfl, _, hl, hn, hf⟩ := DataW.trod_struct Try.underlying25 h
  rw [cells25] at hl
  match cs, hl with
  | [q0, q1, q2], _ =>
    have hx : xs.length = 3 := hn
    have e0 : DataW.trod enc Try.prog W 0 (fun _ => true) true n 5 (([q0, q1, q2].drop 0).take (Try.prog.cellsOf 5)) = xs[0]? := hf 0 _ rfl
    rw [cells5, List.getElem?_eq_getElem (by omega)] at e0
    have e1 : DataW.trod enc Try.prog W 0 (fun _ => true) true n 22 (([q0, q1, q2].drop 1).take (Try.prog.cellsOf 22)) = xs[1]? := hf 1 _ rfl
    rw [cells22, List.getElem?_eq_getElem (by omega)] at e1
    have e2 : DataW.trod enc Try.prog W 0 (fun _ => true) true n 23 (([q0, q1, q2].drop 2).take (Try.prog.cellsOf 23)) = xs[2]? := hf 2 _ rfl
    rw [cells23, List.getElem?_eq_getElem (by omega)] at e2
    obtain ⟨a0, r0, _, w0⟩ := DataW.trod_int Try.underlying5 e0
    simp only [List.drop_succ_cons, List.drop_zero, List.take_succ_cons, List.take_zero, List.cons.injEq, and_true] at r0
    obtain rfl := r0
    obtain ⟨a1, r1, _, w1⟩ := DataW.trod_int Try.underlying22 e1
    simp only [List.drop_succ_cons, List.drop_zero, List.take_succ_cons, List.take_zero, List.cons.injEq, and_true] at r1
    obtain rfl := r1
    obtain ⟨l2, ⟨A2, c2, r2, hl2, hC2⟩, w2⟩ := opn23 _ _ _ e2
    simp only [List.drop_succ_cons, List.drop_zero, List.take_succ_cons, List.take_zero, List.cons.injEq, and_true] at r2
    obtain rfl := r2
    exact ⟨a0, a1, A2, c2, l2, rfl, w0, w1, hl2, hC2, w2⟩
def wf25 (x : S25) : Prop := ((Lit.int .u8 x.f0).wf = true) ∧ ((Lit.int .u32 x.f1).wf = true) ∧ (∀ y ∈ x.f2, (Lit.int .u8 y).wf = true)
theorem opn25 {H : Type} {enc : TypeId × Value → H} {W : World} : Opn enc Try.prog W 25 k25 wf25 := by
  intro fuel cs x h
  obtain ⟨a0, a1, A2, c2, l2, rfl, w0, w1, hl2, hC2, w2⟩ := flat25 fuel cs x h
  exact ⟨(⟨a0, a1, l2⟩ : S25), k25_mk W _ hl2 hC2, ⟨w0, w1, w2⟩⟩
theorem opn36 {H : Type} {enc : TypeId × Value → H} {W : World} : Opn enc Try.prog W 36 (Kd.slice 25 k25) (fun x => ∀ y ∈ x, wf25 y) := Opn.slice Try.underlying36 cells25 opn25
end Go.Proofs.Ytddjlnoafakijaa.Q
