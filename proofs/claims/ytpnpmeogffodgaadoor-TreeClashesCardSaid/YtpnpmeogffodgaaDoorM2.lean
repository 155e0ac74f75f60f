/- Several texts in one, in build order. What they prove, each by its own first remark:
Written by our own copy of a printing program (a twelfth state) out of the translation. Not trusted: Lean checks it.
What the listed variables of the program hold, as facts on a world that stay while only new memory is made: the numbers of the four fields; and the contracts of the functions that read them: of, P, Generator, Exponent, Twos, Of.
Of the kit's printed words (LOpn) those that this claim's texts need.
From the card's condition on the variable 'fields' to the fact that the contracts ask.
Of the kit's printed words (HSlim) those that this claim's texts need.
tree.proper by hand (its closure takes the field's P by reference; slices.ContainsFunc and IndexFunc at digests): what it computes, and its contract.
Of the kit's printed words (HAuto) those that this claim's texts need.
A cell of an array of whole numbers at a variable place.
tree.climb by hand (tree.climber hands back a closure that keeps its place and its digest): what it computes, and its contract. -/
import Derived.Test.YtpnpmeogffodgaaDoorProg
import Derived.Below
import Derived.Deep.Draws
import Derived.Deep.AppendLies
import Derived.Maps.AppendAt
import Derived.OwnWalk
import Derived.Laws.BytesArg
import Derived.Laws.MakeOwn
import Derived.Laws.OwnMore
import Derived.Deep.OwnRows
import Derived.Tactics
import Derived.Lib.ConvBytes
import Derived.Laws.Slices
import Derived.WalkKit
import Derived.KernelRfl
import Derived.RowKit3
import Derived.Deep.LoopGhost
import Derived.Deep.QuietTactic
import Derived.BigQuiet
import Derived.WideLaws
import Derived.Deep.DeepCutAuto
import Derived.Deep.CutBlock
import Derived.Deep.RegionHeld3
import Derived.Laws.Rows
import Derived.Lib.AppendStr
import Derived.ArgAppend
import Derived.Laws.IdiomCopy
import Derived.OrdersHeld
import Derived.Laws.BitsLemmas
import Derived.RowKit
import Derived.Test.YtpnpmeogffodgaaDoorM1
import Derived.ChangeArms
import Derived.Deep.Slices
import Derived.OpenShut
import Derived.ProofKit
import Derived.SizedLaws
import Derived.Test.YtpnpmeogffodgaaDoorRows
import Derived.LaidMore
import Derived.Lib.SmallJoins
import Derived.Stop.Joined
section
namespace Go.Proofs.YtpnpmeogffodgaaDoor.Q
open Go.RowKit Go.Proofs.YtpnpmeogffodgaaDoorW.PrintWords Go.Proofs.YtpnpmeogffodgaaDoorW.PrintLast Go.Proofs.YtpnpmeogffodgaaDoorW.PrintMore
attribute [local go_sem] max2_int min2_int max_two min_two max_three min_three max_four min_four   -- for this text's walks alone
set_option linter.unusedVariables false
set_option linter.unusedSimpArgs false



def errW : Option Int → Value
  | none => .nilIface
  | some c => .iface 0 (.int .i64 c)
theorem errW_none : errW none = .nilIface := rfl
theorem errW_some (c : Int) : errW (some c) = .iface 0 (.int .i64 c) := rfl

theorem info22 : (Tryd.prog.info? 22).map (fun i => (i.zero, i.size, i.bytes)) = some (some (.slice none 0 0), 1, 24) := by kernel_rfl
theorem info36 : (Tryd.prog.info? 36).map (fun i => (i.zero, i.size, i.bytes)) = some (some (.agg #[(.int .u64 0), (.int .u64 0)]), 2, 16) := by kernel_rfl
/-- A function value: its number; nil below 0. -/
def fnV : Int → Value
  | .ofNat n => .func (.func n) #[] #[]
  | .negSucc _ => .nilFunc
def kfn : Kd Int := Kd.scalar fnV (fun x => by cases x <;> rfl)
theorem heap_fn : Kd.Heap kfn := ⟨fun _ h => h⟩
theorem run_store_fnV (P : Program) (w : World) (a : Addr) (m : Mode) (x : Int) : (store a (fnV x) m).run P w = stored P w a (fnV x) m := run_store P w a _ m (by cases x <;> rfl)
theorem run_store_fnc (P : Program) (w : World) (a : Addr) (m : Mode) (fn : Fn) (first captured : Array Value) : (store a (.func fn first captured) m).run P w = stored P w a (.func fn first captured) m := run_store P w a _ m rfl
theorem run_store_nfn (P : Program) (w : World) (a : Addr) (m : Mode) : (store a .nilFunc m).run P w = stored P w a .nilFunc m := run_store P w a _ m rfl
/-- A call of a function value. -/
theorem goesF_ {P : Program} {ops : Array Oper} {Q : Exit → Act → World → Prop} {rest : List Oper} {oi : Oper} {a : Act} {w : World} (N : Option Tmp) (hd : oi.dst = N) (hg : oi.guard = none) {f : FuncId} {fn : Func} {t : Tmp} {ar : Array Operand} {ts : Array TypeId} (hf : P.funcs[f]? = some fn) (hname : (fn.name == "runtime.NumGoroutine") = false) (hb : fn.body.isSome = true) (args : Array Value)
    (hop : oi.op = .call { callee := .value (.tmp t), args := ar, argTypes := ts }) (hfn : a.eval (.tmp t) = .func (.func f) #[] #[]) (hargs : ar.map a.eval = args)
    (h : Calls P f args w fun e w' => ∃ v, e = .returned v ∧ wpList P ops Q rest (a.put N v) w') : wpList P ops Q (oi :: rest) a w := by
  refine wpList_plain hg fun K hK => ?_
  have he := enters_ hf hname hb args w
  have hrun : (execOp a.eval oi).run P w = .ok (.enter f args) w := by
    unfold execOp
    simp [hop, resolve, Deferred.ofValue, invoke, hfn, hargs, he]
  unfold Oper.wp
  rw [hrun, Oper.upon_enter]
  refine h.mono fun e w'' hh => ?_
  obtain ⟨v, rfl, hk⟩ := hh
  subst hd
  exact hK _ _ hk
/-- A call of a function value in a region that draws. -/
theorem goesG_ {P : Program} {ops : Array Oper} {Q : Exit → Act → World → Prop} {oi : Oper} {N : Option Tmp} {a : Act} {w : World} {K : Act → World → Prop} {f : FuncId} {fn : Func} {t : Tmp} {ar : Array Operand} {ts : Array TypeId} (hf : P.funcs[f]? = some fn) (hname : (fn.name == "runtime.NumGoroutine") = false) (hb : fn.body.isSome = true) (args : Array Value)
    (hw : Region.wanted oi (yielded ops a.tmps) = true) (hN : oi.dst = N) (hop : oi.op = .call { callee := .value (.tmp t), args := ar, argTypes := ts }) (hfn : a.eval (.tmp t) = .func (.func f) #[] #[]) (hargs : ar.map a.eval = args)
    (h : Calls P f args w fun e w' => ∃ v, e = .returned v ∧ K (a.put N v) w') : if Region.wanted oi (yielded ops a.tmps) = true then Oper.wp P oi a w K Q else K (a.put N undef) w := by
  refine call_ f args hw hN ?_ h
  have he := enters_ hf hname hb args w
  unfold execOp
  simp [hop, resolve, Deferred.ofValue, invoke, hfn, hargs, he]

-- the values' own types
/-! #### struct type 36 -/
structure S36 where
  f0 : Int
  f1 : Int
def z36 : S36 := ⟨(0 : Int), (0 : Int)⟩
def k36 : Kd S36 := Kd.iso (Kd.pair (Kd.int .u64) (Kd.int .u64)) (fun x : S36 => (x.f0, x.f1))
theorem k36_open {w : World} {x : S36} {cs : List Value} (h : k36.K w x cs) : cs = [.int .u64 x.f0, .int .u64 x.f1] := by
  obtain ⟨_, _, rfl, rfl, rfl⟩ := h
  exact rfl
theorem k36_openM {w : World} {base : Nat} {ok : Nat → Prop} {x : S36} {cs : List Value} (h : k36.M w base ok x cs) : cs = [.int .u64 x.f0, .int .u64 x.f1] := by
  obtain ⟨_, _, rfl, rfl, rfl⟩ := h
  exact rfl
theorem k36_mk (w : World) (x : S36)  : k36.K w x [.int .u64 x.f0, .int .u64 x.f1] := ⟨[.int .u64 x.f0], [.int .u64 x.f1], rfl, rfl, rfl⟩
theorem k36_mkM (w : World) (base : Nat) (ok : Nat → Prop) (x : S36)  : k36.M w base ok x [.int .u64 x.f0, .int .u64 x.f1] := ⟨[.int .u64 x.f0], [.int .u64 x.f1], rfl, rfl, rfl⟩
def rd_T36 (xs : List S36) (i : Int) : S36 := xs.getD i.toNat z36
theorem at_T36 {w : World} {A : Option Addr} {n : Nat} {xs : List S36} (h : Kd.C k36 w A n xs) (i : Int) (h0 : 0 ≤ i) (h1 : i < n) : ∃ ad , A = some ad ∧ w.cell? (ad.add (i.toNat * 2)) = some (.int .u64 (rd_T36 xs i).f0) ∧ w.cell? ⟨(ad.add (i.toNat * 2)).block, (ad.add (i.toNat * 2)).off + 1, none⟩ = some (.int .u64 (rd_T36 xs i).f1) := by
  obtain ⟨ad, c, e, _, hK, hc0⟩ := Kd.C_get h z36 i h0 h1
  have hc : ∀ j u, c[j]? = some u → w.cell? (ad.add (i.toNat * 2 + j)) = some u := hc0
  obtain rfl := k36_open hK
  exact ⟨ad, e, hc 0 _ rfl, by rw [← add_field _ _ 1 (by omega)]; exact hc 1 _ rfl⟩

def rd_L3 (xs : List (List S36)) (i : Int) : (List S36) := xs.getD i.toNat ([] : List S36)
theorem at_L3 {w : World} {A : Option Addr} {n : Nat} {xs : List (List S36)} (h : Kd.C (Kd.slice 36 k36) w A n xs) (i : Int) (h0 : 0 ≤ i) (h1 : i < n) : ∃ ad A0 c0, A = some ad ∧ w.cell? (ad.add i.toNat) = some (.slice A0 (rd_L3 xs i).length c0) ∧ (rd_L3 xs i).length ≤ c0 ∧ k36.C w A0 (rd_L3 xs i).length (rd_L3 xs i) := by
  obtain ⟨ad, c, e, _, hK, hc0⟩ := Kd.C_get h ([] : List S36) i h0 h1
  have hc : ∀ j u, c[j]? = some u → w.cell? (ad.add (i.toNat * 1 + j)) = some u := hc0
  obtain ⟨A0, c0, rfl, l0, g0⟩ := hK
  exact ⟨ad, A0, c0, e, by have hq := hc 0 _ rfl; rwa [Nat.mul_one, Nat.add_zero] at hq, l0, g0⟩

def rd_L5 (xs : List (List (List S36))) (i : Int) : (List (List S36)) := xs.getD i.toNat ([] : List (List S36))
theorem at_L5 {w : World} {A : Option Addr} {n : Nat} {xs : List (List (List S36))} (h : Kd.C (Kd.slice 22 (Kd.slice 36 k36)) w A n xs) (i : Int) (h0 : 0 ≤ i) (h1 : i < n) : ∃ ad A0 c0, A = some ad ∧ w.cell? (ad.add i.toNat) = some (.slice A0 (rd_L5 xs i).length c0) ∧ (rd_L5 xs i).length ≤ c0 ∧ (Kd.slice 36 k36).C w A0 (rd_L5 xs i).length (rd_L5 xs i) := by
  obtain ⟨ad, c, e, _, hK, hc0⟩ := Kd.C_get h ([] : List (List S36)) i h0 h1
  have hc : ∀ j u, c[j]? = some u → w.cell? (ad.add (i.toNat * 1 + j)) = some u := hc0
  obtain ⟨A0, c0, rfl, l0, g0⟩ := hK
  exact ⟨ad, A0, c0, e, by have hq := hc 0 _ rfl; rwa [Nat.mul_one, Nat.add_zero] at hq, l0, g0⟩

/-! #### struct type 26 -/
structure S26 where
  f0 : Int
  f1 : Int
  f2 : Int
  f3 : (List (List S36))
def z26 : S26 := ⟨(0 : Int), (0 : Int), (0 : Int), ([] : List (List S36))⟩
def k26 : Kd S26 := Kd.iso (Kd.pair (Kd.int .i64) (Kd.pair (Kd.int .i64) (Kd.pair (Kd.int .i64) (Kd.slice 22 (Kd.slice 36 k36))))) (fun x : S26 => (x.f0, x.f1, x.f2, x.f3))
theorem k26_open {w : World} {x : S26} {cs : List Value} (h : k26.K w x cs) : ∃ A3 c3, cs = [.int .i64 x.f0, .int .i64 x.f1, .int .i64 x.f2, .slice A3 x.f3.length c3] ∧ x.f3.length ≤ c3 ∧ (Kd.slice 36 k36).C w A3 x.f3.length x.f3 := by
  obtain ⟨_, _, rfl, rfl, ⟨_, _, rfl, rfl, ⟨_, _, rfl, rfl, ⟨A3, c3, rfl, l3, g3⟩⟩⟩⟩ := h
  exact ⟨A3, c3, rfl, l3, g3⟩
theorem k26_openM {w : World} {base : Nat} {ok : Nat → Prop} {x : S26} {cs : List Value} (h : k26.M w base ok x cs) : ∃ v3, cs = [.int .i64 x.f0, .int .i64 x.f1, .int .i64 x.f2, v3] ∧ (Kd.slice 36 k36).R 22 w base ok v3 x.f3 := by
  obtain ⟨_, _, rfl, rfl, ⟨_, _, rfl, rfl, ⟨_, _, rfl, rfl, ⟨v3, rfl, g3⟩⟩⟩⟩ := h
  exact ⟨v3, rfl, g3⟩
theorem k26_mk (w : World) (x : S26) {A3 : Option Addr} {c3 : Nat} (l3 : x.f3.length ≤ c3) (g3 : (Kd.slice 36 k36).C w A3 x.f3.length x.f3) : k26.K w x [.int .i64 x.f0, .int .i64 x.f1, .int .i64 x.f2, .slice A3 x.f3.length c3] := ⟨[.int .i64 x.f0], [.int .i64 x.f1, .int .i64 x.f2, .slice A3 x.f3.length c3], rfl, rfl, ⟨[.int .i64 x.f1], [.int .i64 x.f2, .slice A3 x.f3.length c3], rfl, rfl, ⟨[.int .i64 x.f2], [.slice A3 x.f3.length c3], rfl, rfl, ⟨A3, c3, rfl, l3, g3⟩⟩⟩⟩
theorem k26_mkM (w : World) (base : Nat) (ok : Nat → Prop) (x : S26) {v3 : Value} (g3 : (Kd.slice 36 k36).R 22 w base ok v3 x.f3) : k26.M w base ok x [.int .i64 x.f0, .int .i64 x.f1, .int .i64 x.f2, v3] := ⟨[.int .i64 x.f0], [.int .i64 x.f1, .int .i64 x.f2, v3], rfl, rfl, ⟨[.int .i64 x.f1], [.int .i64 x.f2, v3], rfl, rfl, ⟨[.int .i64 x.f2], [v3], rfl, rfl, ⟨v3, rfl, g3⟩⟩⟩⟩
def rd_T26 (xs : List S26) (i : Int) : S26 := xs.getD i.toNat z26
theorem at_T26 {w : World} {A : Option Addr} {n : Nat} {xs : List S26} (h : Kd.C k26 w A n xs) (i : Int) (h0 : 0 ≤ i) (h1 : i < n) : ∃ ad A3 c3, A = some ad ∧ w.cell? (ad.add (i.toNat * 4)) = some (.int .i64 (rd_T26 xs i).f0) ∧ w.cell? ⟨(ad.add (i.toNat * 4)).block, (ad.add (i.toNat * 4)).off + 1, none⟩ = some (.int .i64 (rd_T26 xs i).f1) ∧ w.cell? ⟨(ad.add (i.toNat * 4)).block, (ad.add (i.toNat * 4)).off + 2, none⟩ = some (.int .i64 (rd_T26 xs i).f2) ∧ w.cell? ⟨(ad.add (i.toNat * 4)).block, (ad.add (i.toNat * 4)).off + 3, none⟩ = some (.slice A3 (rd_T26 xs i).f3.length c3) ∧ (rd_T26 xs i).f3.length ≤ c3 ∧ (Kd.slice 36 k36).C w A3 (rd_T26 xs i).f3.length (rd_T26 xs i).f3 := by
  obtain ⟨ad, c, e, _, hK, hc0⟩ := Kd.C_get h z26 i h0 h1
  have hc : ∀ j u, c[j]? = some u → w.cell? (ad.add (i.toNat * 4 + j)) = some u := hc0
  obtain ⟨A3, c3, rfl, l3, g3⟩ := k26_open hK
  exact ⟨ad, A3, c3, e, hc 0 _ rfl, by rw [← add_field _ _ 1 (by omega)]; exact hc 1 _ rfl, by rw [← add_field _ _ 2 (by omega)]; exact hc 2 _ rfl, by rw [← add_field _ _ 3 (by omega)]; exact hc 3 _ rfl, l3, g3⟩

/-! #### struct type 48 -/
structure S48 where
  f0 : S36
  f1 : S36
def z48 : S48 := ⟨z36, z36⟩
def k48 : Kd S48 := Kd.iso (Kd.pair k36 k36) (fun x : S48 => (x.f0, x.f1))
theorem k48_open {w : World} {x : S48} {cs : List Value} (h : k48.K w x cs) : cs = [.int .u64 x.f0.f0, .int .u64 x.f0.f1, .int .u64 x.f1.f0, .int .u64 x.f1.f1] := by
  obtain ⟨_, _, rfl, s0, s2⟩ := h
  obtain rfl := k36_open s0
  obtain rfl := k36_open s2
  exact rfl
theorem k48_openM {w : World} {base : Nat} {ok : Nat → Prop} {x : S48} {cs : List Value} (h : k48.M w base ok x cs) : cs = [.int .u64 x.f0.f0, .int .u64 x.f0.f1, .int .u64 x.f1.f0, .int .u64 x.f1.f1] := by
  obtain ⟨_, _, rfl, s0, s2⟩ := h
  obtain rfl := k36_openM s0
  obtain rfl := k36_openM s2
  exact rfl
theorem k48_mk (w : World) (x : S48)  : k48.K w x [.int .u64 x.f0.f0, .int .u64 x.f0.f1, .int .u64 x.f1.f0, .int .u64 x.f1.f1] := ⟨[.int .u64 x.f0.f0, .int .u64 x.f0.f1], [.int .u64 x.f1.f0, .int .u64 x.f1.f1], rfl, (k36_mk w x.f0 ), (k36_mk w x.f1 )⟩
theorem k48_mkM (w : World) (base : Nat) (ok : Nat → Prop) (x : S48)  : k48.M w base ok x [.int .u64 x.f0.f0, .int .u64 x.f0.f1, .int .u64 x.f1.f0, .int .u64 x.f1.f1] := ⟨[.int .u64 x.f0.f0, .int .u64 x.f0.f1], [.int .u64 x.f1.f0, .int .u64 x.f1.f1], rfl, (k36_mkM w base ok x.f0 ), (k36_mkM w base ok x.f1 )⟩
def rd_T48 (xs : List S48) (i : Int) : S48 := xs.getD i.toNat z48
theorem at_T48 {w : World} {A : Option Addr} {n : Nat} {xs : List S48} (h : Kd.C k48 w A n xs) (i : Int) (h0 : 0 ≤ i) (h1 : i < n) : ∃ ad , A = some ad ∧ w.cell? (ad.add (i.toNat * 4)) = some (.int .u64 (rd_T48 xs i).f0.f0) ∧ w.cell? ⟨(ad.add (i.toNat * 4)).block, (ad.add (i.toNat * 4)).off + 1, none⟩ = some (.int .u64 (rd_T48 xs i).f0.f1) ∧ w.cell? ⟨(ad.add (i.toNat * 4)).block, (ad.add (i.toNat * 4)).off + 2, none⟩ = some (.int .u64 (rd_T48 xs i).f1.f0) ∧ w.cell? ⟨(ad.add (i.toNat * 4)).block, (ad.add (i.toNat * 4)).off + 3, none⟩ = some (.int .u64 (rd_T48 xs i).f1.f1) := by
  obtain ⟨ad, c, e, _, hK, hc0⟩ := Kd.C_get h z48 i h0 h1
  have hc : ∀ j u, c[j]? = some u → w.cell? (ad.add (i.toNat * 4 + j)) = some u := hc0
  obtain rfl := k48_open hK
  exact ⟨ad, e, hc 0 _ rfl, by rw [← add_field _ _ 1 (by omega)]; exact hc 1 _ rfl, by rw [← add_field _ _ 2 (by omega)]; exact hc 2 _ rfl, by rw [← add_field _ _ 3 (by omega)]; exact hc 3 _ rfl⟩

end Go.Proofs.YtpnpmeogffodgaaDoor.Q
end
section
namespace Go.Proofs.YtpnpmeogffodgaaDoor.Q
open Go.RowKit Go.Proofs.YtpnpmeogffodgaaDoorW.PrintWords Go.Proofs.YtpnpmeogffodgaaDoorW.PrintLast Go.Proofs.YtpnpmeogffodgaaDoorW.PrintMore

/-- The numbers of the fields: P, generator, twos, exponent, the odd primes of P - 1. -/
def fp (f : Int) : Int := if f = 0 then 97 else if f = 1 then 257 else if f = 2 then 12289 else if f = 3 then 998244353 else 0
def fg (f : Int) : Int := if f = 0 then 5 else if f = 1 then 3 else if f = 2 then 11 else if f = 3 then 3 else 0
def ft (f : Int) : Int := if f = 0 then 5 else if f = 1 then 8 else if f = 2 then 12 else if f = 3 then 23 else 0
def fe (f : Int) : Int := if f = 0 then 5 else if f = 1 then 3 else if f = 2 then 5 else if f = 3 then 3 else 0
def fl (f : Int) : List Int := if f = 0 then [3] else if f = 1 then [] else if f = 2 then [3] else if f = 3 then [7, 17] else []
/-- The table of math/bits.TrailingZeros64. -/
def db64 : List Int := [0, 1, 56, 2, 57, 49, 28, 3, 61, 58, 42, 50, 38, 29, 17, 4, 62, 47, 59, 36, 45, 43, 51, 22, 53, 39, 33, 30, 24, 18, 12, 5, 63, 55, 48, 27, 60, 41, 37, 16, 46, 35, 44, 21, 52, 32, 23, 11, 54, 26, 40, 15, 34, 20, 31, 10, 25, 14, 19, 9, 13, 8, 7, 6]
/-- The cells of the variables. -/
structure GL (w : World) : Prop where
  c0 : ∀ f : Nat, f < 4 → w.cell? ⟨2, 5 * f, none⟩ = some (.int .u64 (fp f))
  c1 : ∀ f : Nat, f < 4 → w.cell? ⟨2, 5 * f + 1, none⟩ = some (.int .u64 (fg f))
  c2 : ∀ f : Nat, f < 4 → w.cell? ⟨2, 5 * f + 2, none⟩ = some (.int .i64 (ft f))
  c3 : ∀ f : Nat, f < 4 → w.cell? ⟨2, 5 * f + 3, none⟩ = some (.int .i64 (fe f))
  c4 : ∀ f : Nat, f < 4 → ∃ A c, w.cell? ⟨2, 5 * f + 4, none⟩ = some (.slice A (fl f).length c) ∧ (fl f).length ≤ c ∧ Kd.C (Kd.int .u64) w A (fl f).length (fl f)
  d64 : ∀ i : Nat, i < 64 → w.cell? ⟨1, i, none⟩ = some (.int .u8 (db64.getD i 0))
theorem GL.below {w w1 : World} (h : GL w) (hb : Below w.heap.size w w1) : GL w1 :=
  ⟨fun f hf => pw_cell_below hb (h.c0 f hf), fun f hf => pw_cell_below hb (h.c1 f hf), fun f hf => pw_cell_below hb (h.c2 f hf), fun f hf => pw_cell_below hb (h.c3 f hf), fun f hf => by
    obtain ⟨A, c, e, hl, hC⟩ := h.c4 f hf
    exact ⟨A, c, pw_cell_below hb e, hl, Kd.C_below hC hb⟩, fun i hi => pw_cell_below hb (h.d64 i hi)⟩
theorem GL.alloc {w : World} (h : GL w) (o : Obj) : GL (w.alloc o) := h.below (below_alloc (Below.refl _ _) o)
theorem GL.drewN {w : World} (h : GL w) (n : Nat) : GL (w.drewN n) := h.below (pw_below_drewN (Below.refl _ _) n)
theorem GL.drew {w : World} (h : GL w) : GL w.drew := h.below (below_drew (Below.refl _ _))
end Go.Proofs.YtpnpmeogffodgaaDoor.Q

namespace Go.Proofs.YtpnpmeogffodgaaDoor.Q
open Go.RowKit Go.Proofs.YtpnpmeogffodgaaDoorW.PrintWords Go.Proofs.YtpnpmeogffodgaaDoorW.PrintLast Go.Proofs.YtpnpmeogffodgaaDoorW.PrintMore
set_option linter.unusedVariables false
set_option linter.unusedSimpArgs false

theorem valid_in (f : Int) (w : World) (h0 : 0 ≤ f) (h1 : f < 4) : Calls Tryd.prog 38 #[.int .i64 f] w fun e w' => e = .returned (.bool true) ∧ w = w' := by
  have c1 : decide (0 ≤ f) = true := decide_eq_true h0
  have c2 : decide (f < 4) = true := decide_eq_true h1
  go_enter Tryd.func38, Tryd.ntmps38
  go_wp2
  go_ret
  exact ⟨rfl, rfl⟩
theorem valid_out (f : Int) (w : World) (h : f < 0 ∨ 4 ≤ f) : Calls Tryd.prog 38 #[.int .i64 f] w fun e w' => e = .returned (.bool false) ∧ w = w' := by
  rcases h with h | h
  · have c1 : decide (0 ≤ f) = false := decide_eq_false (by omega)
    go_enter Tryd.func38, Tryd.ntmps38
    go_wp2
    go_ret
    exact ⟨rfl, rfl⟩
  · have c1 : decide (0 ≤ f) = true := decide_eq_true (by omega)
    have c2 : decide (f < 4) = false := decide_eq_false (by omega)
    go_enter Tryd.func38, Tryd.ntmps38
    go_wp2
    go_ret
    exact ⟨rfl, rfl⟩
/-- What 'of' hands back. -/
def OfSays (f : Int) (w : World) (e : Ending) (w' : World) : Prop :=
  ∃ A c, e = .returned (.agg #[.int .u64 (fp f), .int .u64 (fg f), .int .i64 (ft f), .int .i64 (fe f), .slice A (fl f).length c]) ∧ (fl f).length ≤ c ∧ Kd.C (Kd.int .u64) w' A (fl f).length (fl f) ∧ Below w.heap.size w w'
set_option maxHeartbeats 1000000 in
set_option maxRecDepth 100000 in
theorem of_out (f : Int) (w : World) (h : f < 0 ∨ 4 ≤ f) : Calls Tryd.prog 70 #[.int .i64 f] w (OfSays f w) := by
  have hu := Tryd.underlying94
  have hz : OfSays f w (.returned (.agg #[.int .u64 0, .int .u64 0, .int .i64 0, .int .i64 0, .slice none 0 0])) ((w.alloc (.cells #[.int .u64 0, .int .u64 0, .int .i64 0, .int .i64 0, .slice none 0 0] 94))) := by
    have h0 : f ≠ 0 ∧ f ≠ 1 ∧ f ≠ 2 ∧ f ≠ 3 := by omega
    refine ⟨none, 0, ?_, ?_, ?_, below_alloc (Below.refl _ _) _⟩
    · simp [fp, fg, ft, fe, fl, h0]
    · simp [fl, h0]
    · simp only [fl, h0, if_false]
      exact Kd.C_nil _ _
  have HZ := Aside0.mk hz
  clear hz
  go_enter Tryd.func70, Tryd.ntmps70
  go_wp2_with (go_at_call 38; refine (valid_out f _ h).mono ?_; rintro e w' ⟨rfl, rfl⟩)
  exact bodyPost_ret (by simp [results, Tryd.results70, go_sem, hu]) rfl HZ.out
set_option maxHeartbeats 1000000 in
set_option maxRecDepth 100000 in
theorem of_lit (f : Nat) (w : World) (o : Nat) (ho : 5 * f = o) (h1 : f < 4) (A : Option Addr) (c n : Nat) (a0 a1 a2 a3 : Int)
    (e0 : w.cell? ⟨2, o, none⟩ = some (.int .u64 a0)) (e1 : w.cell? ⟨2, o + 1, none⟩ = some (.int .u64 a1)) (e2 : w.cell? ⟨2, o + 2, none⟩ = some (.int .i64 a2))
    (e3 : w.cell? ⟨2, o + 3, none⟩ = some (.int .i64 a3)) (e4 : w.cell? ⟨2, o + 4, none⟩ = some (.slice A n c)) :
    Calls Tryd.prog 70 #[.int .i64 f] w fun e w' => e = .returned (.agg #[.int .u64 a0, .int .u64 a1, .int .i64 a2, .int .i64 a3, .slice A n c]) ∧ Below w.heap.size w w' := by
  have hu := Tryd.underlying94
  have hu2 := Tryd.underlying101
  have g0 := fun O => pw_cell_below (below_alloc (Below.refl _ w) O) e0
  have g1 := fun O => pw_cell_below (below_alloc (Below.refl _ w) O) e1
  have g2 := fun O => pw_cell_below (below_alloc (Below.refl _ w) O) e2
  have g3 := fun O => pw_cell_below (below_alloc (Below.refl _ w) O) e3
  have g4 := fun O => pw_cell_below (below_alloc (Below.refl _ w) O) e4
  clear e0 e1 e2 e3 e4
  obtain ⟨h, hh⟩ | ⟨h, hh⟩ | ⟨h, hh⟩ | ⟨h, hh⟩ : (f = 0 ∧ o = 0) ∨ (f = 1 ∧ o = 5) ∨ (f = 2 ∧ o = 10) ∨ (f = 3 ∧ o = 15) := by omega
  all_goals
    subst h; subst hh; clear ho h1
    go_enter Tryd.func70, Tryd.ntmps70
    go_wp2_with (go_at_call 38; refine (valid_in _ _ (by decide) (by decide)).mono ?_; rintro e w' ⟨rfl, rfl⟩)
    exact bodyPost_ret (v := .agg #[.int .u64 a0, .int .u64 a1, .int .i64 a2, .int .i64 a3, .slice A n c]) (by simp [results, Tryd.results70, go_sem, hu]) rfl ⟨rfl, by repeat (first | exact Below.refl _ _ | apply below_alloc | refine below_set ?_ (Nat.le_refl _))⟩
theorem of_calls (f : Int) (w : World) (hG : GL w) : Calls Tryd.prog 70 #[.int .i64 f] w (OfSays f w) := by
  by_cases h : f < 0 ∨ 4 ≤ f
  · exact of_out f w h
  · obtain ⟨n, rfl⟩ := Int.eq_ofNat_of_zero_le (by omega : 0 ≤ f)
    have h1 : n < 4 := by omega
    obtain ⟨A, c, e4, hl, hC⟩ := hG.c4 n h1
    refine (of_lit n w _ rfl h1 A c _ _ _ _ _ (hG.c0 n h1) (hG.c1 n h1) (hG.c2 n h1) (hG.c3 n h1) e4).mono fun e w' ⟨he, hb⟩ => ?_
    exact ⟨A, c, he, hl, Kd.C_below hC hb, hb⟩
end Go.Proofs.YtpnpmeogffodgaaDoor.Q

namespace Go.Proofs.YtpnpmeogffodgaaDoor.Q
open Go.RowKit Go.Proofs.YtpnpmeogffodgaaDoorW.PrintWords Go.Proofs.YtpnpmeogffodgaaDoorW.PrintLast Go.Proofs.YtpnpmeogffodgaaDoorW.PrintMore
set_option linter.unusedVariables false
set_option linter.unusedSimpArgs false

def field_P.f (f : Int) : Option Int := some (fp f)
set_option maxHeartbeats 1000000 in
set_option maxRecDepth 100000 in
theorem field_P.calls (f : Int) (r : Int) (w : World) (hrG : GL w) (h : field_P.f f = some r) : Calls Tryd.prog 58 #[.int .i64 f] w fun e w' => e = .returned (.int .u64 r) ∧ Below w.heap.size w w' := by
  obtain rfl := Option.some.inj h
  clear h
  have hu := Tryd.underlying94
  have hfl : ∀ (x0 x1 x2 x3 : Int) (x4 : Value) (W : World), (Instr.field 94 (.agg #[.int .u64 x0, .int .u64 x1, .int .i64 x2, .int .i64 x3, x4]) 0).run Tryd.prog W = .ok (.int .u64 x0) W := fun x0 x1 x2 x3 x4 W => by kernel_rfl
  have HG := Aside0.mk hrG
  clear hrG
  go_enter Tryd.func58, Tryd.ntmps58
  go_wp2_with (go_at_call 70; refine (of_calls f _ HG.out).mono ?_; rintro e w' ⟨A, c, rfl, _, _, hb⟩)
  go_ret
  exact ⟨rfl, by first | assumption | exact hb⟩

def field_Generator.f (f : Int) : Option Int := some (fg f)
set_option maxHeartbeats 1000000 in
set_option maxRecDepth 100000 in
theorem field_Generator.calls (f : Int) (r : Int) (w : World) (hrG : GL w) (h : field_Generator.f f = some r) : Calls Tryd.prog 65 #[.int .i64 f] w fun e w' => e = .returned (.int .u64 r) ∧ Below w.heap.size w w' := by
  obtain rfl := Option.some.inj h
  clear h
  have hu := Tryd.underlying94
  have hfl : ∀ (x0 x1 x2 x3 : Int) (x4 : Value) (W : World), (Instr.field 94 (.agg #[.int .u64 x0, .int .u64 x1, .int .i64 x2, .int .i64 x3, x4]) 1).run Tryd.prog W = .ok (.int .u64 x1) W := fun x0 x1 x2 x3 x4 W => by kernel_rfl
  have HG := Aside0.mk hrG
  clear hrG
  go_enter Tryd.func65, Tryd.ntmps65
  go_wp2_with (go_at_call 70; refine (of_calls f _ HG.out).mono ?_; rintro e w' ⟨A, c, rfl, _, _, hb⟩)
  go_ret
  exact ⟨rfl, by first | assumption | exact hb⟩

def field_Exponent.f (f : Int) : Option Int := some (fe f)
set_option maxHeartbeats 1000000 in
set_option maxRecDepth 100000 in
theorem field_Exponent.calls (f : Int) (r : Int) (w : World) (hrG : GL w) (h : field_Exponent.f f = some r) : Calls Tryd.prog 66 #[.int .i64 f] w fun e w' => e = .returned (.int .i64 r) ∧ Below w.heap.size w w' := by
  obtain rfl := Option.some.inj h
  clear h
  have hu := Tryd.underlying94
  have hfl : ∀ (x0 x1 x2 x3 : Int) (x4 : Value) (W : World), (Instr.field 94 (.agg #[.int .u64 x0, .int .u64 x1, .int .i64 x2, .int .i64 x3, x4]) 3).run Tryd.prog W = .ok (.int .i64 x3) W := fun x0 x1 x2 x3 x4 W => by kernel_rfl
  have HG := Aside0.mk hrG
  clear hrG
  go_enter Tryd.func66, Tryd.ntmps66
  go_wp2_with (go_at_call 70; refine (of_calls f _ HG.out).mono ?_; rintro e w' ⟨A, c, rfl, _, _, hb⟩)
  go_ret
  exact ⟨rfl, by first | assumption | exact hb⟩
end Go.Proofs.YtpnpmeogffodgaaDoor.Q
end
section
namespace Go.Proofs.YtpnpmeogffodgaaDoor.Opn
open Go.RowKit Go.Deep Go.Proofs.YtpnpmeogffodgaaDoorW.PrintWords
variable {H : Type} {enc : TypeId × Value → H} {P : Program} {W : World}
theorem add_add_ (a : Addr) (x y : Nat) : (a.add x).add y = a.add (x + y) := by
  unfold Addr.add
  by_cases hx : x = 0 <;> by_cases hy : y = 0 <;> simp [hx, hy, Nat.add_assoc]
def Opn {α : Type} (enc : TypeId × Value → H) (P : Program) (W : World) (t : TypeId) (d : Kd α) (wf : α → Prop) : Prop :=
  ∀ fuel cs x, DataW.trod enc P W 0 (fun _ => true) true fuel t cs = some x → ∃ y, d.K W y cs ∧ wf y
theorem Opn.int {k : IntKind} {t : TypeId} (ht : P.underlying t = some (.int k)) : Opn enc P W t (Kd.int k) (fun y => (Lit.int k y).wf = true) := by
  intro fuel cs x h
  obtain ⟨n, rfl, _, hn⟩ := DataW.trod_int ht h
  exact ⟨n, rfl, hn⟩
theorem Opn.imp {α : Type} {t : TypeId} {d : Kd α} {wf wf' : α → Prop} (h : Opn enc P W t d wf) (hw : ∀ y, wf y → wf' y) : Opn enc P W t d wf' := by
  intro fuel cs x hx
  obtain ⟨y, hy, hz⟩ := h fuel cs x hx
  exact ⟨y, hy, hw y hz⟩
theorem Opn.slice {α : Type} {t e : TypeId} {d : Kd α} {wf : α → Prop} (ht : P.underlying t = some (.slice e)) (hs : P.cellsOf e = d.sz) (he : Opn enc P W e d wf) :
    Opn enc P W t (Kd.slice e d) (fun l => ∀ y ∈ l, wf y) := by
  intro fuel cs x h
  rcases open_slice ht h with ⟨rfl, _⟩ | ⟨a, len, cap, m, n, D, Pl, rfl, _, hl, hm, hmm, _, hx⟩
  · exact ⟨[], ⟨none, 0, rfl, Nat.le_refl _, Kd.C_nil d W⟩, fun y hy => by cases hy⟩
  · have hlm : len ≤ m := by rw [hmm]; split <;> omega
    have each : ∀ i : Fin len, ∃ y : α, ∃ c, W.cells? 0 (a.add (i.1 * d.sz)) d.sz = some c ∧ d.K W y c ∧ wf y := by
      intro i
      obtain ⟨c, hc, ht⟩ := hx i.1 (by omega)
      obtain ⟨y, hy, hz⟩ := he _ _ _ ht
      exact ⟨y, c, by rw [← hs]; exact hc, hy, hz⟩
    obtain ⟨f, hf⟩ := Classical.axiomOfChoice each
    have hlen : (List.ofFn f).length = len := List.length_ofFn
    refine ⟨List.ofFn f, ⟨some a, cap, by rw [hlen], by omega, ?_⟩, ?_⟩
    · rw [hlen]
      refine ⟨hlen, by unfold maxLen at hm; omega, fun _ => ⟨a, rfl, fun j p hp => ?_⟩⟩
      have hj : j < len := by have := (List.getElem?_eq_some_iff.1 hp).1; omega
      obtain ⟨c, hc, hk, _⟩ := hf ⟨j, hj⟩
      have hpj : p = f ⟨j, hj⟩ := by
        rw [List.getElem?_eq_getElem (by omega)] at hp
        rw [← Option.some.inj hp]
        exact List.getElem_ofFn ..
      subst hpj
      refine ⟨c, d.K_len hk, hk, fun i u hu => ?_⟩
      have hi : i < d.sz := by have := (List.getElem?_eq_some_iff.1 hu).1; rw [d.K_len hk] at this; exact this
      have hcc := (World.cells?_some hc).2.2 i hi
      rw [hu] at hcc
      rw [← hcc]
      rw [add_add_]
    · intro y hy
      obtain ⟨i, hi, rfl⟩ := List.mem_iff_getElem.1 hy
      rw [List.getElem_ofFn]
      exact (hf _).choose_spec.2.2
end Go.Proofs.YtpnpmeogffodgaaDoor.Opn
namespace Go.Proofs.YtpnpmeogffodgaaDoor.Q
open Go.RowKit Go.ChangeShapes Go.WideShapes
open Go.Proofs.YtpnpmeogffodgaaDoorW.PrintWords Go.Proofs.YtpnpmeogffodgaaDoorW.PrintLast Go.Proofs.YtpnpmeogffodgaaDoorW.PrintMore
open Go.Proofs.YtpnpmeogffodgaaDoor.Opn
set_option linter.unusedVariables false
set_option linter.unusedSimpArgs false
theorem own : ownKnob Tryd.prog.godebug = Option.none := by kernel_rfl
theorem laidOut : laidOutB Tryd.prog = true := by kernel_rfl
theorem cells34 : Tryd.prog.cellsOf 34 = 1 := by kernel_rfl
theorem cells36 : Tryd.prog.cellsOf 36 = 2 := by kernel_rfl
set_option maxRecDepth 100000 in
theorem flat36 {H : Type} {enc : TypeId × Value → H} {W : World} : ∀ fuel cs x, DataW.trod enc Tryd.prog W 0 (fun _ => true) true fuel 36 cs = some x → ∃ (a0 : Int) (a1 : Int), cs = [.int .u64 a0, .int .u64 a1] ∧ (Lit.int .u64 a0).wf = true ∧ (Lit.int .u64 a1).wf = true := by
  intro fuel cs x h
  obtain ⟨xs, n, rfl, _, hl, hn, hf⟩ := DataW.trod_array Tryd.underlying36 h
  rw [cells36] at hl
  match cs, hl with
  | [q0, q1], _ =>
    have hx : xs.length = 2 := hn
    have e0 : DataW.trod enc Tryd.prog W 0 (fun _ => true) true n 34 (([q0, q1].drop 0).take (Tryd.prog.cellsOf 34)) = xs[0]? := by have h_ := hf 0 (by decide); simpa only [cells34, Nat.mul_one, Nat.zero_mul, Nat.reduceMul] using h_
    rw [cells34, List.getElem?_eq_getElem (by omega)] at e0
    have e1 : DataW.trod enc Tryd.prog W 0 (fun _ => true) true n 34 (([q0, q1].drop 1).take (Tryd.prog.cellsOf 34)) = xs[1]? := by have h_ := hf 1 (by decide); simpa only [cells34, Nat.mul_one, Nat.zero_mul, Nat.reduceMul] using h_
    rw [cells34, List.getElem?_eq_getElem (by omega)] at e1
    obtain ⟨a0, r0, _, w0⟩ := DataW.trod_int Tryd.underlying34 e0
    simp only [List.drop_succ_cons, List.drop_zero, List.take_succ_cons, List.take_zero, List.cons.injEq, and_true] at r0
    obtain rfl := r0
    obtain ⟨a1, r1, _, w1⟩ := DataW.trod_int Tryd.underlying34 e1
    simp only [List.drop_succ_cons, List.drop_zero, List.take_succ_cons, List.take_zero, List.cons.injEq, and_true] at r1
    obtain rfl := r1
    exact ⟨a0, a1, rfl, w0, w1⟩
def wf36 (x : S36) : Prop := ((Lit.int .u64 x.f0).wf = true) ∧ ((Lit.int .u64 x.f1).wf = true)
set_option maxRecDepth 100000 in
theorem opn36 {H : Type} {enc : TypeId × Value → H} {W : World} : Opn enc Tryd.prog W 36 k36 wf36 := by
  intro fuel cs x h
  obtain ⟨a0, a1, rfl, w0, w1⟩ := flat36 fuel cs x h
  exact ⟨(⟨a0, a1⟩ : S36), k36_mk W _ , ⟨w0, w1⟩⟩
set_option maxRecDepth 100000 in
theorem opn22 {H : Type} {enc : TypeId × Value → H} {W : World} : Opn enc Tryd.prog W 22 (Kd.slice 36 k36) (fun x => (∀ y ∈ x, wf36 y)) := Opn.slice Tryd.underlying22 cells36 opn36
theorem cells22 : Tryd.prog.cellsOf 22 = 1 := by kernel_rfl
theorem cells3 : Tryd.prog.cellsOf 3 = 1 := by kernel_rfl
theorem cells47 : Tryd.prog.cellsOf 47 = 7 := by kernel_rfl
set_option maxRecDepth 100000 in
theorem flat47 {H : Type} {enc : TypeId × Value → H} {W : World} : ∀ fuel cs x, DataW.trod enc Tryd.prog W 0 (fun _ => true) true fuel 47 cs = some x → ∃ (a0 : Int) (a1 : Int) (a2 : Int) (a3 : Int) (a4 : Int) (A5 : Option Addr) (c5 : Nat) (l5 : (List S36)) (A6 : Option Addr) (c6 : Nat) (l6 : (List S36)), cs = [.int .i64 a0, .int .u64 a1, .int .u64 a2, .int .u64 a3, .int .u64 a4, .slice A5 l5.length c5, .slice A6 l6.length c6] ∧ (Lit.int .i64 a0).wf = true ∧ (Lit.int .u64 a1).wf = true ∧ (Lit.int .u64 a2).wf = true ∧ (Lit.int .u64 a3).wf = true ∧ (Lit.int .u64 a4).wf = true ∧ l5.length ≤ c5 ∧ Kd.C k36 W A5 l5.length l5 ∧ (∀ y ∈ l5, wf36 y) ∧ l6.length ≤ c6 ∧ Kd.C k36 W A6 l6.length l6 ∧ (∀ y ∈ l6, wf36 y) := by
  intro fuel cs x h
  obtain ⟨xs, n, rfl, _, hl, hn, hf⟩ := DataW.trod_struct Tryd.underlying47 h
  rw [cells47] at hl
  match cs, hl with
  | [q0, q1, q2, q3, q4, q5, q6], _ =>
    have hx : xs.length = 5 := hn
    have e0 : DataW.trod enc Tryd.prog W 0 (fun _ => true) true n 3 (([q0, q1, q2, q3, q4, q5, q6].drop 0).take (Tryd.prog.cellsOf 3)) = xs[0]? := hf 0 _ rfl
    rw [cells3, List.getElem?_eq_getElem (by omega)] at e0
    have e1 : DataW.trod enc Tryd.prog W 0 (fun _ => true) true n 36 (([q0, q1, q2, q3, q4, q5, q6].drop 1).take (Tryd.prog.cellsOf 36)) = xs[1]? := hf 1 _ rfl
    rw [cells36, List.getElem?_eq_getElem (by omega)] at e1
    have e2 : DataW.trod enc Tryd.prog W 0 (fun _ => true) true n 36 (([q0, q1, q2, q3, q4, q5, q6].drop 3).take (Tryd.prog.cellsOf 36)) = xs[2]? := hf 2 _ rfl
    rw [cells36, List.getElem?_eq_getElem (by omega)] at e2
    have e3 : DataW.trod enc Tryd.prog W 0 (fun _ => true) true n 22 (([q0, q1, q2, q3, q4, q5, q6].drop 5).take (Tryd.prog.cellsOf 22)) = xs[3]? := hf 3 _ rfl
    rw [cells22, List.getElem?_eq_getElem (by omega)] at e3
    have e4 : DataW.trod enc Tryd.prog W 0 (fun _ => true) true n 22 (([q0, q1, q2, q3, q4, q5, q6].drop 6).take (Tryd.prog.cellsOf 22)) = xs[4]? := hf 4 _ rfl
    rw [cells22, List.getElem?_eq_getElem (by omega)] at e4
    obtain ⟨a0, r0, _, w0⟩ := DataW.trod_int Tryd.underlying3 e0
    simp only [List.drop_succ_cons, List.drop_zero, List.take_succ_cons, List.take_zero, List.cons.injEq, and_true] at r0
    obtain rfl := r0
    obtain ⟨a1, a2, r1, w1, w2⟩ := flat36 _ _ _ e1
    simp only [List.drop_succ_cons, List.drop_zero, List.take_succ_cons, List.take_zero, List.cons.injEq, and_true] at r1
    obtain ⟨rfl, rfl⟩ := r1
    obtain ⟨a3, a4, r2, w3, w4⟩ := flat36 _ _ _ e2
    simp only [List.drop_succ_cons, List.drop_zero, List.take_succ_cons, List.take_zero, List.cons.injEq, and_true] at r2
    obtain ⟨rfl, rfl⟩ := r2
    obtain ⟨l5, ⟨A5, c5, r3, hl5, hC5⟩, w5⟩ := opn22 _ _ _ e3
    simp only [List.drop_succ_cons, List.drop_zero, List.take_succ_cons, List.take_zero, List.cons.injEq, and_true] at r3
    obtain rfl := r3
    obtain ⟨l6, ⟨A6, c6, r4, hl6, hC6⟩, w6⟩ := opn22 _ _ _ e4
    simp only [List.drop_succ_cons, List.drop_zero, List.take_succ_cons, List.take_zero, List.cons.injEq, and_true] at r4
    obtain rfl := r4
    exact ⟨a0, a1, a2, a3, a4, A5, c5, l5, A6, c6, l6, rfl, w0, w1, w2, w3, w4, hl5, hC5, w5, hl6, hC6, w6⟩
end Go.Proofs.YtpnpmeogffodgaaDoor.Q
end
section
namespace Go.Proofs.YtpnpmeogffodgaaDoor.Q
open Go.ChangeShapes Go.WideShapes Go.ChangeAt Go.WideMaps Go.WideElems Go.RowKit
open Go.Proofs.YtpnpmeogffodgaaDoorW.PrintWords Go.Proofs.YtpnpmeogffodgaaDoorW.PrintLast Go.Proofs.YtpnpmeogffodgaaDoorW.PrintMore
open Go.Proofs.YtpnpmeogffodgaaDoor.Opn
set_option linter.unusedVariables false

theorem gFields : Tryd.prog.globalNamed "attestor/field.fields" = some 2 := by kernel_rfl
theorem tFields : (Tryd.prog.globals[2]?).map (·.type) = some 101 := by kernel_rfl
theorem gTab : Tryd.prog.globalNamed "math/bits.deBruijn64tab" = some 1 := by kernel_rfl
theorem tTab : (Tryd.prog.globals[1]?).map (·.type) = some 100 := by kernel_rfl
theorem cellsB : Tryd.prog.cellsOf 5 = 1 := by kernel_rfl
abbrev laid1 : List (String × DataW Unit) := [("attestor/field.fields", Rows.laid_attestor_field_fields), ("math/bits.deBruijn32tab", Rows.laid_math_bits_deBruijn32tab), ("math/bits.deBruijn64tab", Rows.laid_math_bits_deBruijn64tab)]
theorem cellsI : Tryd.prog.cellsOf 3 = 1 := by kernel_rfl
theorem cellsU : Tryd.prog.cellsOf 34 = 1 := by kernel_rfl
theorem cellsS : Tryd.prog.cellsOf 39 = 1 := by kernel_rfl
theorem cellsP : Tryd.prog.cellsOf 94 = 5 := by kernel_rfl
/-- A slice of numbers whose data are known. -/
theorem ints_of {H : Type} {enc : TypeId × Value → H} {W : World} {spare : Nat → Bool} {held : Bool} {fuel : Nat} {cs : List Value} {x : DataW H × List MemPlace} {vs : List Int} {r : List (DataW H)}
    (h : DataW.trod enc Tryd.prog W 0 spare held fuel 39 cs = some x) (hx : x.1 = .slice (vs.map fun v => .lit (.int .u64 v)) r) :
    ∃ A c, cs = [.slice A vs.length c] ∧ vs.length ≤ c ∧ Kd.C (Kd.int .u64) W A vs.length vs := by
  rcases Deep.open_slice1 Tryd.underlying39 cellsU h with ⟨_, rfl⟩ | ⟨a, len, cap, m, n, V, D, Pl, rfl, _, hl, hm, hmm, rfl, he⟩
  · cases hx
  · simp only [DataW.slice.injEq] at hx
    have hlen : len = vs.length := by have := congrArg List.length hx.1; simpa using this
    subst hlen
    have hlm : vs.length ≤ m := by rw [hmm]; split <;> omega
    refine ⟨some a, cap, rfl, hl, rfl, by unfold maxLen at hm; omega, fun _ => ⟨a, rfl, fun j p hp => ?_⟩⟩
    have hj : j < vs.length := (List.getElem?_eq_some_iff.1 hp).1
    obtain ⟨h1, h2⟩ := he j (by omega)
    obtain ⟨k, e1, e2, _⟩ := DataW.trod_int Tryd.underlying34 h2
    have hD : D j = .lit (.int .u64 p) := by
      have hpe : vs[j] = p := by have := hp; rw [List.getElem?_eq_getElem hj] at this; exact Option.some.inj this
      have := congrArg (fun l => l[j]?) hx.1
      simpa [hj, hpe] using this
    have hk : k = p := by
      have : (DataW.lit (.int .u64 p) : DataW H) = .lit (.int .u64 k) := by rw [← hD]; exact congrArg Prod.fst e2
      simpa using this.symm
    subst hk
    refine ⟨[.int .u64 k], rfl, rfl, fun i u hu => ?_⟩
    match i, hu with
    | 0, hu =>
      obtain rfl : Value.int .u64 k = u := by simpa using hu
      have : V j = .int .u64 k := by simpa using e1
      rw [← this]
      have h9 : j * (Kd.int IntKind.u64).sz = j := Nat.mul_one j
      show W.cell? ((a.add (j * (Kd.int IntKind.u64).sz)).add 0) = _
      rw [h9, add_add_]
      exact h1
theorem nil_of {H : Type} {enc : TypeId × Value → H} {W : World} {spare : Nat → Bool} {held : Bool} {fuel : Nat} {cs : List Value} {x : DataW H × List MemPlace}
    (h : DataW.trod enc Tryd.prog W 0 spare held fuel 39 cs = some x) (hx : x.1 = .nil) :
    ∃ A c, cs = [.slice A ([] : List Int).length c] ∧ ([] : List Int).length ≤ c ∧ Kd.C (Kd.int .u64) W A ([] : List Int).length [] := by
  rcases Deep.open_slice1 Tryd.underlying39 cellsU h with ⟨rfl, _⟩ | ⟨a, len, cap, m, n, V, D, Pl, rfl, _, hl, hm, hmm, rfl, he⟩
  · exact ⟨none, 0, rfl, Nat.le_refl _, Kd.C_nil _ _⟩
  · cases hx
/-- The numbers of field f, as the condition spells them. -/
def rowData {H : Type} (f : Nat) : DataW H := .agg [.lit (.int .u64 (fp f)), .lit (.int .u64 (fg f)), .lit (.int .i64 (ft f)), .lit (.int .i64 (fe f)), if f = 1 then .nil else .slice ((fl f).map fun v => .lit (.int .u64 v)) []]
set_option maxRecDepth 100000 in
/-- The condition gives the fact. -/
theorem gl_of_laid {W : World} (h : laidMetH Tryd.prog laid1 W) : GL W := by
  rw [MakeChecks.laidMetH_plain _ _ _ (by kernel_rfl)] at h
  obtain ⟨ps, ⟨g0, t0, cs0, f0, p0, q0, hg0, ht0, hv0, hd0, ⟨g1, t1, cs1, f1, p1, q1, hg1, ht1, hv1, hd1, ⟨g2, t2, cs2, f2, p2, q2, hg2, ht2, hv2, hd2, _, _⟩, _⟩, _⟩, _, _⟩ := h
  obtain rfl := Option.some.inj (gFields.symm.trans hg0)
  obtain rfl := Option.some.inj (tFields.symm.trans ht0)
  obtain ⟨xs, m1, rfl, hx1, hlen, hn, hel⟩ := DataW.trod_array Tryd.underlying101 hd0
  simp only [Prod.mk.injEq, Rows.laid_attestor_field_fields, DataW.agg.injEq] at hx1
  have key : ∀ f : Nat, f < 4 → ∃ A c, (cs0.toList.drop (f * 5)).take 5 = [.int .u64 (fp f), .int .u64 (fg f), .int .i64 (ft f), .int .i64 (fe f), .slice A (fl f).length c] ∧ (fl f).length ≤ c ∧ Kd.C (Kd.int .u64) W A (fl f).length (fl f) := by
    intro f hf
    have hj1 := hel f hf
    rw [List.getElem?_eq_getElem (by omega : f < xs.length), cellsP] at hj1
    have hdat : (xs[f]).1 = rowData f := by
      have : (xs.map (·.1))[f]? = some (rowData f) := by
        rw [← hx1.1]
        rcases (show f = 0 ∨ f = 1 ∨ f = 2 ∨ f = 3 by omega) with rfl | rfl | rfl | rfl <;> rfl
      rw [List.getElem?_map, List.getElem?_eq_getElem (by omega : f < xs.length), Option.map_some] at this
      exact Option.some.inj this
    generalize hcs : (cs0.toList.drop (f * 5)).take 5 = cs at hj1 ⊢
    obtain ⟨ys, n, _, hy, hl, hny, hf2⟩ := DataW.trod_struct Tryd.underlying94 hj1
    rw [cellsP] at hl
    match cs, hl with
    | [c0, c1, c2, c3, c4], _ =>
      have e0 : DataW.trod _ Tryd.prog W 0 _ _ n 34 (([c0, c1, c2, c3, c4].drop 0).take (Tryd.prog.cellsOf 34)) = ys[0]? := hf2 0 _ rfl
      have e1 : DataW.trod _ Tryd.prog W 0 _ _ n 34 (([c0, c1, c2, c3, c4].drop 1).take (Tryd.prog.cellsOf 34)) = ys[1]? := hf2 1 _ rfl
      have e2 : DataW.trod _ Tryd.prog W 0 _ _ n 3 (([c0, c1, c2, c3, c4].drop 2).take (Tryd.prog.cellsOf 3)) = ys[2]? := hf2 2 _ rfl
      have e3 : DataW.trod _ Tryd.prog W 0 _ _ n 3 (([c0, c1, c2, c3, c4].drop 3).take (Tryd.prog.cellsOf 3)) = ys[3]? := hf2 3 _ rfl
      have e4 : DataW.trod _ Tryd.prog W 0 _ _ n 39 (([c0, c1, c2, c3, c4].drop 4).take (Tryd.prog.cellsOf 39)) = ys[4]? := hf2 4 _ rfl
      have x5 : ys.length = 5 := hny
      rw [cellsU, List.getElem?_eq_getElem (by omega)] at e0 e1
      rw [cellsI, List.getElem?_eq_getElem (by omega)] at e2 e3
      rw [cellsS, List.getElem?_eq_getElem (by omega)] at e4
      have hy1 : DataW.agg (ys.map (·.1)) = rowData f := by rw [← hdat, hy]
      simp only [rowData, DataW.agg.injEq] at hy1
      have d0 : ys[0].1 = .lit (.int .u64 (fp f)) := by have := congrArg (fun l => l[0]?) hy1; simpa [x5] using this
      have d1 : ys[1].1 = .lit (.int .u64 (fg f)) := by have := congrArg (fun l => l[1]?) hy1; simpa [x5] using this
      have d2 : ys[2].1 = .lit (.int .i64 (ft f)) := by have := congrArg (fun l => l[2]?) hy1; simpa [x5] using this
      have d3 : ys[3].1 = .lit (.int .i64 (fe f)) := by have := congrArg (fun l => l[3]?) hy1; simpa [x5] using this
      have d4 : ys[4].1 = (if f = 1 then .nil else .slice ((fl f).map fun v => .lit (.int .u64 v)) []) := by have := congrArg (fun l => l[4]?) hy1; simpa [x5] using this
      obtain ⟨a0, r0, s0, _⟩ := DataW.trod_int Tryd.underlying34 e0
      obtain ⟨a1, r1, s1, _⟩ := DataW.trod_int Tryd.underlying34 e1
      obtain ⟨a2, r2, s2, _⟩ := DataW.trod_int Tryd.underlying3 e2
      obtain ⟨a3, r3, s3, _⟩ := DataW.trod_int Tryd.underlying3 e3
      obtain rfl : a0 = fp f := by rw [s0] at d0; simpa using d0
      obtain rfl : a1 = fg f := by rw [s1] at d1; simpa using d1
      obtain rfl : a2 = ft f := by rw [s2] at d2; simpa using d2
      obtain rfl : a3 = fe f := by rw [s3] at d3; simpa using d3
      replace r0 : c0 = .int .u64 (fp f) := by simpa using r0
      replace r1 : c1 = .int .u64 (fg f) := by simpa using r1
      replace r2 : c2 = .int .i64 (ft f) := by simpa using r2
      replace r3 : c3 = .int .i64 (fe f) := by simpa using r3
      subst r0; subst r1; subst r2; subst r3
      have h4 : ∃ A c, [c4] = [.slice A (fl f).length c] ∧ (fl f).length ≤ c ∧ Kd.C (Kd.int .u64) W A (fl f).length (fl f) := by
        by_cases h1 : f = 1
        · subst h1
          rw [if_pos rfl] at d4
          exact nil_of (x := ys[4]) e4 d4
        · rw [if_neg h1] at d4
          exact ints_of (x := ys[4]) e4 d4
      obtain ⟨A, c, hc, hle, hC⟩ := h4
      obtain rfl : c4 = .slice A (fl f).length c := by simpa using hc
      exact ⟨A, c, rfl, hle, hC⟩
  have cell : ∀ f : Nat, f < 4 → ∀ j : Nat, j < 5 → W.cell? ⟨2, 5 * f + j, none⟩ = ((cs0.toList.drop (f * 5)).take 5)[j]? := by
    intro f hf j hj
    have hv := World.var?_cell hg0 hv0 (5 * f + j)
    rw [hv, List.getElem?_take, if_pos (by omega), List.getElem?_drop, Nat.mul_comm f 5]
    simp
  obtain rfl := Option.some.inj (gTab.symm.trans hg2)
  obtain rfl := Option.some.inj (tTab.symm.trans ht2)
  obtain ⟨zs, m2, rfl, hz1, hlen2, hn2, hel2⟩ := DataW.trod_array Tryd.underlying100 hd2
  have hlist : ∀ {H : Type}, (Rows.laid_math_bits_deBruijn64tab : DataW H) = DataW.agg (db64.map fun v => .lit (.int .u8 v)) := fun {_} => rfl
  rw [hlist] at hz1
  simp only [Prod.mk.injEq, DataW.agg.injEq] at hz1
  have ukey : ∀ i : Nat, i < 64 → (cs2.toList.drop (i * 1)).take 1 = [.int .u8 (db64.getD i 0)] := by
    intro i hi
    have hj := hel2 i hi
    rw [List.getElem?_eq_getElem (by omega : i < zs.length), cellsB] at hj
    have hdat : (zs[i]).1 = .lit (.int .u8 (db64.getD i 0)) := by
      have : (zs.map (·.1))[i]? = some (.lit (.int .u8 (db64.getD i 0))) := by
        rw [← hz1.1, List.getElem?_map]
        have h64 : i < db64.length := hi
        rw [List.getElem?_eq_getElem h64, Option.map_some]
        simp [List.getD, h64]
      rw [List.getElem?_map, List.getElem?_eq_getElem (by omega : i < zs.length), Option.map_some] at this
      exact Option.some.inj this
    obtain ⟨a, r, s, _⟩ := DataW.trod_int Tryd.underlying5 hj
    obtain rfl : a = db64.getD i 0 := by rw [s] at hdat; simpa using hdat
    exact r
  have ucell : ∀ i : Nat, i < 64 → W.cell? ⟨1, i, none⟩ = some (.int .u8 (db64.getD i 0)) := by
    intro i hi
    have hv := World.var?_cell hg2 hv2 i
    have hu := ukey i hi
    have h0 : ((cs2.toList.drop (i * 1)).take 1)[0]? = some (.int .u8 (db64.getD i 0)) := by rw [hu]; rfl
    rw [List.getElem?_take, if_pos (by omega), List.getElem?_drop, Nat.mul_one, Nat.add_zero] at h0
    rw [hv]
    simpa using h0
  refine ⟨fun f hf => ?_, fun f hf => ?_, fun f hf => ?_, fun f hf => ?_, fun f hf => ?_, ucell⟩
  all_goals obtain ⟨A, c, e, hl, hC⟩ := key f hf
  · exact (cell f hf 0 (by omega)).trans (by rw [e]; rfl)
  · exact (cell f hf 1 (by omega)).trans (by rw [e]; rfl)
  · exact (cell f hf 2 (by omega)).trans (by rw [e]; rfl)
  · exact (cell f hf 3 (by omega)).trans (by rw [e]; rfl)
  · exact ⟨A, c, (cell f hf 4 (by omega)).trans (by rw [e]; rfl), hl, hC⟩
/-- The door's own heap meets the condition. -/
theorem door_met (os : Os) (args : Array Value) : laidMetH Tryd.prog laid1 ((World.doorLaid Tryd.prog 400 os).forCall (fun _ _ => 0) ⟨#[], args, []⟩).memory :=
  laidMetH_of_parts3 (fuel := 8) (laidMet_of_run' 8 (by kernel_rfl) (by kernel_rfl)) (by kernel_rfl) (by kernel_rfl)
theorem opnL {H : Type} {enc : TypeId × Value → H} {W : World} : Opn enc Tryd.prog W 39 (Kd.slice 34 (Kd.int .u64)) (fun l => ∀ y ∈ l, (Lit.int .u64 y).wf = true) := Opn.slice Tryd.underlying39 cellsU (Opn.int Tryd.underlying34)
theorem wf_u8 {x : Int} (h : (Lit.int .u8 x).wf = true) : 0 ≤ x ∧ x < 256 := by
  simp [Lit.wf, IntKind.min, IntKind.max, IntKind.signed, IntKind.bits] at h
  omega
theorem wf_u64 {x : Int} (h : (Lit.int .u64 x).wf = true) : 0 ≤ x ∧ x < 18446744073709551616 := by
  simp [Lit.wf, IntKind.min, IntKind.max, IntKind.signed, IntKind.bits] at h
  omega
theorem wf_i64 {x : Int} (h : (Lit.int .i64 x).wf = true) : -9223372036854775808 ≤ x ∧ x ≤ 9223372036854775807 := by
  simp [Lit.wf, IntKind.min, IntKind.max, IntKind.signed, IntKind.bits] at h
  omega
end Go.Proofs.YtpnpmeogffodgaaDoor.Q
end
section
namespace Go.Proofs.YtpnpmeogffodgaaDoor.Q
open Go.RowKit Go.Proofs.YtpnpmeogffodgaaDoorW.PrintWords Go.Proofs.YtpnpmeogffodgaaDoorW.PrintLast Go.Proofs.YtpnpmeogffodgaaDoorW.PrintMore
theorem aj {p : Prop} (h : p) : Aside0 p := ⟨h⟩
theorem bc1 {w : World} {g : Nat} {t : TypeId} {v0 : Value} (h : Aside0 (w.heap[g]? = some (.cells #[v0] t (0, 0)))) : w.cell? ⟨g, 0, none⟩ = some v0 ∧ w.frozen? ⟨g, 0, none⟩ = false := ⟨(blk_cell h.out 0).trans rfl, blk_frozen h.out 0⟩
theorem bq_ {w : World} {a : Nat} {cs : Array Value} {t : TypeId} {v : Value} (h : Aside0 (w.heap[a]? = some (.cells cs t (0, 0)))) (j : Nat) (e : cs[j]? = some v := by rfl) : w.cell? ⟨a, j, none⟩ = some v := (blk_cell h.out j).trans e
theorem ra_ {w w1 : World} {n g : Nat} {t : TypeId} {cs : Array Value} (hq : w.drewN n = w1) (h : Aside0 (w.heap[g]? = some (.cells cs t (0, 0)))) : Aside0 (w1.heap[g]? = some (.cells cs t (0, 0))) := ⟨blk_at hq h.out⟩
theorem rb_ {w w1 w0 : World} {n s : Nat} (hq : w.drewN n = w1) (h : Aside0 (Below s w0 w)) : Aside0 (Below s w0 w1) := ⟨below_at hq h.out⟩
theorem sa_ {α : Type} (l : List α) (i : Nat) (a : α) : l.toArray.setIfInBounds i a = (l.set i a).toArray := List.setIfInBounds_toArray ..
theorem sb_ {α : Type} (x : α) (l : List α) (b : α) : (x :: l).set 0 b = b :: l := rfl
theorem sc_ {α : Type} (x : α) (l : List α) (n : Nat) (b : α) : (x :: l).set (n + 1) b = x :: l.set n b := rfl
theorem an_ {md : Region.Mode} {ops : Array Oper} {T : Bool × List (List Nat × List Nat)} {l l' : Array Bool} {i : Nat} (hT : Aside0 (rtab md ops = T)) (h : anyT T l.toList l'.toList i = true := by kernel_rfl) : anyB md ops l l' i = true := any_of hT.out h
theorem on_ {md : Region.Mode} {ops : Array Oper} {T : Bool × List (List Nat × List Nat)} {l l' : Array Bool} {i : Nat} (hT : Aside0 (rtab md ops = T)) (h : (readyT T.2 l.toList == [i] && l.toList.set i true == l'.toList) = true := by kernel_rfl) : readyB md ops l l' i = true := one_of hT.out h
theorem tk_ {md : Region.Mode} {ops : Array Oper} {T : Bool × List (List Nat × List Nat)} {l l' : Array Bool} {ds : List Nat} {i : Nat} {B : List Nat} (hT : Aside0 (rtab md ops = T)) (hB : Aside0 (waitsOk T.2 B = true)) (h : takeW T B ds l.toList l'.toList i = true := by kernel_rfl) : takeB md ops ds l l' i = true := take_ofW hT.out hB.out h
end Go.Proofs.YtpnpmeogffodgaaDoor.Q
end
section
namespace Go.Proofs.YtpnpmeogffodgaaDoor.Q
open Go.RowKit Go.Proofs.YtpnpmeogffodgaaDoorW.PrintWords Go.Proofs.YtpnpmeogffodgaaDoorW.PrintLast Go.Proofs.YtpnpmeogffodgaaDoorW.PrintMore
attribute [local go_sem] max2_int min2_int max_two min_two max_three min_three max_four min_four run_store_fnV run_store_fnc run_store_nfn   -- for this text's walks alone
set_option linter.unusedVariables false
set_option linter.unusedSimpArgs false

-- BY HAND: function 37 (tree_height): Derived.Test.YtpnpmeogffodgaaDoorHHeight

/-! ### field_Valid: function 38 -/
def field_Valid.f (a0 : Int) : Option (Bool) := if a0 ≥ 0 then (some (decide (a0 < 4))) else (some false)
set_option maxHeartbeats 8000000 in
set_option maxRecDepth 100000 in
theorem field_Valid.calls (a0 : Int) (r : Bool) (w : World) (h : field_Valid.f a0 = some r) :
    Calls Tryd.prog 38 #[.int .i64 a0] w fun e w' => e = .returned (.bool r) ∧ Drawn0 w w' := by
  have H : (if a0 ≥ 0 then (some (decide (a0 < 4))) else (some false)) = some r := h
  clear h
  by_cases c2 : a0 ≥ 0
  · rw [if_pos c2] at H
    have c2b0 : decide (0 ≤ a0) = true := decide_eq_true c2
    clear c2
    obtain rfl := Option.some.inj H
    go_enter Tryd.func38, Tryd.ntmps38
    go_wp2
    go_ret
    exact ⟨by first | rfl | (simp; done) | (simp [*]; done), by repeat (first | exact Drawn0.refl _ | apply Drawn0.step)⟩
  · rw [if_neg c2] at H
    have c2b0 : decide (0 ≤ a0) = false := decide_eq_false c2
    clear c2
    obtain rfl := Option.some.inj H
    go_enter Tryd.func38, Tryd.ntmps38
    go_wp2
    go_ret
    exact ⟨by first | rfl | (simp; done) | (simp [*]; done), by repeat (first | exact Drawn0.refl _ | apply Drawn0.step)⟩

-- NOT PRINTED: function 70 (field_of)

end Go.Proofs.YtpnpmeogffodgaaDoor.Q
end
section
namespace Go.Proofs.YtpnpmeogffodgaaDoor.Q
open Go.RowKit Go.Proofs.YtpnpmeogffodgaaDoorW.PrintWords Go.Proofs.YtpnpmeogffodgaaDoorW.PrintLast Go.Proofs.YtpnpmeogffodgaaDoorW.PrintMore
set_option linter.unusedVariables false
set_option linter.unusedSimpArgs false
theorem proper1_calls (gp : Nat) (p d0 d1 : Int) (w : World) (hp : w.cell? ⟨gp, 0, none⟩ = some (.int .u64 p)) :
    Calls Tryd.prog 60 #[.agg #[.int .u64 d0, .int .u64 d1], .pointer (some ⟨gp, 0, none⟩)] w fun e w' => e = .returned (.bool (decide (p ≤ d0) || decide (p ≤ d1))) ∧ Below w.heap.size w w' := by
  have hu36 := Tryd.underlying36
  have g0 := fun O => pw_cell_below (below_alloc (Below.refl _ w) O) hp
  clear hp
  cases c0 : decide (p ≤ d0) with
  | true =>
    go_enter Tryd.func60, Tryd.ntmps60
    go_wp2
    go_ret
    exact ⟨rfl, below_alloc (Below.refl _ _) _⟩
  | false =>
    cases c1 : decide (p ≤ d1) with
    | true =>
      go_enter Tryd.func60, Tryd.ntmps60
      go_wp2
      go_ret
      exact ⟨rfl, below_alloc (Below.refl _ _) _⟩
    | false =>
      go_enter Tryd.func60, Tryd.ntmps60
      go_wp2
      go_ret
      exact ⟨rfl, below_alloc (Below.refl _ _) _⟩
/-- Is a digest not proper? -/
def badD (p : Int) (d : S36) : Bool := decide (p ≤ d.f0) || decide (p ≤ d.f1)
def idxD (p : Int) (l : List S36) : Nat → Nat → Int
  | 0, _ => -1
  | k + 1, i => if i < l.length then (if badD p (rd_T36 l (i : Int)) = true then (i : Int) else idxD p l k (i + 1)) else -1
set_option maxHeartbeats 2000000 in
set_option maxRecDepth 100000 in
theorem index_calls (gp : Nat) (p : Int) (A1 : Option Addr) (c1 : Nat) (l1 : List (S36)) (r : Int) (w : World) (hp : w.cell? ⟨gp, 0, none⟩ = some (.int .u64 p)) (hr1 : Kd.C k36 w A1 l1.length l1) (hc1 : l1.length ≤ c1) (h : idxD p l1 (l1.length + 1) 0 = r) :
    Calls Tryd.prog 71 #[.slice A1 l1.length c1, .func (.func 60) #[] #[.pointer (some ⟨gp, 0, none⟩)]] w fun e w' => e = .returned (.int .i64 r) ∧ Below w.heap.size w w' := by
  have hu36 := Tryd.underlying36
  have HR1 := Aside0.mk hr1
  have HP := Aside0.mk hp
  have HC1 := Aside0.mk hc1
  have H' := Aside0.mk h
  have hl : l1.length ≤ 9223372036854775807 := Kd.C_max hr1
  have HL := Aside0.mk hl
  clear hr1 hc1 hp h hl
  have HB := Aside0.mk (Below.refl w.heap.size w)
  go_enter Tryd.func71, Tryd.ntmps71
  go_wp2
  go_loopg [8] (l1.length + 1) (fun kq v8 w' => ∃ i : Nat, v8 = .int .i64 (i : Int) ∧ Aside0 (idxD p l1 kq i = r) ∧ Aside0 (kq + i = l1.length + 1) ∧ Aside0 (Below w.heap.size w w'))
  case atStart => exact ⟨0, rfl, H', ⟨rfl⟩, HB⟩
  case round =>
    clear H' HB
    obtain ⟨i, rfl, HA, HK, HB⟩ := hrel
    cases gk with
    | zero =>
      have c3b0 : decide (i < l1.length) = false := decide_eq_false (by have := HK.out; omega)
      obtain rfl : -1 = r := HA.out
      go_wp2
      go_ret
      exact ⟨rfl, HB.out⟩
    | succ k1 =>
      have H := HA.out
      clear HA
      simp only [idxD] at H
      by_cases c3 : i < l1.length
      · rw [if_pos c3] at H
        have c3b0 : decide (i < l1.length) = true := decide_eq_true c3
        have p271 : 0 ≤ (i : Int) := by omega
        have q271 : (i : Int) < (l1.length : Int) := by omega
        clear c3
        have hadd : wrap64 ((i : Int) + 1) = ((i + 1 : Nat) : Int) := by have := HL.out; unfold wrap64; omega
        obtain ⟨ad271, e271, hx271_0, hx271_1⟩ := at_T36 HR1.out (i : Int) p271 q271
        cases e271
        simp only [Int.toNat_natCast] at hx271_0 hx271_1
        replace hx271_0 := (HB.out.cell (World.block_lt_of_cell? w _ hx271_0)).trans hx271_0
        replace hx271_1 := (HB.out.cell (World.block_lt_of_cell? w _ hx271_1)).trans hx271_1
        replace p271 := eq_true p271
        replace q271 := eq_true q271
        have HC := Aside0.mk (fun W (hp : W.cell? ⟨gp, 0, none⟩ = some (.int .u64 p)) => proper1_calls gp p (rd_T36 l1 (i : Int)).f0 (rd_T36 l1 (i : Int)).f1 W hp)
        have HP2 := Aside0.mk (pw_cell_below HB.out HP.out)
        by_cases c6 : badD p (rd_T36 l1 (i : Int)) = true
        · rw [if_pos c6] at H
          obtain rfl := H
          have c6b : (decide (p ≤ (rd_T36 l1 (i : Int)).f0) || decide (p ≤ (rd_T36 l1 (i : Int)).f1)) = true := c6
          clear c6
          rw [c6b] at HC
          go_wp2_with (go_at_call 60; (with_reducible refine (HC.out _ HP2.out).mono ?_); rintro e w7 ⟨rfl, hb⟩; have HB7 := Aside0.mk (below_step HB.out hb); clear hb)
          go_ret
          exact ⟨rfl, HB7.out⟩
        · rw [if_neg c6] at H
          have c6b : (decide (p ≤ (rd_T36 l1 (i : Int)).f0) || decide (p ≤ (rd_T36 l1 (i : Int)).f1)) = false := Bool.eq_false_iff.mpr c6
          clear c6
          rw [c6b] at HC
          have H2 := Aside0.mk H
          clear H
          go_wp2_with (go_at_call 60; (with_reducible refine (HC.out _ HP2.out).mono ?_); rintro e w7 ⟨rfl, hb⟩; have HB7 := Aside0.mk (below_step HB.out hb); clear hb)
          go_roundg k1
          case measure => omega
          case rel => exact ⟨i + 1, by rw [hadd], H2, ⟨by have := HK.out; omega⟩, HB7⟩
      · rw [if_neg c3] at H
        have c3b0 : decide (i < l1.length) = false := decide_eq_false (by omega)
        obtain rfl : -1 = r := H
        clear c3
        go_wp2
        go_ret
        exact ⟨rfl, HB.out⟩
theorem idx_bad (p : Int) (l : List S36) : ∀ k i, k + i = l.length + 1 → decide (0 ≤ idxD p l k i) = (l.drop i).any (badD p)
  | 0, i, h => by
    rw [List.drop_eq_nil_of_le (by omega)]
    simp [idxD]
  | k + 1, i, h => by
    unfold idxD
    by_cases hi : i < l.length
    · rw [if_pos hi, List.drop_eq_getElem_cons hi, List.any_cons]
      have e : rd_T36 l (i : Int) = l[i] := by simp [rd_T36, List.getD, hi]
      rw [e]
      by_cases hb : badD p l[i] = true
      · rw [if_pos hb, hb, Bool.true_or]
        exact decide_eq_true (by omega)
      · rw [if_neg hb, Bool.eq_false_iff.mpr hb, Bool.false_or]
        exact idx_bad p l k (i + 1) (by omega)
    · rw [if_neg hi, List.drop_eq_nil_of_le (by omega)]
      simp
set_option maxHeartbeats 2000000 in
set_option maxRecDepth 100000 in
theorem contains_calls (gp : Nat) (p : Int) (A1 : Option Addr) (c1 : Nat) (l1 : List (S36)) (w : World) (hp : w.cell? ⟨gp, 0, none⟩ = some (.int .u64 p)) (hr1 : Kd.C k36 w A1 l1.length l1) (hc1 : l1.length ≤ c1) :
    Calls Tryd.prog 59 #[.slice A1 l1.length c1, .func (.func 60) #[] #[.pointer (some ⟨gp, 0, none⟩)]] w fun e w' => e = .returned (.bool (l1.any (badD p))) ∧ Below w.heap.size w w' := by
  have HC := Aside0.mk (index_calls gp p A1 c1 l1 _ w hp hr1 hc1 rfl)
  have hb : decide (0 ≤ idxD p l1 (l1.length + 1) 0) = l1.any (badD p) := by have := idx_bad p l1 (l1.length + 1) 0 rfl; rw [List.drop_zero] at this; exact this
  generalize idxD p l1 (l1.length + 1) 0 = r at *
  rw [← hb]
  clear hb hp hr1 hc1
  go_enter Tryd.func59, Tryd.ntmps59
  go_wp2_with (go_at_call 71; (with_reducible refine HC.out.mono ?_); rintro e w7 ⟨rfl, hb⟩; have HB7 := Aside0.mk hb; clear hb)
  go_ret
  exact ⟨rfl, HB7.out⟩
def tree_proper.f (f : Int) (l : List S36) : Option Bool := (field_P.f f).bind fun p => some (!(l.any (badD p)))
set_option maxHeartbeats 2000000 in
set_option maxRecDepth 100000 in
theorem tree_proper.calls (a0 : Int) (A1 : Option Addr) (c1 : Nat) (l1 : List (S36)) (r : Bool) (w : World) (hr1 : Kd.C k36 w A1 l1.length l1) (hc1 : l1.length ≤ c1) (hrG : GL w) (h : tree_proper.f a0 l1 = some r) :
    Calls Tryd.prog 39 #[.int .i64 a0, .slice A1 l1.length c1] w fun e w' => e = .returned (.bool r) ∧ Below w.heap.size w w' := by
  have HRG := Aside0.mk hrG
  have HR1 := Aside0.mk hr1
  obtain ⟨p, A0, H⟩ := Option.bind_eq_some_iff.mp h
  have HPC := Aside0.mk (field_P.calls a0 p w hrG A0)
  have hmf : ∀ (fn : Fn) (first cap : Array Value) (w : World), (Instr.makeFunc fn first cap).run Tryd.prog w = .ok (.func fn first cap) w := fun _ _ _ _ => rfl
  obtain rfl := Option.some.inj H
  clear h H A0 hrG hr1
  have HC := Aside0.mk (fun (gp : Nat) (W : World) (hb : Below w.heap.size w W) hp => contains_calls gp p A1 c1 l1 W hp (Kd.C_below HR1.out hb) hc1)
  generalize l1.any (badD p) = b at *
  go_enter Tryd.func39, Tryd.ntmps39
  go_wp2_with (first
    | (go_at_call 58; (with_reducible refine HPC.out.mono ?_); rintro e w3 ⟨rfl, hb⟩; have HB3 := Aside0.mk hb; clear hb)
    | ((with_reducible refine gate_dst (N := 5) rfl ?_); refine box_event ?hg (N := 5) ?hd (cs := #[.int .u64 0]) (t := 34) ?hr ?_; (case hd => rfl); (case hg => rfl); (case hr => first | (go_simp; done) | (go_simp; rfl)); intro gp xg w4 y4 hb; have HB4 := Aside0.mk (below_step HB3.out hb); have B4 := Aside0.mk y4; have HG := Aside0.mk (show w.heap.size ≤ gp from xg ▸ HB3.out.size); have hx4 : w4.cell? ⟨gp, 0, none⟩ = some (.int .u64 0) := (blk_cell y4 0).trans rfl; have hf4 := blk_frozen y4 0; clear xg y4 hb HB3)
    | ((with_reducible refine gate_store (t := 34) (p := 5) rfl ?_); refine store_event (t := 34) (p := 5) (v := .tmp 7) (w1 := (w4.setCell ⟨gp, 0, none⟩ (.int .u64 p))) ?hg ?ho ?hn ?hr ?_; (case ho => rfl); (case hg => rfl); (case hn => rfl); (case hr => first | (go_simp; done) | (go_simp; rfl)); intro w5 hw; have HB5 := Aside0.mk (show Below w.heap.size w w5 from by rw [hw]; exact below_set HB4.out HG.out); have C5 := Aside0.mk (show w5.cell? ⟨gp, 0, none⟩ = some (.int .u64 p) from by rw [hw]; exact (blk_cell (blk_put B4.out 0 _ rfl) 0).trans rfl); clear hw hx4 hf4)
    | (go_at_call 59; (with_reducible refine (HC.out _ _ HB5.out C5.out).mono ?_); rintro e w6 ⟨rfl, hb⟩; have HB6 := Aside0.mk (below_step HB5.out hb); clear hb))
  go_ret
  exact ⟨rfl, HB6.out⟩
end Go.Proofs.YtpnpmeogffodgaaDoor.Q
end
section
namespace Go.Proofs.YtpnpmeogffodgaaDoor.Q
open Go.RowKit Go.Proofs.YtpnpmeogffodgaaDoorW.PrintWords Go.Proofs.YtpnpmeogffodgaaDoorW.PrintLast Go.Proofs.YtpnpmeogffodgaaDoorW.PrintMore
attribute [local go_sem] max2_int min2_int max_two min_two max_three min_three max_four min_four run_store_fnV run_store_fnc run_store_nfn   -- for this text's walks alone
set_option linter.unusedVariables false
set_option linter.unusedSimpArgs false

/-! ### tree_opens: function 47 -/
def tree_opens.f (a0 : Int) (a1 : Int) (aa : Int) (ab : Int) (l3 : List (S36)) : Option (Bool) := (field_Valid.f a0).bind fun aq => (if aq = true then (if a1 ≥ 0 then (if (l3.length : Int) ≤ 18 then ((tree_proper.f a0 (([(⟨aa, ab⟩ : S36)] : List (S36)))).bind fun al => (if al = true then ((tree_proper.f a0 l3).bind fun ai => (some ai)) else (some false))) else (some false)) else (some false)) else (some false))
set_option maxHeartbeats 8000000 in
set_option maxRecDepth 100000 in
theorem tree_opens.calls (a0 : Int) (a1 : Int) (aa : Int) (ab : Int) (A3 : Option Addr) (c3 : Nat) (l3 : List (S36)) (r : Bool) (w : World) (aw : Kd.C k36 w A3 l3.length l3) (ax : l3.length ≤ c3) (hrG : GL w) (h : tree_opens.f a0 a1 aa ab l3 = some r) :
  Calls Tryd.prog 47 #[.int .i64 a0, .int .i64 a1, .agg #[.int .u64 aa, .int .u64 ab], .slice A3 l3.length c3] w fun e w' => e = .returned (.bool r) ∧ Below w.heap.size w w' := by
 have hu36 := Tryd.underlying36
 have HRG := aj hrG
 clear hrG
 have aN := aj aw
 have aO := aj ax
 clear aw ax
 have HB := aj (Below.refl w.heap.size w)
 have H : ((field_Valid.f a0).bind fun aq => (if aq = true then (if a1 ≥ 0 then (if (l3.length : Int) ≤ 18 then ((tree_proper.f a0 (([(⟨aa, ab⟩ : S36)] : List (S36)))).bind fun al => (if al = true then ((tree_proper.f a0 l3).bind fun ai => (some ai)) else (some false))) else (some false)) else (some false)) else (some false))) = some r := h
 clear h
 replace H := Option.bind_eq_some_iff.mp H
 obtain ⟨aq, ay, H⟩ := H
 have A5 := aj ay
 clear ay
 by_cases c6 : aq = true
 ·subst c6
  have H1 : (if a1 ≥ 0 then (if (l3.length : Int) ≤ 18 then ((tree_proper.f a0 (([(⟨aa, ab⟩ : S36)] : List (S36)))).bind fun al => (if al = true then ((tree_proper.f a0 l3).bind fun ai => (some ai)) else (some false))) else (some false)) else (some false)) = some r := by rw [if_pos rfl] at H; exact H
  clear H
  have H := H1
  clear H1
  by_cases c7 : a1 ≥ 0
  ·rw [if_pos c7] at H
   have c7b0 : decide (0 ≤ a1) = true := decide_eq_true c7
   clear c7
   by_cases c8 : (l3.length : Int) ≤ 18
   ·rw [if_pos c8] at H
    have c8b0 : decide ((l3.length : Int) ≤ 18) = true := decide_eq_true c8
    have c8b1 : decide (l3.length ≤ 18) = true := decide_eq_true (by omega)
    clear c8
    obtain ⟨ar, ao⟩ : ∃ y_ : List (S36), y_ = (([(⟨aa, ab⟩ : S36)] : List (S36))) := ⟨_, rfl⟩
    (first | rw [← ao] at H | simp only [← ao] at H)
    have ap := aj ao
    clear ao
    replace H := Option.bind_eq_some_iff.mp H
    obtain ⟨al, az, H⟩ := H
    have A9 := aj az
    clear az
    by_cases c10 : al = true
    ·subst c10
     have H1 : ((tree_proper.f a0 l3).bind fun ai => (some ai)) = some r := by rw [if_pos rfl] at H; exact H
     clear H
     have H := H1
     clear H1
     replace H := Option.bind_eq_some_iff.mp H
     obtain ⟨ai, av, H⟩ := H
     have aP := aj av
     clear av
     obtain rfl := Option.some.inj H
     go_enter Tryd.func47, Tryd.ntmps47
     go_wp2_with (first | ((with_reducible refine gate_dst (N := 6) rfl ?_); (try (refine gate_guard (by rfl) ?_; dsimp only)); refine box_event ?hg (N := 6) ?hd (cs := #[.int .u64 aa, .int .u64 ab]) (t := 36) ?hr ?_; (case hd => rfl); (case hg => rfl); (case hr => first | (go_simp; done) | (go_simp; rfl)); intro ae hg aA hbox hb; have af := aj (below_step (by first | exact HB.out | exact below_drew1 HB.out | exact pw_below_drewN HB.out _) hb); have ag := aj (hbox); have am := aj ((by rw [hg]; exact (below_size (by first | exact HB.out | exact below_drew1 HB.out | exact pw_below_drewN HB.out _)) : w.heap.size ≤ ae)); clear HB; have HB := af; have ac := ag; have ah := am; clear af ag am; clear hb hbox hg) | ((with_reducible refine gate_callee (f := 38) rfl ?_); refine goesL_ (some 10) rfl rfl Tryd.func38 (by kernel_rfl) rfl #[.int .i64 a0] rfl (by (try simp only [List.map_toArray, List.map_cons, List.map_nil]); first | done | rfl | (go_simp; done)) ?_; (with_reducible refine (field_Valid.calls a0 true _ A5.out).mono ?_); rintro e w' ⟨rfl, ⟨nd, rfl⟩⟩; refine ⟨_, rfl, ?_⟩; have aF : aA.cell? ⟨ae, 0, none⟩ = some (.int .u64 aa) := bq_ ac 0; have aG : aA.cell? ⟨ae, 1, none⟩ = some (.int .u64 ab) := bq_ ac 1; have aH := blk_frozen ac.out 0; have aI := blk_frozen ac.out 1) | ((with_reducible refine gate_dst (N := 23) rfl ?_); (try (refine gate_guard (by rfl) ?_; dsimp only)); refine Kd.R_lit k36 _ 36 ?hg (N := 23) ?hd (xs := ([(⟨aa, ab⟩ : S36)] : List (S36))) (inner := [.int .u64 aa, .int .u64 ab]) (ok := fun _ => True) (okp := fun _ => True) ?hr ?hp (fun _ hk => hk) trivial (Below.refl _ _) (Nat.le_refl _) (by simp) ?_; (case hd => rfl); (case hg => rfl); (case hr => first | (go_simp; done) | (go_simp; rfl)); (case hp => exact (Reps.c2 (show Kd.M k36 _ _ _ (⟨aa, ab⟩ : S36) [.int .u64 aa, .int .u64 ab] from (k36_mkM _ _ _ (⟨aa, ab⟩ : S36) )) (Reps.none _ _))); intro aC aU ho15 hb hg_ hnew_; clear hg_ hnew_; (first | rw [← ap.out] at ho15 | (simp only [Int.reduceToNat] at ho15; rw [← ap.out] at ho15)); have af := aj (Kd.R_lower (Kd.R_newB ho15 (by exact ac.out)) (below_size (by first | exact HB.out | exact below_drew1 HB.out | exact pw_below_drewN HB.out _))); have ag := aj (blk_below (by exact ac.out) hb); have ak := aj (below_step (by first | exact HB.out | exact below_drew1 HB.out | exact pw_below_drewN HB.out _) hb); clear ac; clear HB; have ad := af; have ac := ag; have HB := ak; clear af ag ak; clear hb ho15; obtain ⟨aQ, aR, aD⟩ := Kd.R_slice ad.out; subst aD) | (go_at_call 39; (with_reducible refine (tree_proper.calls a0 _ _ ar true _ ?side1 ?side2 ?side3 A9.out).mono ?_); (case side1 => exact (Kd.R_reads' ad.out).2.2); (case side2 => exact (Kd.R_reads' ad.out).2.1); (case side3 => repeat (first | exact (GL.below HRG.out HB.out) | (with_reducible refine GL.alloc ?_ _) | (with_reducible refine GL.drewN ?_ _) | (with_reducible refine GL.drew ?_))); rintro e aV ⟨rfl, hb⟩; have af := aj (Kd.R_below (by (with_reducible repeat (first | apply Kd.R_alloc | apply Kd.R_drewN | apply Kd.R_drew)); exact ad.out) hb); have ag := aj (blk_below (by exact ac.out) hb); have ak := aj (below_step (by first | exact HB.out | exact below_drew1 HB.out | exact pw_below_drewN HB.out _) hb); clear ad; clear ac; clear HB; have ad := af; have ac := ag; have HB := ak; clear af ag ak; (try clear hb); (try clear hb2); (try clear hk); (try clear hi)) | (go_at_call 39; (with_reducible refine (tree_proper.calls a0 _ _ l3 ai _ ?side1 ?side2 ?side3 aP.out).mono ?_); (case side1 => exact (Kd.C_below aN.out HB.out)); (case side2 => exact aO.out); (case side3 => repeat (first | exact (GL.below HRG.out HB.out) | (with_reducible refine GL.alloc ?_ _) | (with_reducible refine GL.drewN ?_ _) | (with_reducible refine GL.drew ?_))); rintro e aW ⟨rfl, hb⟩; have af := aj (Kd.R_below (by (with_reducible repeat (first | apply Kd.R_alloc | apply Kd.R_drewN | apply Kd.R_drew)); exact ad.out) hb); have ag := aj (blk_below (by exact ac.out) hb); have ak := aj (below_step (by first | exact HB.out | exact below_drew1 HB.out | exact pw_below_drewN HB.out _) hb); clear ad; clear ac; clear HB; have ad := af; have ac := ag; have HB := ak; clear af ag ak; (try clear hb); (try clear hb2); (try clear hk); (try clear hi)))
     go_ret
     exact ⟨by first | rfl | (simp [errW_none, errW_some] <;> rfl) | (simp [*, errW_none, errW_some] <;> rfl), HB.out⟩
    ·replace c10 := Bool.eq_false_iff.mpr c10
     subst c10
     have H1 : (some false) = some r := by rw [if_neg (show ¬ (false = true) by decide)] at H; exact H
     clear H
     have H := H1
     clear H1
     obtain rfl := Option.some.inj H
     go_enter Tryd.func47, Tryd.ntmps47
     go_wp2_with (first | ((with_reducible refine gate_dst (N := 6) rfl ?_); (try (refine gate_guard (by rfl) ?_; dsimp only)); refine box_event ?hg (N := 6) ?hd (cs := #[.int .u64 aa, .int .u64 ab]) (t := 36) ?hr ?_; (case hd => rfl); (case hg => rfl); (case hr => first | (go_simp; done) | (go_simp; rfl)); intro ae hg aB hbox hb; have af := aj (below_step (by first | exact HB.out | exact below_drew1 HB.out | exact pw_below_drewN HB.out _) hb); have ag := aj (hbox); have am := aj ((by rw [hg]; exact (below_size (by first | exact HB.out | exact below_drew1 HB.out | exact pw_below_drewN HB.out _)) : w.heap.size ≤ ae)); clear HB; have HB := af; have ac := ag; have ah := am; clear af ag am; clear hb hbox hg) | ((with_reducible refine gate_callee (f := 38) rfl ?_); refine goesL_ (some 10) rfl rfl Tryd.func38 (by kernel_rfl) rfl #[.int .i64 a0] rfl (by (try simp only [List.map_toArray, List.map_cons, List.map_nil]); first | done | rfl | (go_simp; done)) ?_; (with_reducible refine (field_Valid.calls a0 true _ A5.out).mono ?_); rintro e w' ⟨rfl, ⟨nd, rfl⟩⟩; refine ⟨_, rfl, ?_⟩; have aJ : aB.cell? ⟨ae, 0, none⟩ = some (.int .u64 aa) := bq_ ac 0; have aK : aB.cell? ⟨ae, 1, none⟩ = some (.int .u64 ab) := bq_ ac 1; have aL := blk_frozen ac.out 0; have aM := blk_frozen ac.out 1) | ((with_reducible refine gate_dst (N := 23) rfl ?_); (try (refine gate_guard (by rfl) ?_; dsimp only)); refine Kd.R_lit k36 _ 36 ?hg (N := 23) ?hd (xs := ([(⟨aa, ab⟩ : S36)] : List (S36))) (inner := [.int .u64 aa, .int .u64 ab]) (ok := fun _ => True) (okp := fun _ => True) ?hr ?hp (fun _ hk => hk) trivial (Below.refl _ _) (Nat.le_refl _) (by simp) ?_; (case hd => rfl); (case hg => rfl); (case hr => first | (go_simp; done) | (go_simp; rfl)); (case hp => exact (Reps.c2 (show Kd.M k36 _ _ _ (⟨aa, ab⟩ : S36) [.int .u64 aa, .int .u64 ab] from (k36_mkM _ _ _ (⟨aa, ab⟩ : S36) )) (Reps.none _ _))); intro aC aX ho22 hb hg_ hnew_; clear hg_ hnew_; (first | rw [← ap.out] at ho22 | (simp only [Int.reduceToNat] at ho22; rw [← ap.out] at ho22)); have af := aj (Kd.R_lower (Kd.R_newB ho22 (by exact ac.out)) (below_size (by first | exact HB.out | exact below_drew1 HB.out | exact pw_below_drewN HB.out _))); have ag := aj (blk_below (by exact ac.out) hb); have ak := aj (below_step (by first | exact HB.out | exact below_drew1 HB.out | exact pw_below_drewN HB.out _) hb); clear ac; clear HB; have ad := af; have ac := ag; have HB := ak; clear af ag ak; clear hb ho22; obtain ⟨aS, aT, aE⟩ := Kd.R_slice ad.out; subst aE) | (go_at_call 39; (with_reducible refine (tree_proper.calls a0 _ _ ar false _ ?side1 ?side2 ?side3 A9.out).mono ?_); (case side1 => exact (Kd.R_reads' ad.out).2.2); (case side2 => exact (Kd.R_reads' ad.out).2.1); (case side3 => repeat (first | exact (GL.below HRG.out HB.out) | (with_reducible refine GL.alloc ?_ _) | (with_reducible refine GL.drewN ?_ _) | (with_reducible refine GL.drew ?_))); rintro e aY ⟨rfl, hb⟩; have af := aj (Kd.R_below (by (with_reducible repeat (first | apply Kd.R_alloc | apply Kd.R_drewN | apply Kd.R_drew)); exact ad.out) hb); have ag := aj (blk_below (by exact ac.out) hb); have ak := aj (below_step (by first | exact HB.out | exact below_drew1 HB.out | exact pw_below_drewN HB.out _) hb); clear ad; clear ac; clear HB; have ad := af; have ac := ag; have HB := ak; clear af ag ak; (try clear hb); (try clear hb2); (try clear hk); (try clear hi)))
     go_ret
     exact ⟨by first | rfl | (simp [errW_none, errW_some] <;> rfl) | (simp [*, errW_none, errW_some] <;> rfl), HB.out⟩
   ·rw [if_neg c8] at H
    have c8b0 : decide ((l3.length : Int) ≤ 18) = false := decide_eq_false c8
    have c8b1 : decide (l3.length ≤ 18) = false := decide_eq_false (by omega)
    clear c8
    obtain rfl := Option.some.inj H
    go_enter Tryd.func47, Tryd.ntmps47
    go_wp2_with (first | ((with_reducible refine gate_dst (N := 6) rfl ?_); (try (refine gate_guard (by rfl) ?_; dsimp only)); refine box_event ?hg (N := 6) ?hd (cs := #[.int .u64 aa, .int .u64 ab]) (t := 36) ?hr ?_; (case hd => rfl); (case hg => rfl); (case hr => first | (go_simp; done) | (go_simp; rfl)); intro ae hg aZ hbox hb; have af := aj (below_step HB.out hb); have ag := aj (hbox); have am := aj ((by rw [hg]; exact (below_size HB.out) : w.heap.size ≤ ae)); clear HB; have HB := af; have ac := ag; have ah := am) | ((with_reducible refine gate_callee (f := 38) rfl ?_); refine goesL_ (some 10) rfl rfl Tryd.func38 (by kernel_rfl) rfl #[.int .i64 a0] rfl (by (try simp only [List.map_toArray, List.map_cons, List.map_nil]); first | done | rfl | (go_simp; done)) ?_; (with_reducible refine (field_Valid.calls a0 true _ A5.out).mono ?_); rintro e w' ⟨rfl, ⟨nd, rfl⟩⟩; refine ⟨_, rfl, ?_⟩))
    go_ret
    exact ⟨by first | rfl | (simp [errW_none, errW_some] <;> rfl) | (simp [*, errW_none, errW_some] <;> rfl), (by first | exact HB.out | exact below_drew1 HB.out | exact pw_below_drewN HB.out _)⟩
  ·rw [if_neg c7] at H
   have c7b0 : decide (0 ≤ a1) = false := decide_eq_false c7
   clear c7
   obtain rfl := Option.some.inj H
   go_enter Tryd.func47, Tryd.ntmps47
   go_wp2_with (first | ((with_reducible refine gate_dst (N := 6) rfl ?_); (try (refine gate_guard (by rfl) ?_; dsimp only)); refine box_event ?hg (N := 6) ?hd (cs := #[.int .u64 aa, .int .u64 ab]) (t := 36) ?hr ?_; (case hd => rfl); (case hg => rfl); (case hr => first | (go_simp; done) | (go_simp; rfl)); intro ae hg a2 hbox hb; have af := aj (below_step HB.out hb); have ag := aj (hbox); have am := aj ((by rw [hg]; exact (below_size HB.out) : w.heap.size ≤ ae)); clear HB; have HB := af; have ac := ag; have ah := am) | ((with_reducible refine gate_callee (f := 38) rfl ?_); refine goesL_ (some 10) rfl rfl Tryd.func38 (by kernel_rfl) rfl #[.int .i64 a0] rfl (by (try simp only [List.map_toArray, List.map_cons, List.map_nil]); first | done | rfl | (go_simp; done)) ?_; (with_reducible refine (field_Valid.calls a0 true _ A5.out).mono ?_); rintro e w' ⟨rfl, ⟨nd, rfl⟩⟩; refine ⟨_, rfl, ?_⟩))
   go_ret
   exact ⟨by first | rfl | (simp [errW_none, errW_some] <;> rfl) | (simp [*, errW_none, errW_some] <;> rfl), (by first | exact HB.out | exact below_drew1 HB.out | exact pw_below_drewN HB.out _)⟩
 ·replace c6 := Bool.eq_false_iff.mpr c6
  subst c6
  have H1 : (some false) = some r := by rw [if_neg (show ¬ (false = true) by decide)] at H; exact H
  clear H
  have H := H1
  clear H1
  obtain rfl := Option.some.inj H
  go_enter Tryd.func47, Tryd.ntmps47
  go_wp2_with (first | ((with_reducible refine gate_dst (N := 6) rfl ?_); (try (refine gate_guard (by rfl) ?_; dsimp only)); refine box_event ?hg (N := 6) ?hd (cs := #[.int .u64 aa, .int .u64 ab]) (t := 36) ?hr ?_; (case hd => rfl); (case hg => rfl); (case hr => first | (go_simp; done) | (go_simp; rfl)); intro ae hg a3 hbox hb; have af := aj (below_step HB.out hb); have ag := aj (hbox); have am := aj ((by rw [hg]; exact (below_size HB.out) : w.heap.size ≤ ae)); clear HB; have HB := af; have ac := ag; have ah := am) | ((with_reducible refine gate_callee (f := 38) rfl ?_); refine goesL_ (some 10) rfl rfl Tryd.func38 (by kernel_rfl) rfl #[.int .i64 a0] rfl (by (try simp only [List.map_toArray, List.map_cons, List.map_nil]); first | done | rfl | (go_simp; done)) ?_; (with_reducible refine (field_Valid.calls a0 false _ A5.out).mono ?_); rintro e w' ⟨rfl, ⟨nd, rfl⟩⟩; refine ⟨_, rfl, ?_⟩))
  go_ret
  exact ⟨by first | rfl | (simp [errW_none, errW_some] <;> rfl) | (simp [*, errW_none, errW_some] <;> rfl), (by first | exact HB.out | exact below_drew1 HB.out | exact pw_below_drewN HB.out _)⟩

-- NOT PRINTED: function 64 (tree_climber_1)

-- NOT PRINTED: function 51 (tree_climber)

end Go.Proofs.YtpnpmeogffodgaaDoor.Q
end
section
namespace Go.Proofs.YtpnpmeogffodgaaDoor.Q
open Go.RowKit Go.Proofs.YtpnpmeogffodgaaDoorW.PrintWords Go.Proofs.YtpnpmeogffodgaaDoorW.PrintLast Go.Proofs.YtpnpmeogffodgaaDoorW.PrintMore
def zb (n m : Nat) : Array Bool := ((List.range n).map fun i => m.testBit i).toArray
theorem pz_ {P : Program} {ops : Array Oper} {Q : Exit → Act → World → Prop} {md : Region.Mode} {S : World → Prop} {ds : List Nat} {oi : Oper} {v : Value} {fuel : Nat} {l : Array Bool} {a a' : Act} {w : World} {T : Bool × List (List Nat × List Nat)} (i N : Nat) (l' : Array Bool) (h : wpAnyLast P md ops Q S ds fuel l' a' w)
    (hT : Aside0 (rtab md ops = T) := by assumption) (hi : ops[i]? = some oi := by rfl) (hN : oi.dst = some N := by rfl) (hc : anyT T l.toList l'.toList i = true := by kernel_rfl) (hQ : ∀ c a w, Q (.panic c) (a.put oi.dst v) w → Q (.panic c) a w := by exact (fun _ _ _ h => h))
    (hw : Region.wanted oi (yielded ops a.tmps) = true := by rfl) (hy : ∀ w, (execOp a.eval oi).run P w = .ok (.value v) w := by (intro w'; go_simp; with_reducible rfl)) (ha : a.put (some N) v = a' := by (simp only [Act.put, sa_, sb_, sc_, i64_w, i32_w]; rfl)) : wpAnyLast P md ops Q S ds (fuel + 1) l a w :=
  pure_ l' hi hN (any_of hT.out hc) hQ (.inl ⟨hw, hy⟩) ha h
theorem tz_ {P : Program} {ops : Array Oper} {Q : Exit → Act → World → Prop} {md : Region.Mode} {S : World → Prop} {ds : List Nat} {oi : Oper} {v : Value} {fuel : Nat} {l : Array Bool} {a a' : Act} {w : World} {T : Bool × List (List Nat × List Nat)} {B : List Nat} (i N : Nat) (l' : Array Bool) (h : wpAnyLast P md ops Q S ds fuel l' a' w)
    (hT : Aside0 (rtab md ops = T) := by assumption) (hB : Aside0 (waitsOk T.2 B = true) := by assumption) (hS : S w := by assumption) (hi : ops[i]? = some oi := by rfl) (hN : oi.dst = some N := by rfl) (hc : takeW T B ds l.toList l'.toList i = true := by kernel_rfl) (hQ : ∀ c a w, Q (.panic c) (a.put oi.dst v) w → Q (.panic c) a w := by exact (fun _ _ _ h => h))
    (hw : Region.wanted oi (yielded ops a.tmps) = true := by rfl) (hy : ∀ w, S w → (execOp a.eval oi).run P w = .ok (.value v) w := by (intro w' hs_; (repeat (obtain ⟨_, hs_⟩ := hs_)); go_simp; with_reducible rfl)) (ha : a.put (some N) v = a' := by (simp only [Act.put, sa_, sb_, sc_, i64_w, i32_w]; rfl)) : wpAnyLast P md ops Q S ds (fuel + 1) l a w :=
  take_ l' hi hN (take_ofW hT.out hB.out hc) hQ (.inl ⟨hw, hy⟩) hS ha h
end Go.Proofs.YtpnpmeogffodgaaDoor.Q
end
section
namespace Go.Proofs.YtpnpmeogffodgaaDoor.Q
open Go.RowKit Go.Proofs.YtpnpmeogffodgaaDoorW.PrintWords Go.Proofs.YtpnpmeogffodgaaDoorW.PrintLast Go.Proofs.YtpnpmeogffodgaaDoorW.PrintMore
attribute [local go_sem] max2_int min2_int max_two min_two max_three min_three max_four min_four run_store_fnV run_store_fnc run_store_nfn   -- for this text's walks alone
set_option linter.unusedVariables false
set_option linter.unusedSimpArgs false

-- BY HAND: function 66 (field_Exponent): Derived.Test.YtpnpmeogffodgaaDoorHGl

/-! ### sponge_in: function 54 -/
def sponge_in.f (a0 : Int) : Option (Int × Int × Bool) := (field_P.f a0).bind fun t114 => ((field_Generator.f a0).bind fun t115 => ((field_Exponent.f a0).bind fun t116 => (some (t114, t115, (t116 == 5)))))
set_option maxHeartbeats 8000000 in
set_option maxRecDepth 100000 in
theorem sponge_in.calls (a0 : Int) (r1 : Int) (r2 : Int) (r3 : Bool) (w : World) (hrG : GL w) (h : sponge_in.f a0 = some (r1, r2, r3)) :
    Calls Tryd.prog 54 #[.int .i64 a0] w fun e w' => e = .returned (.agg #[.int .u64 r1, .int .u64 r2, .bool r3]) ∧ Below w.heap.size w w' := by
  have hu78 := Tryd.underlying78
  have HRG := Aside0.mk hrG
  clear hrG
  have HB := Aside0.mk (Below.refl w.heap.size w)
  have H : ((field_P.f a0).bind fun t114 => ((field_Generator.f a0).bind fun t115 => ((field_Exponent.f a0).bind fun t116 => (some (t114, t115, (t116 == 5)))))) = some (r1, r2, r3) := h
  clear h
  replace H := Option.bind_eq_some_iff.mp H
  obtain ⟨t114, A20, H⟩ := H
  replace H : ((field_Generator.f a0).bind fun t115 => ((field_Exponent.f a0).bind fun t116 => (some (t114, t115, (t116 == 5))))) = some (r1, r2, r3) := H
  have A2 := Aside0.mk A20
  clear A20
  replace H := Option.bind_eq_some_iff.mp H
  obtain ⟨t115, A30, H⟩ := H
  replace H : ((field_Exponent.f a0).bind fun t116 => (some (t114, t115, (t116 == 5)))) = some (r1, r2, r3) := H
  have A3 := Aside0.mk A30
  clear A30
  replace H := Option.bind_eq_some_iff.mp H
  obtain ⟨t116, A40, H⟩ := H
  replace H : (some (t114, t115, (t116 == 5))) = some (r1, r2, r3) := H
  have A4 := Aside0.mk A40
  clear A40
  simp only [Option.some.injEq, Prod.mk.injEq] at H
  obtain ⟨rfl, rfl, rfl⟩ := H
  go_enter Tryd.func54, Tryd.ntmps54
  go_wp2_with (first | ((with_reducible refine gate_dst (N := 2) rfl ?_); refine box_event ?hg (N := 2) ?hd (cs := #[.int .u64 0, .int .u64 0, .bool false]) (t := 78) ?hr ?_; (case hd => rfl); (case hg => rfl); (case hr => first | (go_simp; done) | (go_simp; rfl)); intro gb113 hg w5 hbox hb; have n0_ := Aside0.mk (below_step (by repeat (first | (with_reducible first | exact HB.out | apply below_alloc | apply pw_below_drewN | apply below_drew1) | exact HB.out)) hb); have n1_ := Aside0.mk (hbox); have n2_ := Aside0.mk ((by rw [hg]; exact (below_size (by repeat (first | (with_reducible first | exact HB.out | apply below_alloc | apply pw_below_drewN | apply below_drew1) | exact HB.out))) : w.heap.size ≤ gb113)); have n3_ := Aside0.mk ((by rw [hg]; exact (below_size (by repeat (first | (with_reducible first | exact HB.out | apply below_alloc | apply pw_below_drewN | apply below_drew1) | exact HB.out))) : w.heap.size ≤ gb113)); clear HB; have HB := n0_; have BK113 := n1_; have GW113 := n2_; have GE113 := n3_; clear n0_ n1_ n2_ n3_; clear hb hbox hg) | ((with_reducible refine gate_callee (f := 58) rfl ?_); refine goesL_ (some 4) rfl rfl Tryd.func58 (by kernel_rfl) rfl #[.int .i64 a0] rfl (by (try simp only [List.map_toArray, List.map_cons, List.map_nil]); first | done | rfl | (simp only [List.length_drop, List.length_take]; rfl) | (go_simp; done) | (go_simp; rw [Int.tmod_eq_emod_of_nonneg (by omega)]; omega)) ?_; (with_reducible refine (field_P.calls a0 t114 _ ?side1 A2.out).mono ?_); (case side1 => repeat (first | exact (GL.below HRG.out HB.out) | (with_reducible refine GL.alloc ?_ _) | (with_reducible refine GL.drewN ?_ _) | (with_reducible refine GL.drew ?_))); rintro e w6 ⟨rfl, hb⟩; refine ⟨_, rfl, ?_⟩; have n0_ := Aside0.mk (blk_below (g := gb113) (o := .cells #[.int .u64 0, .int .u64 0, .bool false] 78 (0, 0)) (by (with_reducible repeat (first | refine blk_drewN ?_ _ | refine blk_drew ?_ | refine blk_alloc ?_ _)); exact BK113.out) hb); have n1_ := Aside0.mk (below_step (by repeat (first | (with_reducible first | exact HB.out | apply below_alloc | apply pw_below_drewN | apply below_drew1 | refine below_set ?_ GE113.out) | exact HB.out)) hb); clear BK113; clear HB; have BK113 := n0_; have HB := n1_; clear n0_ n1_; (try clear hb); (try clear hb2); (try clear hk); (try clear hi)) | ((with_reducible refine gate_callee (f := 65) rfl ?_); refine goesL_ (some 6) rfl rfl Tryd.func65 (by kernel_rfl) rfl #[.int .i64 a0] rfl (by (try simp only [List.map_toArray, List.map_cons, List.map_nil]); first | done | rfl | (simp only [List.length_drop, List.length_take]; rfl) | (go_simp; done) | (go_simp; rw [Int.tmod_eq_emod_of_nonneg (by omega)]; omega)) ?_; (with_reducible refine (field_Generator.calls a0 t115 _ ?side1 A3.out).mono ?_); (case side1 => repeat (first | exact (GL.below HRG.out HB.out) | (with_reducible refine GL.alloc ?_ _) | (with_reducible refine GL.drewN ?_ _) | (with_reducible refine GL.drew ?_))); rintro e w7 ⟨rfl, hb⟩; refine ⟨_, rfl, ?_⟩; have n0_ := Aside0.mk (blk_below (g := gb113) (o := .cells #[.int .u64 0, .int .u64 0, .bool false] 78 (0, 0)) (by (with_reducible repeat (first | refine blk_drewN ?_ _ | refine blk_drew ?_ | refine blk_alloc ?_ _)); exact BK113.out) hb); have n1_ := Aside0.mk (below_step (by repeat (first | (with_reducible first | exact HB.out | apply below_alloc | apply pw_below_drewN | apply below_drew1 | refine below_set ?_ GE113.out) | exact HB.out)) hb); clear BK113; clear HB; have BK113 := n0_; have HB := n1_; clear n0_ n1_; (try clear hb); (try clear hb2); (try clear hk); (try clear hi)) | ((with_reducible refine gate_callee (f := 66) rfl ?_); refine goesL_ (some 8) rfl rfl Tryd.func66 (by kernel_rfl) rfl #[.int .i64 a0] rfl (by (try simp only [List.map_toArray, List.map_cons, List.map_nil]); first | done | rfl | (simp only [List.length_drop, List.length_take]; rfl) | (go_simp; done) | (go_simp; rw [Int.tmod_eq_emod_of_nonneg (by omega)]; omega)) ?_; (with_reducible refine (field_Exponent.calls a0 t116 _ ?side1 A4.out).mono ?_); (case side1 => repeat (first | exact (GL.below HRG.out HB.out) | (with_reducible refine GL.alloc ?_ _) | (with_reducible refine GL.drewN ?_ _) | (with_reducible refine GL.drew ?_))); rintro e w8 ⟨rfl, hb⟩; refine ⟨_, rfl, ?_⟩; have n0_ := Aside0.mk (blk_below (g := gb113) (o := .cells #[.int .u64 0, .int .u64 0, .bool false] 78 (0, 0)) (by (with_reducible repeat (first | refine blk_drewN ?_ _ | refine blk_drew ?_ | refine blk_alloc ?_ _)); exact BK113.out) hb); have n1_ := Aside0.mk (below_step (by repeat (first | (with_reducible first | exact HB.out | apply below_alloc | apply pw_below_drewN | apply below_drew1 | refine below_set ?_ GE113.out) | exact HB.out)) hb); clear BK113; clear HB; have BK113 := n0_; have HB := n1_; clear n0_ n1_; (try clear hb); (try clear hb2); (try clear hk); (try clear hi); have hcz9_0 : w8.cell? ⟨gb113, 0, none⟩ = some (.int .u64 0) := (blk_cell BK113.out 0).trans rfl; have hcz9_1 : w8.cell? ⟨gb113, 1, none⟩ = some (.int .u64 0) := (blk_cell BK113.out 1).trans rfl; have hcz9_2 : w8.cell? ⟨gb113, 2, none⟩ = some (.bool false) := (blk_cell BK113.out 2).trans rfl; have hfz9_0 := blk_frozen BK113.out 0; have hfz9_1 := blk_frozen BK113.out 1; have hfz9_2 := blk_frozen BK113.out 2))
  refine bodyPost_ret (results_cell_row rfl _ _ gb113 78 #[.int .u64 t114, .int .u64 t115, .bool (t116 == 5)] (0, 0) _ rfl (by (with_reducible repeat (first | refine blk_drewN ?_ _ | refine blk_drew ?_ | refine blk_alloc ?_ _)); refine blk_put (cs := #[.int .u64 t114, .int .u64 t115, .bool false]) ?_ 2 _ rfl; (with_reducible repeat (first | refine blk_drewN ?_ _ | refine blk_drew ?_ | refine blk_alloc ?_ _)); refine blk_put (cs := #[.int .u64 t114, .int .u64 0, .bool false]) ?_ 1 _ rfl; (with_reducible repeat (first | refine blk_drewN ?_ _ | refine blk_drew ?_ | refine blk_alloc ?_ _)); refine blk_put (cs := #[.int .u64 0, .int .u64 0, .bool false]) ?_ 0 _ rfl; (with_reducible repeat (first | refine blk_drewN ?_ _ | refine blk_drew ?_ | refine blk_alloc ?_ _)); exact BK113.out) Tryd.underlying78 rfl (by kernel_rfl)) rfl ?_
  exact ⟨by first | rfl | (simp [errW_none, errW_some] <;> rfl) | (simp [*, errW_none, errW_some] <;> rfl), by repeat (first | (with_reducible first | exact HB.out | apply below_alloc | apply pw_below_drewN | apply below_drew1 | refine below_set ?_ GE113.out) | exact HB.out)⟩

end Go.Proofs.YtpnpmeogffodgaaDoor.Q
end
section
namespace Go.Proofs.YtpnpmeogffodgaaDoor.Q
open Go.RowKit Go.Proofs.YtpnpmeogffodgaaDoorW.PrintWords Go.Proofs.YtpnpmeogffodgaaDoorW.PrintLast Go.Proofs.YtpnpmeogffodgaaDoorW.PrintMore
theorem sel_cell {w : World} {g : Nat} {t : TypeId} {k : IntKind} {cs : Array Value} {l : List Int} {x : Int} (h : w.heap[g]? = some (.cells cs t (0, 0))) (e : cs = (l.map (Value.int k)).toArray) (h0 : 0 ≤ x) (h1 : x < l.length) :
    w.cell? ⟨g, x.toNat, none⟩ = some (.int k (rd l x)) := by
  rw [blk_cell h, e]
  have hx : x.toNat < l.length := by omega
  simp [rd, hx]
/-- A cell of an array behind a store at the place x: this one is cell z. -/
def updv (o : Int) (z : Nat) (x v : Int) : Int := if x = (z : Int) then v else o
def updl : List Int → Nat → Int → Int → List Int
  | [], _, _, _ => []
  | o :: l, z, x, v => updv o z x v :: updl l (z + 1) x v
theorem updl_set : ∀ (l : List Int) (z : Nat) (x v : Int), (z : Int) ≤ x → updl l z x v = l.set (x.toNat - z) v
  | [], _, _, _, _ => rfl
  | o :: l, z, x, v, h => by
    by_cases e : x = (z : Int)
    · subst e
      have : ∀ (l : List Int) (y : Nat), z < y → updl l y (z : Int) v = l := by
        intro l
        induction l with
        | nil => intro y _; rfl
        | cons a l ih =>
          intro y hy
          show updv a y z v :: updl l (y + 1) z v = a :: l
          rw [ih _ (by omega)]
          unfold updv
          rw [if_neg (by omega)]
      show updv o z z v :: updl l (z + 1) z v = _
      rw [this l (z + 1) (by omega)]
      unfold updv
      rw [if_pos rfl]
      simp
    · show updv o z x v :: updl l (z + 1) x v = _
      rw [updl_set l (z + 1) x v (by omega)]
      unfold updv
      rw [if_neg e]
      have : x.toNat - z = (x.toNat - (z + 1)) + 1 := by omega
      rw [this]
      rfl
theorem sel_at {w : World} {g : Nat} {t : TypeId} {k : IntKind} {cs : Array Value} {pre post : List Value} {l : List Int} {x : Int} {o : Nat} (h : w.heap[g]? = some (.cells cs t (0, 0))) (e : cs = (pre ++ l.map (Value.int k) ++ post).toArray) (eo : o = pre.length + x.toNat) (h0 : 0 ≤ x) (h1 : x < l.length) :
    w.cell? ⟨g, o, none⟩ = some (.int k (rd l x)) := by
  rw [blk_cell h, e, eo]
  have hx : x.toNat < l.length := by omega
  simp [rd, hx, List.getElem?_append]
theorem sel_put {w : World} {g : Nat} {t : TypeId} {k : IntKind} {cs cs' : Array Value} {pre post : List Value} {l : List Int} {x v : Int} {o : Nat} (h : w.heap[g]? = some (.cells cs t (0, 0))) (e : cs = (pre ++ l.map (Value.int k) ++ post).toArray) (e' : cs' = (pre ++ (updl l 0 x v).map (Value.int k) ++ post).toArray) (eo : o = pre.length + x.toNat) (h0 : 0 ≤ x) (h1 : x < l.length) :
    (w.setCell ⟨g, o, none⟩ (.int k v)).heap[g]? = some (.cells cs' t (0, 0)) := by
  refine blk_put h o _ ?_
  rw [e, e', eo, updl_set l 0 x v (by simpa using h0)]
  have hx : x.toNat < l.length := by omega
  rw [List.setIfInBounds_toArray, List.append_assoc, List.set_append_right _ _ (by omega), List.append_assoc, Nat.add_sub_cancel_left, List.set_append_left _ _ (by simpa using hx), Nat.sub_zero, ← List.map_set]
end Go.Proofs.YtpnpmeogffodgaaDoor.Q
end
section
namespace Go.Proofs.YtpnpmeogffodgaaDoor.Q
open Go.RowKit Go.Proofs.YtpnpmeogffodgaaDoorW.PrintWords Go.Proofs.YtpnpmeogffodgaaDoorW.PrintLast Go.Proofs.YtpnpmeogffodgaaDoorW.PrintMore
attribute [local go_sem] max2_int min2_int max_two min_two max_three min_three max_four min_four run_store_fnV run_store_fnc run_store_nfn   -- for this text's walks alone
set_option linter.unusedVariables false
set_option linter.unusedSimpArgs false

abbrev z55_0_ : Array Bool := #[false, false, false, false, false, false, false, false]
abbrev z55_1_ : Array Bool := #[true, false, false, false, false, false, false, false]
abbrev z55_2_ : Array Bool := #[true, true, false, false, false, false, false, false]
abbrev z55_3_ : Array Bool := #[true, true, false, true, false, false, false, false]
abbrev z55_4_ : Array Bool := #[true, true, true, true, false, false, false, false]
abbrev z55_5_ : Array Bool := #[true, true, true, true, true, false, false, false]
abbrev z55_6_ : Array Bool := #[true, true, true, true, true, true, false, false]
abbrev z55_7_ : Array Bool := #[true, true, true, true, true, true, true, false]
abbrev z55_8_ : Array Bool := #[true, true, true, true, true, true, true, true]
/-! ### sponge_mixer_reduced: function 55 -/
def sponge_mixer_reduced.l0 : Nat → Int → Int → Int → Bool → Int → Int → Int → Int → Option (Int × Int × Int × Int)
  | 0, _, _, _, _, _, _, _, _ => none
  | k + 1, x6, al, aO, aP, am, ao, ap, aq => if x6 < 4 then (if 0 ≤ x6 then (if al = 0 then (none) else (sponge_mixer_reduced.l0 k (wrap64 (x6 + 1)) al aO aP (updv am 0 x6 (Int.tmod (rd ([am, ao, ap, aq] : List Int) x6) al)) (updv ao 1 x6 (Int.tmod (rd ([am, ao, ap, aq] : List Int) x6) al)) (updv ap 2 x6 (Int.tmod (rd ([am, ao, ap, aq] : List Int) x6) al)) (updv aq 3 x6 (Int.tmod (rd ([am, ao, ap, aq] : List Int) x6) al)))) else (none)) else (some (am, ao, ap, aq))
def sponge_mixer_reduced.f (k : Nat) (ah : Int) (au : Int) (av : Bool) (az : Int) (aA : Int) (aB : Int) (aC : Int) : Option (Int × Int × Int × Int) := sponge_mixer_reduced.l0 k 0 ah au av az aA aB aC
theorem sponge_mixer_reduced.mono_l : ∀ k, (∀ y0 y1 y2 y3 y4 y5 y6 y7, LeO (sponge_mixer_reduced.l0 k y0 y1 y2 y3 y4 y5 y6 y7) (sponge_mixer_reduced.l0 (k + 1) y0 y1 y2 y3 y4 y5 y6 y7))
  | 0 => fun _ _ _ _ _ _ _ _ r h => by simp [sponge_mixer_reduced.l0] at h
  | k + 1 => by
    have ih0 := sponge_mixer_reduced.mono_l k
    · intro y0 y1 y2 y3 y4 y5 y6 y7
      unfold sponge_mixer_reduced.l0
      repeat' first
      | (with_reducible exact ih0 _ _ _ _ _ _ _ _)
      | (with_reducible exact LeO.refl _)
      | (with_reducible exact LeO.none _)
      | (with_reducible refine LeO.ite ?_ ?_)
      | (with_reducible refine LeO.bind ?_ (fun _ => ?_))
      | exact ih0 _ _ _ _ _ _ _ _
      | exact LeO.none _
      | refine LeO.ite ?_ ?_
      | refine LeO.bind ?_ (fun _ => ?_)
theorem sponge_mixer_reduced.mono : ∀ a0 a1 a2 a3 a4 a5 a6 k, LeO (sponge_mixer_reduced.f k a0 a1 a2 a3 a4 a5 a6) (sponge_mixer_reduced.f (k + 1) a0 a1 a2 a3 a4 a5 a6) := by
  intro a0 a1 a2 a3 a4 a5 a6 k
  have ih0 := sponge_mixer_reduced.mono_l k
  unfold sponge_mixer_reduced.f
  repeat' first
      | (with_reducible exact ih0 _ _ _ _ _ _ _ _)
      | (with_reducible exact LeO.refl _)
      | (with_reducible exact LeO.none _)
      | (with_reducible refine LeO.ite ?_ ?_)
      | (with_reducible refine LeO.bind ?_ (fun _ => ?_))
      | exact ih0 _ _ _ _ _ _ _ _
      | exact LeO.none _
      | refine LeO.ite ?_ ?_
      | refine LeO.bind ?_ (fun _ => ?_)
def sponge_mixer_reduced.T4 : Bool × List (List Nat × List Nat) := (true, [([], []), ([0], [0]), ([1], [1]), ([], []), ([3], [3]), ([2, 4], [2, 4]), ([0, 0, 1, 2, 3, 4, 5], [0]), ([6, 5, 0, 1, 2, 3, 4, 5], [5, 6])])
def sponge_mixer_reduced.B4 : List Nat := [0, 1, 3, 0, 8, 31, 63, 127]
theorem sponge_mixer_reduced.tab4 : rtab .any (opsOf Tryd.f55 4) = sponge_mixer_reduced.T4 := by kernel_rfl
theorem sponge_mixer_reduced.bits4 : waitsOk sponge_mixer_reduced.T4.2 sponge_mixer_reduced.B4 = true := by kernel_rfl
set_option maxHeartbeats 8000000 in
set_option maxRecDepth 100000 in
theorem sponge_mixer_reduced.calls (k : Nat) (ah : Int) (au : Int) (av : Bool) (az : Int) (aA : Int) (aB : Int) (aC : Int) (r1 : Int) (r2 : Int) (r3 : Int) (r4 : Int) (w : World) (h : sponge_mixer_reduced.f k ah au av az aA aB aC = some (r1, r2, r3, r4)) :
  Calls Tryd.prog 55 #[.agg #[.int .u64 ah, .int .u64 au, .bool av], .agg #[.int .u64 az, .int .u64 aA, .int .u64 aB, .int .u64 aC]] w fun e w' => e = .returned (.agg #[.int .u64 r1, .int .u64 r2, .int .u64 r3, .int .u64 r4]) ∧ Below w.heap.size w w' := by
 have hu78 := Tryd.underlying78
 have hu80 := Tryd.underlying80
 have HB := aj (Below.refl w.heap.size w)
 have H : (sponge_mixer_reduced.l0 k 0 ah au av az aA aB aC) = some (r1, r2, r3, r4) := h
 clear h
 have H' := aj H
 clear H
 go_enter Tryd.func55, Tryd.ntmps55
 go_wp2_with (first | ((with_reducible refine gate_dst (N := 2) rfl ?_); refine box_event ?hg (N := 2) ?hd (cs := #[.int .u64 ah, .int .u64 au, .bool av]) (t := 78) ?hr ?_; (case hd => rfl); (case hg => rfl); (case hr => first | (go_simp; done) | (go_simp; rfl)); intro aw hg w3 hbox hb; have ax := aj (below_step HB.out hb); have ay := aj (hbox); have aD := aj ((by rw [hg]; exact (below_size HB.out) : w.heap.size ≤ aw)); clear HB; have HB := ax; have ag := ay; have aL := aD; clear ax ay aD; clear hb hbox hg) | ((with_reducible refine gate_dst (N := 3) rfl ?_); refine box_event ?hg (N := 3) ?hd (cs := #[.int .u64 az, .int .u64 aA, .int .u64 aB, .int .u64 aC]) (t := 80) ?hr ?_; (case hd => rfl); (case hg => rfl); (case hr => first | (go_simp; done) | (go_simp; rfl)); intro ak hg w4 hbox hb; have ax := aj (blk_below ag.out hb); have ay := aj (below_step HB.out hb); have aE := aj (hbox); have aQ := aj ((by rw [hg]; exact (below_size HB.out) : w.heap.size ≤ ak)); have aF := aj ((by rw [hg]; exact Nat.ne_of_lt (blk_lt ag.out) : aw ≠ ak)); have aG := aj ((by rw [hg]; exact Nat.ne_of_gt (blk_lt ag.out) : ak ≠ aw)); clear ag; clear HB; have ag := ax; have HB := ay; have af := aE; have aM := aQ; have aH := aF; have aI := aG; clear ax ay aE aQ aF aG; clear hb hbox hg) | ((with_reducible refine gate_dst (N := 4) rfl ?_); refine box_event ?hg (N := 4) ?hd (cs := #[.int .u64 0, .int .u64 0, .int .u64 0, .int .u64 0]) (t := 80) ?hr ?_; (case hd => rfl); (case hg => rfl); (case hr => first | (go_simp; done) | (go_simp; rfl)); intro ar hg w5 hbox hb; have ax := aj (blk_below ag.out hb); have ay := aj (blk_below af.out hb); have aE := aj (below_step HB.out hb); have aD := aj (hbox); have aF := aj ((by rw [hg]; exact (below_size HB.out) : w.heap.size ≤ ar)); have aG := aj ((by rw [hg]; exact Nat.ne_of_lt (blk_lt ag.out) : aw ≠ ar)); have aR := aj ((by rw [hg]; exact Nat.ne_of_gt (blk_lt ag.out) : ar ≠ aw)); have aS := aj ((by rw [hg]; exact Nat.ne_of_lt (blk_lt af.out) : ak ≠ ar)); have aT := aj ((by rw [hg]; exact Nat.ne_of_gt (blk_lt af.out) : ar ≠ ak)); clear ag; clear af; clear HB; have ag := ax; have af := ay; have HB := aE; have ai := aD; have aN := aF; have aU := aG; have aV := aR; have aJ := aS; have aK := aT; clear ax ay aE aD aF aG aR aS aT; clear hb hbox hg))
 go_loopg [6] k (fun kq v6 w' => ∃ (ae : Int) (aa : Int) (ab : Int) (ac : Int) (ad : Int), v6 = .int .i64 ae ∧ Aside0 (sponge_mixer_reduced.l0 kq ae ah au av aa ab ac ad = some (r1, r2, r3, r4)) ∧ Aside0 (kq ≤ k) ∧ Aside0 (w'.heap[aw]? = some (.cells #[.int .u64 ah, .int .u64 au, .bool av] 78 (0, 0))) ∧ Aside0 (w'.heap[ak]? = some (.cells #[.int .u64 aa, .int .u64 ab, .int .u64 ac, .int .u64 ad] 80 (0, 0))) ∧ Aside0 (w'.heap[ar]? = some (.cells #[.int .u64 0, .int .u64 0, .int .u64 0, .int .u64 0] 80 (0, 0))) ∧ Aside0 (Below w.heap.size w w'))
 case atStart => exact ⟨(0), (az), (aA), (aB), (aC), (by first | rfl | simp), H', ⟨Nat.le_refl _⟩, ⟨by exact ag.out⟩, ⟨by exact af.out⟩, ⟨by exact ai.out⟩, ⟨HB.out⟩⟩
 case round =>
  clear H'
  obtain ⟨ae, aa, ab, ac, ad, rfl, HA, aW, ag, af, ai, HB⟩ := hrel
  cases gk with
  | zero => exact absurd HA.out (by simp [sponge_mixer_reduced.l0])
  | succ k1 =>
   have H := HA.out
   clear HA
   simp only [sponge_mixer_reduced.l0] at H
   by_cases c6 : ae < 4
   ·rw [if_pos c6] at H
    have c6b0 : decide (ae < 4) = true := decide_eq_true c6
    clear c6
    by_cases c7 : 0 ≤ ae
    ·rw [if_pos c7] at H
     have c7b0 := eq_true c7
     have c7b1 : decide (0 ≤ ae) = true := decide_eq_true c7
     clear c7
     by_cases c8 : ah = 0
     ·rw [if_pos c8] at H
      exact absurd H (by simp)
     ·rw [if_neg c8] at H
      have c8b0 : (ah == 0) = false := beq_eq_false_iff_ne.mpr c8
      have c8b1 : (ah != 0) = true := bne_iff_ne.mpr c8
      have H' := aj H
      clear H
      try go_wp2
      have ax := aj (blk_drew ag.out)
      have ay := aj (blk_drew af.out)
      have aE := aj (blk_drew ai.out)
      have aD := aj (below_drew1 HB.out)
      clear ag
      clear af
      clear ai
      clear HB
      have ag := ax
      have af := ay
      have ai := aE
      have HB := aD
      have hlt10 : (ae < 4) = True := eq_true (of_decide_eq_true (by assumption))
      have hge11 : (0 ≤ ae) = True := eq_true (of_decide_eq_true (by assumption))
      have hlt14 : (ae < 4) = True := eq_true (of_decide_eq_true (by assumption))
      have hge15 : (0 ≤ ae) = True := eq_true (of_decide_eq_true (by assumption))
      refine start_ (n := 8) (S := fun w' => w'.cell? ⟨aw, 0, none⟩ = some (.int .u64 ah) ∧ w'.cell? ⟨aw, 1, none⟩ = some (.int .u64 au) ∧ w'.cell? ⟨aw, 2, none⟩ = some (.bool av) ∧ w'.cell? ⟨ak, (ae).toNat, none⟩ = some (.int .u64 (rd ([aa, ab, ac, ad] : List Int) ae))) (ds := [7]) z55_0_ (by kernel_rfl) rfl rfl ⟨bq_ ag 0, bq_ ag 1, bq_ ag 2, (sel_at (pre := []) (l := ([aa, ab, ac, ad] : List Int)) (post := []) af.out rfl (by simp) (of_decide_eq_true (by assumption)) (of_decide_eq_true (by assumption)))⟩ (fun hL => ?_); refine with_tabW sponge_mixer_reduced.tab4 sponge_mixer_reduced.bits4 (fun T_ W_ => ?_)
      generalize wr.drew = w9 at ag af ai HB hL ⊢
      refine pure_ (i := 0) (N := some 9) (v := ?_) (a' := ?_) z55_1_ rfl rfl (an_ T_) (fun _ _ _ h => h) (Or.inl ⟨by rfl, ?_⟩) ?_ ?_
      rotate_left; · intro w'; go_simp; with_reducible rfl
      rotate_left; · simp only [Act.put, sa_, sb_, sc_, i64_w, i32_w]; rfl
      refine pure_ (i := 1) (N := some 10) (v := ?_) (a' := ?_) z55_2_ rfl rfl (an_ T_) (fun _ _ _ h => h) (Or.inl ⟨by rfl, ?_⟩) ?_ ?_
      rotate_left; · intro w'; go_simp; with_reducible rfl
      rotate_left; · simp only [Act.put, sa_, sb_, sc_, i64_w, i32_w]; rfl
      refine pure_ (i := 3) (N := some 12) (v := ?_) (a' := ?_) z55_3_ rfl rfl (an_ T_) (fun _ _ _ h => h) (Or.inl ⟨by rfl, ?_⟩) ?_ ?_
      rotate_left; · intro w'; go_simp; with_reducible rfl
      rotate_left; · simp only [Act.put, sa_, sb_, sc_, i64_w, i32_w]; rfl
      refine take_ (i := 2) (N := some 11) (v := ?_) (a' := ?_) z55_4_ rfl rfl (tk_ T_ W_) (fun _ _ _ h => h) (Or.inl ⟨by rfl, ?_⟩) hL ?_ ?_
      rotate_left
      ·rintro w' ⟨s0, s1, s2, s3⟩
       go_simp
       with_reducible rfl
      rotate_left
      ·simp only [Act.put, sa_, sb_, sc_, i64_w, i32_w]
       rfl
      refine take_ (i := 4) (N := some 13) (v := ?_) (a' := ?_) z55_5_ rfl rfl (tk_ T_ W_) (fun _ _ _ h => h) (Or.inl ⟨by rfl, ?_⟩) hL ?_ ?_
      rotate_left
      ·rintro w' ⟨s0, s1, s2, s3⟩
       go_simp
       with_reducible rfl
      rotate_left
      ·simp only [Act.put, sa_, sb_, sc_, i64_w, i32_w]
       rfl
      refine pure_ (i := 5) (N := some 14) (v := ?_) (a' := ?_) z55_6_ rfl rfl (an_ T_) (fun _ _ _ h => h) (Or.inl ⟨by rfl, ?_⟩) ?_ ?_
      rotate_left; · intro w'; go_simp; with_reducible rfl
      rotate_left; · simp only [Act.put, sa_, sb_, sc_, i64_w, i32_w]; rfl
      refine pure_ (i := 6) (N := some 15) (v := ?_) (a' := ?_) z55_7_ rfl rfl (an_ T_) (fun _ _ _ h => h) (Or.inl ⟨by rfl, ?_⟩) ?_ ?_
      rotate_left; · intro w'; go_simp; with_reducible rfl
      rotate_left; · simp only [Act.put, sa_, sb_, sc_, i64_w, i32_w]; rfl
      refine last_ (i := 7) (N := none) z55_8_ rfl rfl (on_ T_) (by decide) (fun K hK => ?_)
      have hsv12 : w9.cell? ⟨ak, (ae).toNat, none⟩ = some (.int .u64 (rd ([aa, ab, ac, ad] : List Int) ae)) := (sel_at (pre := []) (l := ([aa, ab, ac, ad] : List Int)) (post := []) af.out rfl (by simp) (of_decide_eq_true (by assumption)) (of_decide_eq_true (by assumption)))
      have hfv13 := blk_frozen af.out ((ae).toNat)
      have aX := aI.out
      have aY := aJ.out
      refine skip_ (w1 := ?_) (by rfl) rfl ?_ ?_
      rotate_left
      ·go_simp
       rfl
      refine hK.out _ _ ?_
      clear hK K
      refine done_ (done_of T_.out (by kernel_rfl)) ?_
      try go_wp2
      go_roundg k1
      case measure => have := aW.out; omega
      case rel => exact ⟨(wrap64 (ae + 1)), ((updv aa 0 ae (Int.tmod (rd ([aa, ab, ac, ad] : List Int) ae) ah))), ((updv ab 1 ae (Int.tmod (rd ([aa, ab, ac, ad] : List Int) ae) ah))), ((updv ac 2 ae (Int.tmod (rd ([aa, ab, ac, ad] : List Int) ae) ah))), ((updv ad 3 ae (Int.tmod (rd ([aa, ab, ac, ad] : List Int) ae) ah))), (by first | rfl | simp), H', ⟨by have := aW.out; omega⟩, ⟨by refine blk_far ?_ aH.out _; exact ag.out⟩, ⟨by refine sel_put (pre := []) (l := ([aa, ab, ac, ad] : List Int)) (post := []) ?_ rfl rfl (by simp) (of_decide_eq_true (by assumption)) (of_decide_eq_true (by assumption)); exact af.out⟩, ⟨by refine blk_far ?_ aK.out _; exact ai.out⟩, ⟨by repeat (first | (with_reducible first | exact HB.out | apply below_alloc | apply pw_below_drewN | apply below_drew1 | refine below_set ?_ aL.out | refine below_set ?_ aM.out | refine below_set ?_ aN.out) | exact HB.out)⟩⟩
    ·rw [if_neg c7] at H
     exact absurd H (by simp)
   ·rw [if_neg c6] at H
    have c6b0 : decide (ae < 4) = false := decide_eq_false c6
    clear c6
    simp only [Option.some.injEq, Prod.mk.injEq] at H
    obtain ⟨rfl, rfl, rfl, rfl⟩ := H
    have aZ : wr.cell? ⟨ak, 0, none⟩ = some (.int .u64 aa) := bq_ af 0
    have a7 : wr.cell? ⟨ak, 1, none⟩ = some (.int .u64 ab) := bq_ af 1
    have a8 : wr.cell? ⟨ak, 2, none⟩ = some (.int .u64 ac) := bq_ af 2
    have a9 : wr.cell? ⟨ak, 3, none⟩ = some (.int .u64 ad) := bq_ af 3
    have ba := blk_frozen af.out 0
    have bb := blk_frozen af.out 1
    have bc := blk_frozen af.out 2
    have bd := blk_frozen af.out 3
    have be : wr.cell? ⟨ar, 0, none⟩ = some (.int .u64 0) := bq_ ai 0
    have bf : wr.cell? ⟨ar, 1, none⟩ = some (.int .u64 0) := bq_ ai 1
    have bg : wr.cell? ⟨ar, 2, none⟩ = some (.int .u64 0) := bq_ ai 2
    have bh : wr.cell? ⟨ar, 3, none⟩ = some (.int .u64 0) := bq_ ai 3
    have bi := blk_frozen ai.out 0
    have bj := blk_frozen ai.out 1
    have bk := blk_frozen ai.out 2
    have bl := blk_frozen ai.out 3
    go_wp2
    refine bodyPost_ret (results_cell_row rfl _ _ ar 80 #[.int .u64 aa, .int .u64 ab, .int .u64 ac, .int .u64 ad] (0, 0) _ rfl (by refine blk_put (cs := #[.int .u64 aa, .int .u64 ab, .int .u64 ac, .int .u64 0]) ?_ 3 _ rfl; refine blk_put (cs := #[.int .u64 aa, .int .u64 ab, .int .u64 0, .int .u64 0]) ?_ 2 _ rfl; refine blk_put (cs := #[.int .u64 aa, .int .u64 0, .int .u64 0, .int .u64 0]) ?_ 1 _ rfl; refine blk_put (cs := #[.int .u64 0, .int .u64 0, .int .u64 0, .int .u64 0]) ?_ 0 _ rfl; exact ai.out) Tryd.underlying80 rfl (by kernel_rfl)) rfl ?_
    exact ⟨by first | rfl | (simp [errW_none, errW_some] <;> rfl) | (simp [*, errW_none, errW_some] <;> rfl), by repeat (first | (with_reducible first | exact HB.out | apply below_alloc | apply pw_below_drewN | apply below_drew1 | refine below_set ?_ aL.out | refine below_set ?_ aM.out | refine below_set ?_ aN.out) | exact HB.out)⟩

end Go.Proofs.YtpnpmeogffodgaaDoor.Q
end
section
namespace Go.Proofs.YtpnpmeogffodgaaDoor.Q
open Go.RowKit Go.Proofs.YtpnpmeogffodgaaDoorW.PrintWords Go.Proofs.YtpnpmeogffodgaaDoorW.PrintLast Go.Proofs.YtpnpmeogffodgaaDoorW.PrintMore
attribute [local go_sem] max2_int min2_int max_two min_two max_three min_three max_four min_four run_store_fnV run_store_fnc run_store_nfn   -- for this text's walks alone
set_option linter.unusedVariables false
set_option linter.unusedSimpArgs false

/-! ### sponge_mixer_power: function 73 -/
def sponge_mixer_power.f (a0_0 : Int) (a0_1 : Int) (a0_2 : Bool) (a1 : Int) : Option (Int) := if a0_0 = 0 then (none) else (if a0_2 = true then (some (Int.tmod (IntKind.u64.wrap ((Int.tmod (IntKind.u64.wrap ((Int.tmod (IntKind.u64.wrap (a1 * a1)) a0_0) * (Int.tmod (IntKind.u64.wrap (a1 * a1)) a0_0))) a0_0) * a1)) a0_0)) else (some (Int.tmod (IntKind.u64.wrap ((Int.tmod (IntKind.u64.wrap (a1 * a1)) a0_0) * a1)) a0_0)))
set_option maxHeartbeats 8000000 in
set_option maxRecDepth 100000 in
theorem sponge_mixer_power.calls (a0_0 : Int) (a0_1 : Int) (a0_2 : Bool) (a1 : Int) (r : Int) (w : World) (h : sponge_mixer_power.f a0_0 a0_1 a0_2 a1 = some r) :
    Calls Tryd.prog 73 #[.agg #[.int .u64 a0_0, .int .u64 a0_1, .bool a0_2], .int .u64 a1] w fun e w' => e = .returned (.int .u64 r) ∧ Below w.heap.size w w' := by
  have hu78 := Tryd.underlying78
  have HB := Aside0.mk (Below.refl w.heap.size w)
  have H : (if a0_0 = 0 then (none) else (if a0_2 = true then (some (Int.tmod (IntKind.u64.wrap ((Int.tmod (IntKind.u64.wrap ((Int.tmod (IntKind.u64.wrap (a1 * a1)) a0_0) * (Int.tmod (IntKind.u64.wrap (a1 * a1)) a0_0))) a0_0) * a1)) a0_0)) else (some (Int.tmod (IntKind.u64.wrap ((Int.tmod (IntKind.u64.wrap (a1 * a1)) a0_0) * a1)) a0_0)))) = some r := h
  clear h
  by_cases c3 : a0_0 = 0
  · rw [if_pos c3] at H
    exact absurd H (by simp)
  · rw [if_neg c3] at H
    have c3b0 : (a0_0 == 0) = false := beq_eq_false_iff_ne.mpr c3
    have c3b1 : (a0_0 != 0) = true := bne_iff_ne.mpr c3
    by_cases c4 : a0_2 = true
    · subst c4
      have H1 : (some (Int.tmod (IntKind.u64.wrap ((Int.tmod (IntKind.u64.wrap ((Int.tmod (IntKind.u64.wrap (a1 * a1)) a0_0) * (Int.tmod (IntKind.u64.wrap (a1 * a1)) a0_0))) a0_0) * a1)) a0_0)) = some r := by rw [if_pos rfl] at H; exact H
      clear H
      have H := H1
      clear H1
      obtain rfl := Option.some.inj H
      go_enter Tryd.func73, Tryd.ntmps73
      go_wp2_with (first | ((with_reducible refine gate_dst (N := 2) rfl ?_); refine box_event ?hg (N := 2) ?hd (cs := #[.int .u64 a0_0, .int .u64 a0_1, .bool true]) (t := 78) ?hr ?_; (case hd => rfl); (case hg => rfl); (case hr => first | (go_simp; done) | (go_simp; rfl)); intro gb120 hg w5 hbox hb; have n0_ := Aside0.mk (below_step (by repeat (first | (with_reducible first | exact HB.out | apply below_alloc | apply pw_below_drewN | apply below_drew1) | exact HB.out)) hb); have n1_ := Aside0.mk (hbox); have n2_ := Aside0.mk ((by rw [hg]; exact (below_size (by repeat (first | (with_reducible first | exact HB.out | apply below_alloc | apply pw_below_drewN | apply below_drew1) | exact HB.out))) : w.heap.size ≤ gb120)); have n3_ := Aside0.mk ((by rw [hg]; exact (below_size (by repeat (first | (with_reducible first | exact HB.out | apply below_alloc | apply pw_below_drewN | apply below_drew1) | exact HB.out))) : w.heap.size ≤ gb120)); clear HB; have HB := n0_; have BK120 := n1_; have GW120 := n2_; have GE120 := n3_; clear n0_ n1_ n2_ n3_; clear hb hbox hg; have hcz6_0 : w5.cell? ⟨gb120, 0, none⟩ = some (.int .u64 a0_0) := (blk_cell BK120.out 0).trans rfl; have hcz6_1 : w5.cell? ⟨gb120, 1, none⟩ = some (.int .u64 a0_1) := (blk_cell BK120.out 1).trans rfl; have hcz6_2 : w5.cell? ⟨gb120, 2, none⟩ = some (.bool true) := (blk_cell BK120.out 2).trans rfl; have hfz6_0 := blk_frozen BK120.out 0; have hfz6_1 := blk_frozen BK120.out 1; have hfz6_2 := blk_frozen BK120.out 2))
      go_ret
      exact ⟨by first | rfl | (simp [errW_none, errW_some] <;> rfl) | (simp [*, errW_none, errW_some] <;> rfl), by repeat (first | (with_reducible first | exact HB.out | apply below_alloc | apply pw_below_drewN | apply below_drew1 | refine below_set ?_ GE120.out) | exact HB.out)⟩
    · replace c4 := Bool.eq_false_iff.mpr c4
      subst c4
      have H1 : (some (Int.tmod (IntKind.u64.wrap ((Int.tmod (IntKind.u64.wrap (a1 * a1)) a0_0) * a1)) a0_0)) = some r := by rw [if_neg (show ¬ (false = true) by decide)] at H; exact H
      clear H
      have H := H1
      clear H1
      obtain rfl := Option.some.inj H
      go_enter Tryd.func73, Tryd.ntmps73
      go_wp2_with (first | ((with_reducible refine gate_dst (N := 2) rfl ?_); refine box_event ?hg (N := 2) ?hd (cs := #[.int .u64 a0_0, .int .u64 a0_1, .bool false]) (t := 78) ?hr ?_; (case hd => rfl); (case hg => rfl); (case hr => first | (go_simp; done) | (go_simp; rfl)); intro gb120 hg w7 hbox hb; have n0_ := Aside0.mk (below_step (by repeat (first | (with_reducible first | exact HB.out | apply below_alloc | apply pw_below_drewN | apply below_drew1) | exact HB.out)) hb); have n1_ := Aside0.mk (hbox); have n2_ := Aside0.mk ((by rw [hg]; exact (below_size (by repeat (first | (with_reducible first | exact HB.out | apply below_alloc | apply pw_below_drewN | apply below_drew1) | exact HB.out))) : w.heap.size ≤ gb120)); have n3_ := Aside0.mk ((by rw [hg]; exact (below_size (by repeat (first | (with_reducible first | exact HB.out | apply below_alloc | apply pw_below_drewN | apply below_drew1) | exact HB.out))) : w.heap.size ≤ gb120)); clear HB; have HB := n0_; have BK120 := n1_; have GW120 := n2_; have GE120 := n3_; clear n0_ n1_ n2_ n3_; clear hb hbox hg; have hcz8_0 : w7.cell? ⟨gb120, 0, none⟩ = some (.int .u64 a0_0) := (blk_cell BK120.out 0).trans rfl; have hcz8_1 : w7.cell? ⟨gb120, 1, none⟩ = some (.int .u64 a0_1) := (blk_cell BK120.out 1).trans rfl; have hcz8_2 : w7.cell? ⟨gb120, 2, none⟩ = some (.bool false) := (blk_cell BK120.out 2).trans rfl; have hfz8_0 := blk_frozen BK120.out 0; have hfz8_1 := blk_frozen BK120.out 1; have hfz8_2 := blk_frozen BK120.out 2))
      go_ret
      exact ⟨by first | rfl | (simp [errW_none, errW_some] <;> rfl) | (simp [*, errW_none, errW_some] <;> rfl), by repeat (first | (with_reducible first | exact HB.out | apply below_alloc | apply pw_below_drewN | apply below_drew1 | refine below_set ?_ GE120.out) | exact HB.out)⟩

end Go.Proofs.YtpnpmeogffodgaaDoor.Q
end
section
namespace Go.Proofs.YtpnpmeogffodgaaDoor.Q
open Go.RowKit Go.Proofs.YtpnpmeogffodgaaDoorW.PrintWords Go.Proofs.YtpnpmeogffodgaaDoorW.PrintLast Go.Proofs.YtpnpmeogffodgaaDoorW.PrintMore
attribute [local go_sem] max2_int min2_int max_two min_two max_three min_three max_four min_four run_store_fnV run_store_fnc run_store_nfn   -- for this text's walks alone
set_option linter.unusedVariables false
set_option linter.unusedSimpArgs false

abbrev z67_0_ := zb 14 0
abbrev z67_1_ := zb 14 1
abbrev z67_2_ := zb 14 5
abbrev z67_3_ := zb 14 13
abbrev z67_4_ := zb 14 45
abbrev z67_5_ := zb 14 301
abbrev z67_6_ := zb 14 303
abbrev z67_7_ := zb 14 319
abbrev z67_8_ := zb 14 383
abbrev z67_9_ := zb 14 511
abbrev z67_10_ := zb 14 1023
abbrev z67_11_ := zb 14 2047
abbrev z67_12_ := zb 14 4095
abbrev z67_13_ := zb 14 8191
abbrev z67_14_ := zb 14 16383
abbrev z67_15_ := zb 48 0
abbrev z67_16_ := zb 48 1
abbrev z67_17_ := zb 48 3
abbrev z67_18_ := zb 48 7
abbrev z67_19_ := zb 48 39
abbrev z67_20_ := zb 48 551
abbrev z67_21_ := zb 48 4647
abbrev z67_22_ := zb 48 12839
abbrev z67_23_ := zb 48 78375
abbrev z67_24_ := zb 48 1126951
abbrev z67_25_ := zb 48 9515559
abbrev z67_26_ := zb 48 26292775
abbrev z67_27_ := zb 48 160510503
abbrev z67_28_ := zb 48 2307994151
abbrev z67_29_ := zb 48 19487863335
abbrev z67_30_ := zb 48 53847601703
abbrev z67_31_ := zb 48 328725508647
abbrev z67_32_ := zb 48 4726772019751
abbrev z67_33_ := zb 48 75095516197415
abbrev z67_34_ := zb 48 75095516197423
abbrev z67_35_ := zb 48 75095516197439
abbrev z67_36_ := zb 48 75095516197503
abbrev z67_37_ := zb 48 75095516197631
abbrev z67_38_ := zb 48 75095516197887
abbrev z67_39_ := zb 48 75095516198911
abbrev z67_40_ := zb 48 75095516200959
abbrev z67_41_ := zb 48 75095516217343
abbrev z67_42_ := zb 48 75095516250111
abbrev z67_43_ := zb 48 75095516381183
abbrev z67_44_ := zb 48 75095516643327
abbrev z67_45_ := zb 48 75095517167615
abbrev z67_46_ := zb 48 75095519264767
abbrev z67_47_ := zb 48 75095523459071
abbrev z67_48_ := zb 48 75095557013503
abbrev z67_49_ := zb 48 75095624122367
abbrev z67_50_ := zb 48 75095892557823
abbrev z67_51_ := zb 48 75096429428735
abbrev z67_52_ := zb 48 75097503170559
abbrev z67_53_ := zb 48 75101798137855
abbrev z67_54_ := zb 48 75110388072447
abbrev z67_55_ := zb 48 75179107549183
abbrev z67_56_ := zb 48 75316546502655
abbrev z67_57_ := zb 48 75866302316543
abbrev z67_58_ := zb 48 76965813944319
abbrev z67_59_ := zb 48 79164837199871
abbrev z67_60_ := zb 48 87960930222079
abbrev z67_61_ := zb 48 105553116266495
abbrev z67_62_ := zb 48 140737488355327
abbrev z67_63_ := zb 48 281474976710655
/-! ### sponge_mixer_round: function 67 -/
def sponge_mixer_round.l0 : Nat → Int → Int → Int → Int → Bool → Int → Int → Int → Int → Option (Int × Int × Int × Int × Int)
  | 0, _, _, _, _, _, _, _, _, _ => none
  | k + 1, x1, aM, ao, aG, aN, au, av, aw, ax => if aM < 4 then (if ao = 0 then (none) else (if 0 ≤ aM then ((sponge_mixer_power.f ao aG aN (Int.tmod (IntKind.u64.wrap ((IntKind.u64.wrap ((rd ([au, av, aw, ax] : List Int) aM) + (Int.tmod (IntKind.u64.wrap (x1 * aG)) ao))) + 7)) ao)).bind fun aD => (sponge_mixer_round.l0 k (Int.tmod (IntKind.u64.wrap (x1 * aG)) ao) (wrap64 (aM + 1)) ao aG aN (updv au 0 aM aD) (updv av 1 aM aD) (updv aw 2 aM aD) (updv ax 3 aM aD))) else (none))) else (if ao = 0 then (none) else (some (x1, Int.tmod (IntKind.u64.wrap ((IntKind.u64.wrap ((IntKind.u64.wrap ((IntKind.u64.wrap ((IntKind.u64.wrap (au + av)) + aw)) + ax)) + au)) + (IntKind.u64.wrap (2 * av)))) ao, Int.tmod (IntKind.u64.wrap ((IntKind.u64.wrap ((IntKind.u64.wrap ((IntKind.u64.wrap ((IntKind.u64.wrap (au + av)) + aw)) + ax)) + av)) + (IntKind.u64.wrap (2 * aw)))) ao, Int.tmod (IntKind.u64.wrap ((IntKind.u64.wrap ((IntKind.u64.wrap ((IntKind.u64.wrap ((IntKind.u64.wrap (au + av)) + aw)) + ax)) + aw)) + (IntKind.u64.wrap (2 * ax)))) ao, Int.tmod (IntKind.u64.wrap ((IntKind.u64.wrap ((IntKind.u64.wrap ((IntKind.u64.wrap ((IntKind.u64.wrap (au + av)) + aw)) + ax)) + ax)) + (IntKind.u64.wrap (2 * au)))) ao)))
def sponge_mixer_round.f (k : Nat) (ai : Int) (ap : Int) (ay : Bool) (a1 : Int) (aH : Int) (aI : Int) (aJ : Int) (aK : Int) : Option (Int × Int × Int × Int × Int) := sponge_mixer_round.l0 k a1 0 ai ap ay aH aI aJ aK
theorem sponge_mixer_round.mono_l : ∀ k, (∀ y0 y1 y2 y3 y4 y5 y6 y7 y8, LeO (sponge_mixer_round.l0 k y0 y1 y2 y3 y4 y5 y6 y7 y8) (sponge_mixer_round.l0 (k + 1) y0 y1 y2 y3 y4 y5 y6 y7 y8))
  | 0 => fun _ _ _ _ _ _ _ _ _ r h => by simp [sponge_mixer_round.l0] at h
  | k + 1 => by
    have ih0 := sponge_mixer_round.mono_l k
    · intro y0 y1 y2 y3 y4 y5 y6 y7 y8
      unfold sponge_mixer_round.l0
      repeat' first
      | (with_reducible exact ih0 _ _ _ _ _ _ _ _ _)
      | (with_reducible exact LeO.refl _)
      | (with_reducible exact LeO.none _)
      | (with_reducible refine LeO.ite ?_ ?_)
      | (with_reducible refine LeO.bind ?_ (fun _ => ?_))
      | exact ih0 _ _ _ _ _ _ _ _ _
      | exact LeO.none _
      | refine LeO.ite ?_ ?_
      | refine LeO.bind ?_ (fun _ => ?_)
theorem sponge_mixer_round.mono : ∀ a0 a1 a2 a3 a4 a5 a6 a7 k, LeO (sponge_mixer_round.f k a0 a1 a2 a3 a4 a5 a6 a7) (sponge_mixer_round.f (k + 1) a0 a1 a2 a3 a4 a5 a6 a7) := by
  intro a0 a1 a2 a3 a4 a5 a6 a7 k
  have ih0 := sponge_mixer_round.mono_l k
  unfold sponge_mixer_round.f
  repeat' first
      | (with_reducible exact ih0 _ _ _ _ _ _ _ _ _)
      | (with_reducible exact LeO.refl _)
      | (with_reducible exact LeO.none _)
      | (with_reducible refine LeO.ite ?_ ?_)
      | (with_reducible refine LeO.bind ?_ (fun _ => ?_))
      | exact ih0 _ _ _ _ _ _ _ _ _
      | exact LeO.none _
      | refine LeO.ite ?_ ?_
      | refine LeO.bind ?_ (fun _ => ?_)
def sponge_mixer_round.T5 : Bool × List (List Nat × List Nat) := (true, [([], []), ([], []), ([], []), ([2], [2]), ([3], [3]), ([], []), ([4, 5], [4, 5]), ([6], [6]), ([], []), ([8], [8]), ([7, 9], [7, 9]), ([1, 10], [1, 10]), ([0, 0, 1, 2, 3, 4, 5, 6, 7, 8, 9, 10, 11], [0]), ([12, 11, 11, 0, 1, 2, 3, 4, 5, 6, 7, 8, 9, 10, 11], [11, 12])])
def sponge_mixer_round.B5 : List Nat := [0, 0, 0, 4, 12, 0, 60, 124, 0, 256, 1020, 2046, 4095, 8191]
theorem sponge_mixer_round.tab5 : rtab .any (opsOf Tryd.f67 5) = sponge_mixer_round.T5 := by kernel_rfl
theorem sponge_mixer_round.bits5 : waitsOk sponge_mixer_round.T5.2 sponge_mixer_round.B5 = true := by kernel_rfl
def sponge_mixer_round.T8 : Bool × List (List Nat × List Nat) := (true, [([], []), ([], []), ([], []), ([2], [2]), ([1, 3], [1, 3]), ([], []), ([5], [5]), ([6], [6]), ([4, 7], [4, 7]), ([], []), ([9], [9]), ([8, 10], [8, 10]), ([], []), ([], []), ([13], [13]), ([12, 14], [12, 14]), ([], []), ([16], [16]), ([17], [17]), ([15, 18], [15, 18]), ([], []), ([20], [20]), ([19, 21], [19, 21]), ([], []), ([], []), ([24], [24]), ([23, 25], [23, 25]), ([], []), ([27], [27]), ([28], [28]), ([26, 29], [26, 29]), ([], []), ([31], [31]), ([30, 32], [30, 32]), ([], []), ([], []), ([35], [35]), ([34, 36], [34, 36]), ([], []), ([38], [38]), ([39], [39]), ([37, 40], [37, 40]), ([], []), ([42], [42]), ([41, 43], [41, 43]), ([11, 22, 33, 44], [11, 22, 33, 44]), ([0, 0], [0]), ([45, 46, 0, 1, 2, 3, 4, 5, 6, 7, 8, 9, 10, 11, 12, 13, 14, 15, 16, 17, 18, 19, 20, 21, 22, 23, 24, 25, 26, 27, 28, 29, 30, 31, 32, 33, 34, 35, 36, 37, 38, 39, 40, 41, 42, 43, 44, 45, 46], [45])])
def sponge_mixer_round.B8 : List Nat := [0, 0, 0, 4, 14, 0, 32, 96, 254, 0, 512, 2046, 0, 0, 8192, 28672, 0, 65536, 196608, 520192, 0, 1048576, 4190208, 0, 0, 16777216, 58720256, 0, 134217728, 402653184, 1065353216, 0, 2147483648, 8581545984, 0, 0, 34359738368, 120259084288, 0, 274877906944, 824633720832, 2181843386368, 0, 4398046511104, 17575006175232, 35184372088830, 1, 140737488355327]
theorem sponge_mixer_round.tab8 : rtab .any (opsOf Tryd.f67 8) = sponge_mixer_round.T8 := by kernel_rfl
theorem sponge_mixer_round.bits8 : waitsOk sponge_mixer_round.T8.2 sponge_mixer_round.B8 = true := by kernel_rfl
set_option maxHeartbeats 8000000 in
set_option maxRecDepth 100000 in
theorem sponge_mixer_round.calls (k : Nat) (ai : Int) (ap : Int) (ay : Bool) (a1 : Int) (aH : Int) (aI : Int) (aJ : Int) (aK : Int) (r1 : Int) (r2 : Int) (r3 : Int) (r4 : Int) (r5 : Int) (w : World) (h : sponge_mixer_round.f k ai ap ay a1 aH aI aJ aK = some (r1, r2, r3, r4, r5)) :
  Calls Tryd.prog 67 #[.agg #[.int .u64 ai, .int .u64 ap, .bool ay], .int .u64 a1, .agg #[.int .u64 aH, .int .u64 aI, .int .u64 aJ, .int .u64 aK]] w fun e w' => e = .returned (.tuple #[.int .u64 r1, .agg #[.int .u64 r2, .int .u64 r3, .int .u64 r4, .int .u64 r5]]) ∧ Below w.heap.size w w' := by
 have hu78 := Tryd.underlying78
 have hu80 := Tryd.underlying80
 have HB := aj (Below.refl w.heap.size w)
 have H : (sponge_mixer_round.l0 k a1 0 ai ap ay aH aI aJ aK) = some (r1, r2, r3, r4, r5) := h
 clear h
 have H' := aj H
 clear H
 go_enter Tryd.func67, Tryd.ntmps67
 go_wp2_with (first | ((with_reducible refine gate_dst (N := 3) rfl ?_); refine box_event ?hg (N := 3) ?hd (cs := #[.int .u64 ai, .int .u64 ap, .bool ay]) (t := 78) ?hr ?_; (case hd => rfl); (case hg => rfl); (case hr => first | (go_simp; done) | (go_simp; rfl)); intro ar hg w4 hbox hb; have aA := aj (below_step HB.out hb); have aB := aj (hbox); have aE := aj ((by rw [hg]; exact (below_size HB.out) : w.heap.size ≤ ar)); clear HB; have HB := aA; have af := aB; have aS := aE; clear aA aB aE; clear hb hbox hg) | ((with_reducible refine gate_dst (N := 5) rfl ?_); refine box_event ?hg (N := 5) ?hd (cs := #[.int .u64 aH, .int .u64 aI, .int .u64 aJ, .int .u64 aK]) (t := 80) ?hr ?_; (case hd => rfl); (case hg => rfl); (case hr => first | (go_simp; done) | (go_simp; rfl)); intro aq hg w5 hbox hb; have aA := aj (blk_below af.out hb); have aB := aj (below_step HB.out hb); have aF := aj (hbox); have aY := aj ((by rw [hg]; exact (below_size HB.out) : w.heap.size ≤ aq)); have aO := aj ((by rw [hg]; exact Nat.ne_of_lt (blk_lt af.out) : ar ≠ aq)); have aP := aj ((by rw [hg]; exact Nat.ne_of_gt (blk_lt af.out) : aq ≠ ar)); clear af; clear HB; have af := aA; have HB := aB; have ah := aF; have aT := aY; have aQ := aO; have aR := aP; clear aA aB aF aY aO aP; clear hb hbox hg) | ((with_reducible refine gate_dst (N := 7) rfl ?_); refine box_event ?hg (N := 7) ?hd (cs := #[.int .u64 0, .int .u64 0, .int .u64 0, .int .u64 0]) (t := 80) ?hr ?_; (case hd => rfl); (case hg => rfl); (case hr => first | (go_simp; done) | (go_simp; rfl)); intro ag hg w6 hbox hb; have aA := aj (blk_below af.out hb); have aB := aj (blk_below ah.out hb); have aF := aj (below_step HB.out hb); have aE := aj (hbox); have aO := aj ((by rw [hg]; exact (below_size HB.out) : w.heap.size ≤ ag)); have aP := aj ((by rw [hg]; exact Nat.ne_of_lt (blk_lt af.out) : ar ≠ ag)); have aZ := aj ((by rw [hg]; exact Nat.ne_of_gt (blk_lt af.out) : ag ≠ ar)); have a8 := aj ((by rw [hg]; exact Nat.ne_of_lt (blk_lt ah.out) : aq ≠ ag)); have a9 := aj ((by rw [hg]; exact Nat.ne_of_gt (blk_lt ah.out) : ag ≠ aq)); clear af; clear ah; clear HB; have af := aA; have ah := aB; have HB := aF; have am := aE; have aU := aO; have al := aP; have aC := aZ; have ae := a8; have az := a9; clear aA aB aF aE aO aP aZ a8 a9; clear hb hbox hg))
 go_loopg [1, 10] k (fun kq v1 bC w' => ∃ (aL : Int) (ak : Int) (ab : Int) (aa : Int) (ac : Int) (ad : Int), v1 = .int .u64 aL ∧ bC = .int .i64 ak ∧ Aside0 (sponge_mixer_round.l0 kq aL ak ai ap ay ab aa ac ad = some (r1, r2, r3, r4, r5)) ∧ Aside0 (kq ≤ k) ∧ Aside0 (w'.heap[ar]? = some (.cells #[.int .u64 ai, .int .u64 ap, .bool ay] 78 (0, 0))) ∧ Aside0 (w'.heap[aq]? = some (.cells #[.int .u64 ab, .int .u64 aa, .int .u64 ac, .int .u64 ad] 80 (0, 0))) ∧ Aside0 (w'.heap[ag]? = some (.cells #[.int .u64 0, .int .u64 0, .int .u64 0, .int .u64 0] 80 (0, 0))) ∧ Aside0 (Below w.heap.size w w'))
 case atStart => exact ⟨(a1), (0), (aH), (aI), (aJ), (aK), (by first | rfl | simp), (by first | rfl | simp), H', ⟨Nat.le_refl _⟩, ⟨by exact af.out⟩, ⟨by exact ah.out⟩, ⟨by exact am.out⟩, ⟨HB.out⟩⟩
 case round =>
  clear H'
  obtain ⟨aL, ak, ab, aa, ac, ad, rfl, rfl, HA, ba, af, ah, am, HB⟩ := hrel
  cases gk with
  | zero => exact absurd HA.out (by simp [sponge_mixer_round.l0])
  | succ k1 =>
   have H := HA.out
   clear HA
   simp only [sponge_mixer_round.l0] at H
   by_cases c7 : ak < 4
   ·rw [if_pos c7] at H
    have c7b0 : decide (ak < 4) = true := decide_eq_true c7
    clear c7
    by_cases c8 : ai = 0
    ·rw [if_pos c8] at H
     exact absurd H (by simp)
    ·rw [if_neg c8] at H
     have c8b0 : (ai == 0) = false := beq_eq_false_iff_ne.mpr c8
     have c8b1 : (ai != 0) = true := bne_iff_ne.mpr c8
     by_cases c9 : 0 ≤ ak
     ·rw [if_pos c9] at H
      have c9b0 := eq_true c9
      have c9b1 : decide (0 ≤ ak) = true := decide_eq_true c9
      clear c9
      replace H := Option.bind_eq_some_iff.mp H
      obtain ⟨aD, aX, H⟩ := H
      have bD := aj aX
      clear aX
      have H' := aj H
      clear H
      have bb : wr.cell? ⟨ar, 0, none⟩ = some (.int .u64 ai) := bq_ af 0
      have bc : wr.cell? ⟨ar, 1, none⟩ = some (.int .u64 ap) := bq_ af 1
      have bd : wr.cell? ⟨ar, 2, none⟩ = some (.bool ay) := bq_ af 2
      have be := blk_frozen af.out 0
      have bf := blk_frozen af.out 1
      have bg := blk_frozen af.out 2
      try go_wp2
      have aA := aj (blk_drew af.out)
      have aB := aj (blk_drew ah.out)
      have aF := aj (blk_drew am.out)
      have aE := aj (below_drew1 HB.out)
      clear af
      clear ah
      clear am
      clear HB
      have af := aA
      have ah := aB
      have am := aF
      have HB := aE
      have hlt15 : (ak < 4) = True := eq_true (of_decide_eq_true (by assumption))
      have hge16 : (0 ≤ ak) = True := eq_true (of_decide_eq_true (by assumption))
      have hlt20 : (ak < 4) = True := eq_true (of_decide_eq_true (by assumption))
      have hge21 : (0 ≤ ak) = True := eq_true (of_decide_eq_true (by assumption))
      refine start_ (n := 14) (S := fun w' => w'.cell? ⟨ar, 0, none⟩ = some (.int .u64 ai) ∧ w'.cell? ⟨ar, 1, none⟩ = some (.int .u64 ap) ∧ w'.cell? ⟨ar, 2, none⟩ = some (.bool ay) ∧ w'.cell? ⟨aq, (ak).toNat, none⟩ = some (.int .u64 (rd ([ab, aa, ac, ad] : List Int) ak))) (ds := [13]) z67_0_ (by kernel_rfl) rfl rfl ⟨bq_ af 0, bq_ af 1, bq_ af 2, (sel_at (pre := []) (l := ([ab, aa, ac, ad] : List Int)) (post := []) ah.out rfl (by simp) (of_decide_eq_true (by assumption)) (of_decide_eq_true (by assumption)))⟩ (fun hL => ?_); refine with_tabW sponge_mixer_round.tab5 sponge_mixer_round.bits5 (fun T_ W_ => ?_)
      generalize wr.drew = bF at af ah am HB hL ⊢
      refine pz_ 0 20 z67_1_ ?_
      refine pz_ 2 22 z67_2_ ?_
      refine pz_ 3 23 z67_3_ ?_
      refine pz_ 5 25 z67_4_ ?_
      refine pz_ 8 28 z67_5_ ?_
      refine tz_ 1 21 z67_6_ ?_
      refine tz_ 4 24 z67_7_ ?_
      refine pz_ 6 26 z67_8_ ?_
      refine pz_ 7 27 z67_9_ ?_
      refine tz_ 9 29 z67_10_ ?_
      refine pz_ 10 30 z67_11_ ?_
      refine one_ (i := 11) (N := some 31) z67_12_ rfl rfl (on_ T_) (by decide) (fun K hK => ?_)
      refine goes_ Tryd.func73 (by kernel_rfl) rfl #[.agg #[.int .u64 ai, .int .u64 ap, .bool ay], .int .u64 (Int.tmod (IntKind.u64.wrap ((IntKind.u64.wrap ((rd ([ab, aa, ac, ad] : List Int) ak) + (Int.tmod (IntKind.u64.wrap (aL * ap)) ai))) + 7)) ai)] (by rfl) rfl rfl (by (try simp only [List.map_toArray, List.map_cons, List.map_nil]); first | done | rfl | (go_simp; done)) ?_
      with_reducible refine (sponge_mixer_power.calls ai ap ay (Int.tmod (IntKind.u64.wrap ((IntKind.u64.wrap ((rd ([ab, aa, ac, ad] : List Int) ak) + (Int.tmod (IntKind.u64.wrap (aL * ap)) ai))) + 7)) ai) aD _ bD.out).mono ?_
      rintro e bE ⟨rfl, hb⟩
      refine ⟨_, rfl, ?_⟩
      have aA := aj (blk_below af.out hb)
      have aB := aj (blk_below ah.out hb)
      have aF := aj (blk_below am.out hb)
      have aE := aj (below_step HB.out hb)
      clear af
      clear ah
      clear am
      clear HB
      have af := aA
      have ah := aB
      have am := aF
      have HB := aE
      refine hK.out _ _ ⟨bq_ af 0, bq_ af 1, bq_ af 2, (sel_at (pre := []) (l := ([ab, aa, ac, ad] : List Int)) (post := []) ah.out rfl (by simp) (of_decide_eq_true (by assumption)) (of_decide_eq_true (by assumption)))⟩ (fun hL => ?_)
      clear hK K
      refine norm_ (a' := ?_) ?_ ?_
      rotate_left
      ·show Act.put _ (some 31) _ = _
       simp only [Act.put, sa_, sb_, sc_, i64_w, i32_w]
       rfl
      refine pz_ 12 32 z67_13_ ?_
      refine last_ (i := 13) (N := none) z67_14_ rfl rfl (on_ T_) (by decide) (fun K hK => ?_)
      have hsv18 : bE.cell? ⟨aq, (ak).toNat, none⟩ = some (.int .u64 (rd ([ab, aa, ac, ad] : List Int) ak)) := (sel_at (pre := []) (l := ([ab, aa, ac, ad] : List Int)) (post := []) ah.out rfl (by simp) (of_decide_eq_true (by assumption)) (of_decide_eq_true (by assumption)))
      have hfv19 := blk_frozen ah.out ((ak).toNat)
      have bh := aR.out
      have bi := ae.out
      refine skip_ (w1 := ?_) (by rfl) rfl ?_ ?_
      rotate_left
      ·go_simp
       rfl
      refine hK.out _ _ ?_
      clear hK K
      refine done_ (done_of T_.out (by kernel_rfl)) ?_
      try go_wp2
      go_roundg k1
      case measure => have := ba.out; omega
      case rel => exact ⟨(Int.tmod (IntKind.u64.wrap (aL * ap)) ai), (wrap64 (ak + 1)), ((updv ab 0 ak aD)), ((updv aa 1 ak aD)), ((updv ac 2 ak aD)), ((updv ad 3 ak aD)), (by first | rfl | simp), (by first | rfl | simp), H', ⟨by have := ba.out; omega⟩, ⟨by refine blk_far ?_ aQ.out _; exact af.out⟩, ⟨by refine sel_put (pre := []) (l := ([ab, aa, ac, ad] : List Int)) (post := []) ?_ rfl rfl (by simp) (of_decide_eq_true (by assumption)) (of_decide_eq_true (by assumption)); exact ah.out⟩, ⟨by refine blk_far ?_ az.out _; exact am.out⟩, ⟨by repeat (first | (with_reducible first | exact HB.out | apply below_alloc | apply pw_below_drewN | apply below_drew1 | refine below_set ?_ aS.out | refine below_set ?_ aT.out | refine below_set ?_ aU.out) | exact HB.out)⟩⟩
     ·rw [if_neg c9] at H
      exact absurd H (by simp)
   ·rw [if_neg c7] at H
    have c7b0 : decide (ak < 4) = false := decide_eq_false c7
    clear c7
    by_cases aV : ai = 0
    ·rw [if_pos aV] at H
     exact absurd H (by simp)
    ·rw [if_neg aV] at H
     have c23b0 : (ai == 0) = false := beq_eq_false_iff_ne.mpr aV
     have c23b1 : (ai != 0) = true := bne_iff_ne.mpr aV
     simp only [Option.some.injEq, Prod.mk.injEq] at H
     obtain ⟨rfl, rfl, rfl, rfl, rfl⟩ := H
     have bj : wr.cell? ⟨aq, 0, none⟩ = some (.int .u64 ab) := bq_ ah 0
     have bl : wr.cell? ⟨aq, 1, none⟩ = some (.int .u64 aa) := bq_ ah 1
     have bm : wr.cell? ⟨aq, 2, none⟩ = some (.int .u64 ac) := bq_ ah 2
     have bn : wr.cell? ⟨aq, 3, none⟩ = some (.int .u64 ad) := bq_ ah 3
     have bo := blk_frozen ah.out 0
     have bp := blk_frozen ah.out 1
     have bq := blk_frozen ah.out 2
     have br := blk_frozen ah.out 3
     try go_wp2
     have aA := aj (blk_drew af.out)
     have aB := aj (blk_drew ah.out)
     have aF := aj (blk_drew am.out)
     have aE := aj (below_drew1 HB.out)
     clear af
     clear ah
     clear am
     clear HB
     have af := aA
     have ah := aB
     have am := aF
     have HB := aE
     refine start_ (n := 48) (S := fun w' => w'.cell? ⟨aq, 0, none⟩ = some (.int .u64 ab) ∧ w'.cell? ⟨aq, 1, none⟩ = some (.int .u64 aa) ∧ w'.cell? ⟨aq, 2, none⟩ = some (.int .u64 ac) ∧ w'.cell? ⟨aq, 3, none⟩ = some (.int .u64 ad) ∧ w'.cell? ⟨ar, 0, none⟩ = some (.int .u64 ai) ∧ w'.cell? ⟨ar, 1, none⟩ = some (.int .u64 ap) ∧ w'.cell? ⟨ar, 2, none⟩ = some (.bool ay)) (ds := []) z67_15_ (by kernel_rfl) rfl rfl ⟨bq_ ah 0, bq_ ah 1, bq_ ah 2, bq_ ah 3, bq_ af 0, bq_ af 1, bq_ af 2⟩ (fun hL => ?_); refine with_tabW sponge_mixer_round.tab8 sponge_mixer_round.bits8 (fun T_ W_ => ?_)
     generalize wr.drew = aW at af ah am HB hL ⊢
     refine pz_ 0 45 z67_16_ ?_
     refine pz_ 1 46 z67_17_ ?_
     refine pz_ 2 47 z67_18_ ?_
     refine pz_ 5 50 z67_19_ ?_
     refine pz_ 9 54 z67_20_ ?_
     refine pz_ 12 57 z67_21_ ?_
     refine pz_ 13 58 z67_22_ ?_
     refine pz_ 16 61 z67_23_ ?_
     refine pz_ 20 65 z67_24_ ?_
     refine pz_ 23 68 z67_25_ ?_
     refine pz_ 24 69 z67_26_ ?_
     refine pz_ 27 72 z67_27_ ?_
     refine pz_ 31 76 z67_28_ ?_
     refine pz_ 34 79 z67_29_ ?_
     refine pz_ 35 80 z67_30_ ?_
     refine pz_ 38 83 z67_31_ ?_
     refine pz_ 42 87 z67_32_ ?_
     refine pz_ 46 6 z67_33_ ?_
     refine tz_ 3 48 z67_34_ ?_
     refine pz_ 4 49 z67_35_ ?_
     refine tz_ 6 51 z67_36_ ?_
     refine pz_ 7 52 z67_37_ ?_
     refine pz_ 8 53 z67_38_ ?_
     refine tz_ 10 55 z67_39_ ?_
     refine pz_ 11 56 z67_40_ ?_
     refine tz_ 14 59 z67_41_ ?_
     refine pz_ 15 60 z67_42_ ?_
     refine tz_ 17 62 z67_43_ ?_
     refine pz_ 18 63 z67_44_ ?_
     refine pz_ 19 64 z67_45_ ?_
     refine tz_ 21 66 z67_46_ ?_
     refine pz_ 22 67 z67_47_ ?_
     refine tz_ 25 70 z67_48_ ?_
     refine pz_ 26 71 z67_49_ ?_
     refine tz_ 28 73 z67_50_ ?_
     refine pz_ 29 74 z67_51_ ?_
     refine pz_ 30 75 z67_52_ ?_
     refine tz_ 32 77 z67_53_ ?_
     refine pz_ 33 78 z67_54_ ?_
     refine tz_ 36 81 z67_55_ ?_
     refine pz_ 37 82 z67_56_ ?_
     refine tz_ 39 84 z67_57_ ?_
     refine pz_ 40 85 z67_58_ ?_
     refine pz_ 41 86 z67_59_ ?_
     refine tz_ 43 88 z67_60_ ?_
     refine pz_ 44 89 z67_61_ ?_
     refine pz_ 45 90 z67_62_ ?_
     refine one_ (i := 47) (N := none) z67_63_ rfl rfl (on_ T_) (by decide) (fun K hK => ?_)
     have hs28 : aW.cell? ⟨ag, 0, none⟩ = some (.int .u64 0) := bq_ am 0
     have hfs28 := blk_frozen am.out 0
     have bs := aC.out
     have bu := az.out
     have hs29 : aW.cell? ⟨ag, 1, none⟩ = some (.int .u64 0) := bq_ am 1
     have hfs29 := blk_frozen am.out 1
     have bv := aC.out
     have bw := az.out
     have hs30 : aW.cell? ⟨ag, 2, none⟩ = some (.int .u64 0) := bq_ am 2
     have hfs30 := blk_frozen am.out 2
     have bx := aC.out
     have bz := az.out
     have hs31 : aW.cell? ⟨ag, 3, none⟩ = some (.int .u64 0) := bq_ am 3
     have hfs31 := blk_frozen am.out 3
     have bA := aC.out
     have bB := az.out
     refine skip_ (w1 := ?_) (by rfl) rfl ?_ ?_
     rotate_left
     ·go_simp
      rfl
     refine hK.out _ _ ⟨((cell_far (p := ⟨ag, _, none⟩) ae.out _).trans (((cell_far (p := ⟨ag, _, none⟩) ae.out _).trans (((cell_far (p := ⟨ag, _, none⟩) ae.out _).trans (((cell_far (p := ⟨ag, _, none⟩) ae.out _).trans (hL.1)))))))), ((cell_far (p := ⟨ag, _, none⟩) ae.out _).trans (((cell_far (p := ⟨ag, _, none⟩) ae.out _).trans (((cell_far (p := ⟨ag, _, none⟩) ae.out _).trans (((cell_far (p := ⟨ag, _, none⟩) ae.out _).trans (hL.2.1)))))))), ((cell_far (p := ⟨ag, _, none⟩) ae.out _).trans (((cell_far (p := ⟨ag, _, none⟩) ae.out _).trans (((cell_far (p := ⟨ag, _, none⟩) ae.out _).trans (((cell_far (p := ⟨ag, _, none⟩) ae.out _).trans (hL.2.2.1)))))))), ((cell_far (p := ⟨ag, _, none⟩) ae.out _).trans (((cell_far (p := ⟨ag, _, none⟩) ae.out _).trans (((cell_far (p := ⟨ag, _, none⟩) ae.out _).trans (((cell_far (p := ⟨ag, _, none⟩) ae.out _).trans (hL.2.2.2.1)))))))), ((cell_far (p := ⟨ag, _, none⟩) al.out _).trans (((cell_far (p := ⟨ag, _, none⟩) al.out _).trans (((cell_far (p := ⟨ag, _, none⟩) al.out _).trans (((cell_far (p := ⟨ag, _, none⟩) al.out _).trans (hL.2.2.2.2.1)))))))), ((cell_far (p := ⟨ag, _, none⟩) al.out _).trans (((cell_far (p := ⟨ag, _, none⟩) al.out _).trans (((cell_far (p := ⟨ag, _, none⟩) al.out _).trans (((cell_far (p := ⟨ag, _, none⟩) al.out _).trans (hL.2.2.2.2.2.1)))))))), ((cell_far (p := ⟨ag, _, none⟩) al.out _).trans (((cell_far (p := ⟨ag, _, none⟩) al.out _).trans (((cell_far (p := ⟨ag, _, none⟩) al.out _).trans (((cell_far (p := ⟨ag, _, none⟩) al.out _).trans (hL.2.2.2.2.2.2))))))))⟩ (fun hL => ?_)
     clear hK K
     refine done_ (done_of T_.out (by kernel_rfl)) ?_
     try go_wp2
     refine bodyPost_ret (results_tc rfl _ _ ag 80 #[.int .u64 (Int.tmod (IntKind.u64.wrap ((IntKind.u64.wrap ((IntKind.u64.wrap ((IntKind.u64.wrap ((IntKind.u64.wrap (ab + aa)) + ac)) + ad)) + ab)) + (IntKind.u64.wrap (2 * aa)))) ai), .int .u64 (Int.tmod (IntKind.u64.wrap ((IntKind.u64.wrap ((IntKind.u64.wrap ((IntKind.u64.wrap ((IntKind.u64.wrap (ab + aa)) + ac)) + ad)) + aa)) + (IntKind.u64.wrap (2 * ac)))) ai), .int .u64 (Int.tmod (IntKind.u64.wrap ((IntKind.u64.wrap ((IntKind.u64.wrap ((IntKind.u64.wrap ((IntKind.u64.wrap (ab + aa)) + ac)) + ad)) + ac)) + (IntKind.u64.wrap (2 * ad)))) ai), .int .u64 (Int.tmod (IntKind.u64.wrap ((IntKind.u64.wrap ((IntKind.u64.wrap ((IntKind.u64.wrap ((IntKind.u64.wrap (ab + aa)) + ac)) + ad)) + ad)) + (IntKind.u64.wrap (2 * ab)))) ai)] (0, 0) _ rfl (by refine blk_put (cs := #[.int .u64 (Int.tmod (IntKind.u64.wrap ((IntKind.u64.wrap ((IntKind.u64.wrap ((IntKind.u64.wrap ((IntKind.u64.wrap (ab + aa)) + ac)) + ad)) + ab)) + (IntKind.u64.wrap (2 * aa)))) ai), .int .u64 (Int.tmod (IntKind.u64.wrap ((IntKind.u64.wrap ((IntKind.u64.wrap ((IntKind.u64.wrap ((IntKind.u64.wrap (ab + aa)) + ac)) + ad)) + aa)) + (IntKind.u64.wrap (2 * ac)))) ai), .int .u64 (Int.tmod (IntKind.u64.wrap ((IntKind.u64.wrap ((IntKind.u64.wrap ((IntKind.u64.wrap ((IntKind.u64.wrap (ab + aa)) + ac)) + ad)) + ac)) + (IntKind.u64.wrap (2 * ad)))) ai), .int .u64 0]) ?_ 3 _ rfl; refine blk_put (cs := #[.int .u64 (Int.tmod (IntKind.u64.wrap ((IntKind.u64.wrap ((IntKind.u64.wrap ((IntKind.u64.wrap ((IntKind.u64.wrap (ab + aa)) + ac)) + ad)) + ab)) + (IntKind.u64.wrap (2 * aa)))) ai), .int .u64 (Int.tmod (IntKind.u64.wrap ((IntKind.u64.wrap ((IntKind.u64.wrap ((IntKind.u64.wrap ((IntKind.u64.wrap (ab + aa)) + ac)) + ad)) + aa)) + (IntKind.u64.wrap (2 * ac)))) ai), .int .u64 0, .int .u64 0]) ?_ 2 _ rfl; refine blk_put (cs := #[.int .u64 (Int.tmod (IntKind.u64.wrap ((IntKind.u64.wrap ((IntKind.u64.wrap ((IntKind.u64.wrap ((IntKind.u64.wrap (ab + aa)) + ac)) + ad)) + ab)) + (IntKind.u64.wrap (2 * aa)))) ai), .int .u64 0, .int .u64 0, .int .u64 0]) ?_ 1 _ rfl; refine blk_put (cs := #[.int .u64 0, .int .u64 0, .int .u64 0, .int .u64 0]) ?_ 0 _ rfl; exact am.out) Tryd.underlying80 rfl (by kernel_rfl)) rfl ?_
     exact ⟨by first | rfl | (simp [errW_none, errW_some] <;> rfl) | (simp [*, errW_none, errW_some] <;> rfl), by repeat (first | (with_reducible first | exact HB.out | apply below_alloc | apply pw_below_drewN | apply below_drew1 | refine below_set ?_ aS.out | refine below_set ?_ aT.out | refine below_set ?_ aU.out) | exact HB.out)⟩

end Go.Proofs.YtpnpmeogffodgaaDoor.Q
end
section
namespace Go.Proofs.YtpnpmeogffodgaaDoor.Q
open Go.RowKit Go.Proofs.YtpnpmeogffodgaaDoorW.PrintWords Go.Proofs.YtpnpmeogffodgaaDoorW.PrintLast Go.Proofs.YtpnpmeogffodgaaDoorW.PrintMore
attribute [local go_sem] max2_int min2_int max_two min_two max_three min_three max_four min_four run_store_fnV run_store_fnc run_store_nfn   -- for this text's walks alone
set_option linter.unusedVariables false
set_option linter.unusedSimpArgs false

/-! ### sponge_mixer_perm: function 56 -/
def sponge_mixer_perm.l0 : Nat → Int → Int → Int → Int → Bool → Int → Int → Int → Int → Option (Int × Int × Int × Int)
  | 0, _, _, _, _, _, _, _, _, _ => none
  | k + 1, x5, x6, x126000, x126001, x126002, x127000, x127001, x127002, x127003 => if x6 < 8 then ((sponge_mixer_round.f k x126000 x126001 x126002 x5 x127000 x127001 x127002 x127003).bind fun bt128 => (sponge_mixer_perm.l0 k bt128.1 (wrap64 (x6 + 1)) x126000 x126001 x126002 bt128.2.1 bt128.2.2.1 bt128.2.2.2.1 bt128.2.2.2.2)) else (some (x127000, x127001, x127002, x127003))
def sponge_mixer_perm.f (k : Nat) (a0_0 : Int) (a0_1 : Int) (a0_2 : Bool) (a1_0 : Int) (a1_1 : Int) (a1_2 : Int) (a1_3 : Int) : Option (Int × Int × Int × Int) := sponge_mixer_perm.l0 k 1 0 a0_0 a0_1 a0_2 a1_0 a1_1 a1_2 a1_3
theorem sponge_mixer_perm.mono_l : ∀ k, (∀ y0 y1 y2 y3 y4 y5 y6 y7 y8, LeO (sponge_mixer_perm.l0 k y0 y1 y2 y3 y4 y5 y6 y7 y8) (sponge_mixer_perm.l0 (k + 1) y0 y1 y2 y3 y4 y5 y6 y7 y8))
  | 0 => fun _ _ _ _ _ _ _ _ _ r h => by simp [sponge_mixer_perm.l0] at h
  | k + 1 => by
    have ih0 := sponge_mixer_perm.mono_l k
    · intro y0 y1 y2 y3 y4 y5 y6 y7 y8
      unfold sponge_mixer_perm.l0
      repeat' first
      | (with_reducible exact ih0 _ _ _ _ _ _ _ _ _)
      | (with_reducible exact sponge_mixer_round.mono _ _ _ _ _ _ _ _ _)
      | (with_reducible exact LeO.refl _)
      | (with_reducible exact LeO.none _)
      | (with_reducible refine LeO.ite ?_ ?_)
      | (with_reducible refine LeO.bind ?_ (fun _ => ?_))
      | exact ih0 _ _ _ _ _ _ _ _ _
      | exact sponge_mixer_round.mono _ _ _ _ _ _ _ _ _
      | exact LeO.none _
      | refine LeO.ite ?_ ?_
      | refine LeO.bind ?_ (fun _ => ?_)
theorem sponge_mixer_perm.mono : ∀ a0 a1 a2 a3 a4 a5 a6 k, LeO (sponge_mixer_perm.f k a0 a1 a2 a3 a4 a5 a6) (sponge_mixer_perm.f (k + 1) a0 a1 a2 a3 a4 a5 a6) := by
  intro a0 a1 a2 a3 a4 a5 a6 k
  have ih0 := sponge_mixer_perm.mono_l k
  unfold sponge_mixer_perm.f
  repeat' first
      | (with_reducible exact ih0 _ _ _ _ _ _ _ _ _)
      | (with_reducible exact sponge_mixer_round.mono _ _ _ _ _ _ _ _ _)
      | (with_reducible exact LeO.refl _)
      | (with_reducible exact LeO.none _)
      | (with_reducible refine LeO.ite ?_ ?_)
      | (with_reducible refine LeO.bind ?_ (fun _ => ?_))
      | exact ih0 _ _ _ _ _ _ _ _ _
      | exact sponge_mixer_round.mono _ _ _ _ _ _ _ _ _
      | exact LeO.none _
      | refine LeO.ite ?_ ?_
      | refine LeO.bind ?_ (fun _ => ?_)
set_option maxHeartbeats 8000000 in
set_option maxRecDepth 100000 in
theorem sponge_mixer_perm.calls (k : Nat) (a0_0 : Int) (a0_1 : Int) (a0_2 : Bool) (a1_0 : Int) (a1_1 : Int) (a1_2 : Int) (a1_3 : Int) (r1 : Int) (r2 : Int) (r3 : Int) (r4 : Int) (w : World) (h : sponge_mixer_perm.f k a0_0 a0_1 a0_2 a1_0 a1_1 a1_2 a1_3 = some (r1, r2, r3, r4)) :
  Calls Tryd.prog 56 #[.agg #[.int .u64 a0_0, .int .u64 a0_1, .bool a0_2], .agg #[.int .u64 a1_0, .int .u64 a1_1, .int .u64 a1_2, .int .u64 a1_3]] w fun e w' => e = .returned (.agg #[.int .u64 r1, .int .u64 r2, .int .u64 r3, .int .u64 r4]) ∧ Below w.heap.size w w' := by
 have hu78 := Tryd.underlying78
 have hu80 := Tryd.underlying80
 have HB := Aside0.mk (Below.refl w.heap.size w)
 have H : (sponge_mixer_perm.l0 k 1 0 a0_0 a0_1 a0_2 a1_0 a1_1 a1_2 a1_3) = some (r1, r2, r3, r4) := h
 clear h
 have H' := Aside0.mk H
 clear H
 go_enter Tryd.func56, Tryd.ntmps56
 go_wp2_with (first | ((with_reducible refine gate_dst (N := 2) rfl ?_); refine box_event ?hg (N := 2) ?hd (cs := #[.int .u64 a0_0, .int .u64 a0_1, .bool a0_2]) (t := 78) ?hr ?_; (case hd => rfl); (case hg => rfl); (case hr => first | (go_simp; done) | (go_simp; rfl)); intro g125 hg w3 hbox hb; have n0_ := Aside0.mk (below_step (by repeat (first | (with_reducible first | exact HB.out | apply below_alloc | apply pw_below_drewN | apply below_drew1) | exact HB.out)) hb); have n1_ := Aside0.mk (hbox); have n2_ := Aside0.mk ((by rw [hg]; exact (below_size (by repeat (first | (with_reducible first | exact HB.out | apply below_alloc | apply pw_below_drewN | apply below_drew1) | exact HB.out))) : w.heap.size ≤ g125)); have n3_ := Aside0.mk ((by rw [hg]; exact (below_size (by repeat (first | (with_reducible first | exact HB.out | apply below_alloc | apply pw_below_drewN | apply below_drew1) | exact HB.out))) : w.heap.size ≤ g125)); clear HB; have HB := n0_; have B125 := n1_; have GW125 := n2_; have GE125 := n3_; clear n0_ n1_ n2_ n3_; clear hb hbox hg) | ((with_reducible refine gate_dst (N := 3) rfl ?_); refine box_event ?hg (N := 3) ?hd (cs := #[.int .u64 a1_0, .int .u64 a1_1, .int .u64 a1_2, .int .u64 a1_3]) (t := 80) ?hr ?_; (case hd => rfl); (case hg => rfl); (case hr => first | (go_simp; done) | (go_simp; rfl)); intro g126 hg w4 hbox hb; have n0_ := Aside0.mk (blk_below (g := g125) (o := .cells #[.int .u64 a0_0, .int .u64 a0_1, .bool a0_2] 78 (0, 0)) (by exact B125.out) hb); have n1_ := Aside0.mk (below_step (by repeat (first | (with_reducible first | exact HB.out | apply below_alloc | apply pw_below_drewN | apply below_drew1 | refine below_set ?_ GE125.out) | exact HB.out)) hb); have n2_ := Aside0.mk (hbox); have n3_ := Aside0.mk ((by rw [hg]; exact (below_size (by repeat (first | (with_reducible first | exact HB.out | apply below_alloc | apply pw_below_drewN | apply below_drew1 | refine below_set ?_ GE125.out) | exact HB.out))) : w.heap.size ≤ g126)); have n4_ := Aside0.mk ((by rw [hg]; exact (below_size (by repeat (first | (with_reducible first | exact HB.out | apply below_alloc | apply pw_below_drewN | apply below_drew1 | refine below_set ?_ GE125.out) | exact HB.out))) : w.heap.size ≤ g126)); have n5_ := Aside0.mk ((by rw [hg]; exact Nat.ne_of_lt (blk_lt (g := g125) (o := .cells #[.int .u64 a0_0, .int .u64 a0_1, .bool a0_2] 78 (0, 0)) (by exact B125.out)) : g125 ≠ g126)); have n6_ := Aside0.mk ((by rw [hg]; exact Nat.ne_of_gt (blk_lt (g := g125) (o := .cells #[.int .u64 a0_0, .int .u64 a0_1, .bool a0_2] 78 (0, 0)) (by exact B125.out)) : g126 ≠ g125)); clear B125; clear HB; have B125 := n0_; have HB := n1_; have B126 := n2_; have GW126 := n3_; have GE126 := n4_; have NB125_126 := n5_; have NB126_125 := n6_; clear n0_ n1_ n2_ n3_ n4_ n5_ n6_; clear hb hbox hg) | ((with_reducible refine gate_dst (N := 4) rfl ?_); refine box_event ?hg (N := 4) ?hd (cs := #[.int .u64 0, .int .u64 0, .int .u64 0, .int .u64 0]) (t := 80) ?hr ?_; (case hd => rfl); (case hg => rfl); (case hr => first | (go_simp; done) | (go_simp; rfl)); intro g127 hg w5 hbox hb; have n0_ := Aside0.mk (blk_below (g := g125) (o := .cells #[.int .u64 a0_0, .int .u64 a0_1, .bool a0_2] 78 (0, 0)) (by exact B125.out) hb); have n1_ := Aside0.mk (blk_below (g := g126) (o := .cells #[.int .u64 a1_0, .int .u64 a1_1, .int .u64 a1_2, .int .u64 a1_3] 80 (0, 0)) (by exact B126.out) hb); have n2_ := Aside0.mk (below_step (by repeat (first | (with_reducible first | exact HB.out | apply below_alloc | apply pw_below_drewN | apply below_drew1 | refine below_set ?_ GE125.out | refine below_set ?_ GE126.out) | exact HB.out)) hb); have n3_ := Aside0.mk (hbox); have n4_ := Aside0.mk ((by rw [hg]; exact (below_size (by repeat (first | (with_reducible first | exact HB.out | apply below_alloc | apply pw_below_drewN | apply below_drew1 | refine below_set ?_ GE125.out | refine below_set ?_ GE126.out) | exact HB.out))) : w.heap.size ≤ g127)); have n5_ := Aside0.mk ((by rw [hg]; exact (below_size (by repeat (first | (with_reducible first | exact HB.out | apply below_alloc | apply pw_below_drewN | apply below_drew1 | refine below_set ?_ GE125.out | refine below_set ?_ GE126.out) | exact HB.out))) : w.heap.size ≤ g127)); have n6_ := Aside0.mk ((by rw [hg]; exact Nat.ne_of_lt (blk_lt (g := g125) (o := .cells #[.int .u64 a0_0, .int .u64 a0_1, .bool a0_2] 78 (0, 0)) (by exact B125.out)) : g125 ≠ g127)); have n7_ := Aside0.mk ((by rw [hg]; exact Nat.ne_of_gt (blk_lt (g := g125) (o := .cells #[.int .u64 a0_0, .int .u64 a0_1, .bool a0_2] 78 (0, 0)) (by exact B125.out)) : g127 ≠ g125)); have n8_ := Aside0.mk ((by rw [hg]; exact Nat.ne_of_lt (blk_lt (g := g126) (o := .cells #[.int .u64 a1_0, .int .u64 a1_1, .int .u64 a1_2, .int .u64 a1_3] 80 (0, 0)) (by exact B126.out)) : g126 ≠ g127)); have n9_ := Aside0.mk ((by rw [hg]; exact Nat.ne_of_gt (blk_lt (g := g126) (o := .cells #[.int .u64 a1_0, .int .u64 a1_1, .int .u64 a1_2, .int .u64 a1_3] 80 (0, 0)) (by exact B126.out)) : g127 ≠ g126)); clear B125; clear B126; clear HB; have B125 := n0_; have B126 := n1_; have HB := n2_; have B127 := n3_; have GW127 := n4_; have GE127 := n5_; have NB125_127 := n6_; have NB127_125 := n7_; have NB126_127 := n8_; have NB127_126 := n9_; clear n0_ n1_ n2_ n3_ n4_ n5_ n6_ n7_ n8_ n9_; clear hb hbox hg))
 go_loopg [5, 6] k (fun kq v5 v6 w' => ∃ (x5_1 : Int) (x6_1 : Int) (x127000_1 : Int) (x127001_1 : Int) (x127002_1 : Int) (x127003_1 : Int), v5 = .int .u64 x5_1 ∧ v6 = .int .i64 x6_1 ∧ Aside0 (sponge_mixer_perm.l0 kq x5_1 x6_1 a0_0 a0_1 a0_2 x127000_1 x127001_1 x127002_1 x127003_1 = some (r1, r2, r3, r4)) ∧ Aside0 (kq ≤ k) ∧ Aside0 (w'.heap[g125]? = some (.cells #[.int .u64 a0_0, .int .u64 a0_1, .bool a0_2] 78 (0, 0))) ∧ Aside0 (w'.heap[g126]? = some (.cells #[.int .u64 x127000_1, .int .u64 x127001_1, .int .u64 x127002_1, .int .u64 x127003_1] 80 (0, 0))) ∧ Aside0 (w'.heap[g127]? = some (.cells #[.int .u64 0, .int .u64 0, .int .u64 0, .int .u64 0] 80 (0, 0))) ∧ Aside0 (Below w.heap.size w w'))
 case atStart => exact ⟨(1), (0), (a1_0), (a1_1), (a1_2), (a1_3), (by first | rfl | (simp; done) | (simp [*]; done) | (simp; rfl) | (simp; decide +kernel)), (by first | rfl | (simp; done) | (simp [*]; done) | (simp; rfl) | (simp; decide +kernel)), H', ⟨Nat.le_refl _⟩, ⟨by exact B125.out⟩, ⟨by exact B126.out⟩, ⟨by exact B127.out⟩, ⟨by repeat (first | (with_reducible first | exact HB.out | apply below_alloc | apply pw_below_drewN | apply below_drew1 | refine below_set ?_ GE125.out | refine below_set ?_ GE126.out | refine below_set ?_ GE127.out) | exact HB.out)⟩⟩
 case round =>
  clear H'
  try clear p2
  try clear c5
  obtain ⟨x5_1, x6_1, x127000_1, x127001_1, x127002_1, x127003_1, rfl, rfl, HA, HK1, B125, B126, B127, HB⟩ := hrel
  cases gk with
  | zero => exact absurd HA.out (by simp [sponge_mixer_perm.l0])
  | succ k1 =>
   have H := HA.out
   clear HA
   simp only [sponge_mixer_perm.l0] at H
   by_cases c6 : x6_1 < 8
   ·rw [if_pos c6] at H
    have c6b0 : decide (x6_1 < 8) = true := decide_eq_true c6
    clear c6
    replace H := Option.bind_eq_some_iff.mp H
    obtain ⟨⟨t128, t129, t130, t131, t132⟩, A70, H⟩ := H
    replace H : (sponge_mixer_perm.l0 k1 t128 (wrap64 (x6_1 + 1)) a0_0 a0_1 a0_2 t129 t130 t131 t132) = some (r1, r2, r3, r4) := H
    have A7 := Aside0.mk A70
    clear A70
    have H' := Aside0.mk H
    clear H
    have hnb8 := NB125_126.out
    have hnc8 := NB126_125.out
    have hnb9 := NB125_127.out
    have hnc9 := NB127_125.out
    have hcz10_0 : wr.cell? ⟨g125, 0, none⟩ = some (.int .u64 a0_0) := bq_ B125 0
    have hcz10_1 : wr.cell? ⟨g125, 1, none⟩ = some (.int .u64 a0_1) := bq_ B125 1
    have hcz10_2 : wr.cell? ⟨g125, 2, none⟩ = some (.bool a0_2) := bq_ B125 2
    have hfz10_0 := blk_frozen B125.out 0
    have hfz10_1 := blk_frozen B125.out 1
    have hfz10_2 := blk_frozen B125.out 2
    have hnb11 := NB126_127.out
    have hnc11 := NB127_126.out
    have hcz12_0 : wr.cell? ⟨g126, 0, none⟩ = some (.int .u64 x127000_1) := bq_ B126 0
    have hcz12_1 : wr.cell? ⟨g126, 1, none⟩ = some (.int .u64 x127001_1) := bq_ B126 1
    have hcz12_2 : wr.cell? ⟨g126, 2, none⟩ = some (.int .u64 x127002_1) := bq_ B126 2
    have hcz12_3 : wr.cell? ⟨g126, 3, none⟩ = some (.int .u64 x127003_1) := bq_ B126 3
    have hfz12_0 := blk_frozen B126.out 0
    have hfz12_1 := blk_frozen B126.out 1
    have hfz12_2 := blk_frozen B126.out 2
    have hfz12_3 := blk_frozen B126.out 3
    go_wp2_with (first | ((with_reducible refine gate_callee (f := 67) rfl ?_); refine goesL_ (some 12) rfl rfl Tryd.func67 (by kernel_rfl) rfl #[.agg #[.int .u64 a0_0, .int .u64 a0_1, .bool a0_2], .int .u64 x5_1, .agg #[.int .u64 x127000_1, .int .u64 x127001_1, .int .u64 x127002_1, .int .u64 x127003_1]] rfl (by (try simp only [List.map_toArray, List.map_cons, List.map_nil]); first | done | rfl | (go_simp; done)) ?_; (with_reducible refine (sponge_mixer_round.calls k1 a0_0 a0_1 a0_2 x5_1 x127000_1 x127001_1 x127002_1 x127003_1 t128 t129 t130 t131 t132 _ A7.out).mono ?_); rintro e w13 ⟨rfl, hb⟩; refine ⟨_, rfl, ?_⟩; have n0_ := Aside0.mk (blk_below (g := g125) (o := .cells #[.int .u64 a0_0, .int .u64 a0_1, .bool a0_2] 78 (0, 0)) (by exact B125.out) hb); have n1_ := Aside0.mk (blk_below (g := g126) (o := .cells #[.int .u64 x127000_1, .int .u64 x127001_1, .int .u64 x127002_1, .int .u64 x127003_1] 80 (0, 0)) (by exact B126.out) hb); have n2_ := Aside0.mk (blk_below (g := g127) (o := .cells #[.int .u64 0, .int .u64 0, .int .u64 0, .int .u64 0] 80 (0, 0)) (by exact B127.out) hb); have n3_ := Aside0.mk (below_step (by repeat (first | (with_reducible first | exact HB.out | apply below_alloc | apply pw_below_drewN | apply below_drew1 | refine below_set ?_ GE125.out | refine below_set ?_ GE126.out | refine below_set ?_ GE127.out) | exact HB.out)) hb); clear B125; clear B126; clear B127; clear HB; have B125 := n0_; have B126 := n1_; have B127 := n2_; have HB := n3_; clear n0_ n1_ n2_ n3_; (try clear hb); (try clear hb2); (try clear hk); (try clear hi); have hcz14_0 : w13.cell? ⟨g126, 0, none⟩ = some (.int .u64 x127000_1) := bq_ B126 0; have hcz14_1 : w13.cell? ⟨g126, 1, none⟩ = some (.int .u64 x127001_1) := bq_ B126 1; have hcz14_2 : w13.cell? ⟨g126, 2, none⟩ = some (.int .u64 x127002_1) := bq_ B126 2; have hcz14_3 : w13.cell? ⟨g126, 3, none⟩ = some (.int .u64 x127003_1) := bq_ B126 3; have hfz14_0 := blk_frozen B126.out 0; have hfz14_1 := blk_frozen B126.out 1; have hfz14_2 := blk_frozen B126.out 2; have hfz14_3 := blk_frozen B126.out 3))
    go_roundg k1
    case measure => have := HK1.out; omega
    case rel => exact ⟨(t128), (wrap64 (x6_1 + 1)), (t129), (t130), (t131), (t132), (by first | rfl | (simp; done) | (simp [*]; done) | (simp; rfl) | (simp; decide +kernel)), (by first | rfl | (simp; done) | (simp [*]; done) | (simp; rfl) | (simp; decide +kernel)), H', ⟨by have := HK1.out; omega⟩, ⟨by refine blk_far ?_ NB125_126.out _; refine blk_far ?_ NB125_126.out _; refine blk_far ?_ NB125_126.out _; refine blk_far ?_ NB125_126.out _; exact B125.out⟩, ⟨by refine blk_put (cs := #[.int .u64 t129, .int .u64 t130, .int .u64 t131, .int .u64 x127003_1]) ?_ 3 _ rfl; refine blk_put (cs := #[.int .u64 t129, .int .u64 t130, .int .u64 x127002_1, .int .u64 x127003_1]) ?_ 2 _ rfl; refine blk_put (cs := #[.int .u64 t129, .int .u64 x127001_1, .int .u64 x127002_1, .int .u64 x127003_1]) ?_ 1 _ rfl; refine blk_put (cs := #[.int .u64 x127000_1, .int .u64 x127001_1, .int .u64 x127002_1, .int .u64 x127003_1]) ?_ 0 _ rfl; exact B126.out⟩, ⟨by refine blk_far ?_ NB127_126.out _; refine blk_far ?_ NB127_126.out _; refine blk_far ?_ NB127_126.out _; refine blk_far ?_ NB127_126.out _; exact B127.out⟩, ⟨by repeat (first | (with_reducible first | exact HB.out | apply below_alloc | apply pw_below_drewN | apply below_drew1 | refine below_set ?_ GE125.out | refine below_set ?_ GE126.out | refine below_set ?_ GE127.out) | exact HB.out)⟩⟩
   ·rw [if_neg c6] at H
    have c6b0 : decide (x6_1 < 8) = false := decide_eq_false c6
    clear c6
    simp only [Option.some.injEq, Prod.mk.injEq] at H
    obtain ⟨rfl, rfl, rfl, rfl⟩ := H
    have hnb15 := NB126_125.out
    have hnc15 := NB125_126.out
    have hnb16 := NB126_127.out
    have hnc16 := NB127_126.out
    have hcz17_0 : wr.cell? ⟨g126, 0, none⟩ = some (.int .u64 x127000_1) := bq_ B126 0
    have hcz17_1 : wr.cell? ⟨g126, 1, none⟩ = some (.int .u64 x127001_1) := bq_ B126 1
    have hcz17_2 : wr.cell? ⟨g126, 2, none⟩ = some (.int .u64 x127002_1) := bq_ B126 2
    have hcz17_3 : wr.cell? ⟨g126, 3, none⟩ = some (.int .u64 x127003_1) := bq_ B126 3
    have hfz17_0 := blk_frozen B126.out 0
    have hfz17_1 := blk_frozen B126.out 1
    have hfz17_2 := blk_frozen B126.out 2
    have hfz17_3 := blk_frozen B126.out 3
    have hnb18 := NB127_125.out
    have hnc18 := NB125_127.out
    have hcz19_0 : wr.cell? ⟨g127, 0, none⟩ = some (.int .u64 0) := bq_ B127 0
    have hcz19_1 : wr.cell? ⟨g127, 1, none⟩ = some (.int .u64 0) := bq_ B127 1
    have hcz19_2 : wr.cell? ⟨g127, 2, none⟩ = some (.int .u64 0) := bq_ B127 2
    have hcz19_3 : wr.cell? ⟨g127, 3, none⟩ = some (.int .u64 0) := bq_ B127 3
    have hfz19_0 := blk_frozen B127.out 0
    have hfz19_1 := blk_frozen B127.out 1
    have hfz19_2 := blk_frozen B127.out 2
    have hfz19_3 := blk_frozen B127.out 3
    go_wp2
    refine bodyPost_ret (results_cell_row rfl _ _ g127 80 #[.int .u64 x127000_1, .int .u64 x127001_1, .int .u64 x127002_1, .int .u64 x127003_1] (0, 0) _ rfl (by refine blk_put (cs := #[.int .u64 x127000_1, .int .u64 x127001_1, .int .u64 x127002_1, .int .u64 0]) ?_ 3 _ rfl; refine blk_put (cs := #[.int .u64 x127000_1, .int .u64 x127001_1, .int .u64 0, .int .u64 0]) ?_ 2 _ rfl; refine blk_put (cs := #[.int .u64 x127000_1, .int .u64 0, .int .u64 0, .int .u64 0]) ?_ 1 _ rfl; refine blk_put (cs := #[.int .u64 0, .int .u64 0, .int .u64 0, .int .u64 0]) ?_ 0 _ rfl; exact B127.out) Tryd.underlying80 rfl (by kernel_rfl)) rfl ?_
    exact ⟨by first | rfl | (simp [errW_none, errW_some] <;> rfl) | (simp [*, errW_none, errW_some] <;> rfl), by repeat (first | (with_reducible first | exact HB.out | apply below_alloc | apply pw_below_drewN | apply below_drew1 | refine below_set ?_ GE125.out | refine below_set ?_ GE126.out | refine below_set ?_ GE127.out) | exact HB.out)⟩

end Go.Proofs.YtpnpmeogffodgaaDoor.Q
end
section
namespace Go.Proofs.YtpnpmeogffodgaaDoor.Q
open Go.RowKit Go.Proofs.YtpnpmeogffodgaaDoorW.PrintWords Go.Proofs.YtpnpmeogffodgaaDoorW.PrintLast Go.Proofs.YtpnpmeogffodgaaDoorW.PrintMore
attribute [local go_sem] max2_int min2_int max_two min_two max_three min_three max_four min_four run_store_fnV run_store_fnc run_store_nfn   -- for this text's walks alone
set_option linter.unusedVariables false
set_option linter.unusedSimpArgs false

abbrev z36_0_ := zb 18 0
abbrev z36_1_ := zb 18 1
abbrev z36_2_ := zb 18 5
abbrev z36_3_ := zb 18 37
abbrev z36_4_ := zb 18 293
abbrev z36_5_ := zb 18 1317
abbrev z36_6_ := zb 18 9509
abbrev z36_7_ := zb 18 9511
abbrev z36_8_ := zb 18 9519
abbrev z36_9_ := zb 18 9535
abbrev z36_10_ := zb 18 9599
abbrev z36_11_ := zb 18 9727
abbrev z36_12_ := zb 18 10239
abbrev z36_13_ := zb 18 12287
abbrev z36_14_ := zb 18 16383
abbrev z36_15_ := zb 18 32767
abbrev z36_16_ := zb 18 65535
abbrev z36_17_ := zb 18 131071
abbrev z36_18_ := zb 18 262143
/-! ### sponge_Node: function 36 -/
def sponge_Node.f (k : Nat) (a0 : Int) (ap : Int) (aq : Int) (ar : Int) (au : Int) : Option (Int × Int) := (field_Valid.f a0).bind fun bs => (if bs = true then ((sponge_in.f a0).bind fun ai => ((sponge_mixer_reduced.f k ai.1 ai.2.1 ai.2.2 ap aq ar au).bind fun ao => ((sponge_mixer_perm.f k ai.1 ai.2.1 ai.2.2 ao.1 ao.2.1 ao.2.2.1 ao.2.2.2).bind fun aJ => (if ai.1 = 0 then (none) else (some (Int.tmod (IntKind.u64.wrap (aJ.1 + ao.1)) ai.1, Int.tmod (IntKind.u64.wrap (aJ.2.1 + ao.2.1)) ai.1)))))) else (some (0, 0)))
theorem sponge_Node.mono : ∀ a0 a1 a2 a3 a4 k, LeO (sponge_Node.f k a0 a1 a2 a3 a4) (sponge_Node.f (k + 1) a0 a1 a2 a3 a4) := by
  intro a0 a1 a2 a3 a4 k
  unfold sponge_Node.f
  repeat' first
      | (with_reducible exact sponge_mixer_perm.mono _ _ _ _ _ _ _ _)
      | (with_reducible exact sponge_mixer_reduced.mono _ _ _ _ _ _ _ _)
      | (with_reducible exact LeO.refl _)
      | (with_reducible exact LeO.none _)
      | (with_reducible refine LeO.ite ?_ ?_)
      | (with_reducible refine LeO.bind ?_ (fun _ => ?_))
      | exact sponge_mixer_perm.mono _ _ _ _ _ _ _ _
      | exact sponge_mixer_reduced.mono _ _ _ _ _ _ _ _
      | exact LeO.none _
      | refine LeO.ite ?_ ?_
      | refine LeO.bind ?_ (fun _ => ?_)
def sponge_Node.T6 : Bool × List (List Nat × List Nat) := (true, [([], []), ([0], [0]), ([], []), ([2], [2]), ([1, 3], [1, 3]), ([], []), ([5], [5]), ([4, 6], [4, 6]), ([], []), ([8], [8]), ([], []), ([10], [10]), ([9, 11], [9, 11]), ([], []), ([13], [13]), ([12, 14], [12, 14]), ([7, 15], [7, 15]), ([16, 0, 1, 2, 3, 4, 5, 6, 7, 8, 9, 10, 11, 12, 13, 14, 15, 16], [16])])
def sponge_Node.B6 : List Nat := [0, 1, 0, 4, 15, 0, 32, 127, 0, 256, 0, 1024, 3840, 0, 8192, 32512, 65535, 131071]
theorem sponge_Node.tab6 : rtab .any (opsOf Tryd.f36 6) = sponge_Node.T6 := by kernel_rfl
theorem sponge_Node.bits6 : waitsOk sponge_Node.T6.2 sponge_Node.B6 = true := by kernel_rfl
set_option maxHeartbeats 8000000 in
set_option maxRecDepth 100000 in
theorem sponge_Node.calls (k : Nat) (a0 : Int) (ap : Int) (aq : Int) (ar : Int) (au : Int) (r1 : Int) (r2 : Int) (w : World) (hrG : GL w) (h : sponge_Node.f k a0 ap aq ar au = some (r1, r2)) :
  Calls Tryd.prog 36 #[.int .i64 a0, .agg #[.int .u64 ap, .int .u64 aq], .agg #[.int .u64 ar, .int .u64 au]] w fun e w' => e = .returned (.agg #[.int .u64 r1, .int .u64 r2]) ∧ Below w.heap.size w w' := by
 have hu36 := Tryd.underlying36
 have hu78 := Tryd.underlying78
 have hu80 := Tryd.underlying80
 have HRG := aj hrG
 clear hrG
 have HB := aj (Below.refl w.heap.size w)
 have H : ((field_Valid.f a0).bind fun bs => (if bs = true then ((sponge_in.f a0).bind fun ai => ((sponge_mixer_reduced.f k ai.1 ai.2.1 ai.2.2 ap aq ar au).bind fun ao => ((sponge_mixer_perm.f k ai.1 ai.2.1 ai.2.2 ao.1 ao.2.1 ao.2.2.1 ao.2.2.2).bind fun aJ => (if ai.1 = 0 then (none) else (some (Int.tmod (IntKind.u64.wrap (aJ.1 + ao.1)) ai.1, Int.tmod (IntKind.u64.wrap (aJ.2.1 + ao.2.1)) ai.1)))))) else (some (0, 0)))) = some (r1, r2) := h
 clear h
 replace H := Option.bind_eq_some_iff.mp H
 obtain ⟨bs, bO, H⟩ := H
 have A4 := aj bO
 clear bO
 by_cases c5 : bs = true
 ·subst c5
  have H1 : ((sponge_in.f a0).bind fun ai => ((sponge_mixer_reduced.f k ai.1 ai.2.1 ai.2.2 ap aq ar au).bind fun ao => ((sponge_mixer_perm.f k ai.1 ai.2.1 ai.2.2 ao.1 ao.2.1 ao.2.2.1 ao.2.2.2).bind fun aJ => (if ai.1 = 0 then (none) else (some (Int.tmod (IntKind.u64.wrap (aJ.1 + ao.1)) ai.1, Int.tmod (IntKind.u64.wrap (aJ.2.1 + ao.2.1)) ai.1)))))) = some (r1, r2) := by rw [if_pos rfl] at H; exact H
  clear H
  have H := H1
  clear H1
  replace H := Option.bind_eq_some_iff.mp H
  obtain ⟨⟨ak, aE, aF⟩, bP, H⟩ := H
  replace H : ((sponge_mixer_reduced.f k ak aE aF ap aq ar au).bind fun ao => ((sponge_mixer_perm.f k ak aE aF ao.1 ao.2.1 ao.2.2.1 ao.2.2.2).bind fun aJ => (if ak = 0 then (none) else (some (Int.tmod (IntKind.u64.wrap (aJ.1 + ao.1)) ak, Int.tmod (IntKind.u64.wrap (aJ.2.1 + ao.2.1)) ak))))) = some (r1, r2) := H
  have A6 := aj bP
  clear bP
  replace H := Option.bind_eq_some_iff.mp H
  obtain ⟨⟨aL, aR, a9, bg⟩, bQ, H⟩ := H
  replace H : ((sponge_mixer_perm.f k ak aE aF aL aR a9 bg).bind fun aJ => (if ak = 0 then (none) else (some (Int.tmod (IntKind.u64.wrap (aJ.1 + aL)) ak, Int.tmod (IntKind.u64.wrap (aJ.2.1 + aR)) ak)))) = some (r1, r2) := H
  have A7 := aj bQ
  clear bQ
  replace H := Option.bind_eq_some_iff.mp H
  obtain ⟨⟨aM, aS, a8, ba⟩, bR, H⟩ := H
  replace H : (if ak = 0 then (none) else (some (Int.tmod (IntKind.u64.wrap (aM + aL)) ak, Int.tmod (IntKind.u64.wrap (aS + aR)) ak))) = some (r1, r2) := H
  have A8 := aj bR
  clear bR
  by_cases c9 : ak = 0
  ·rw [if_pos c9] at H
   exact absurd H (by simp)
  ·rw [if_neg c9] at H
   have c9b0 : (ak == 0) = false := beq_eq_false_iff_ne.mpr c9
   have c9b1 : (ak != 0) = true := bne_iff_ne.mpr c9
   simp only [Option.some.injEq, Prod.mk.injEq] at H
   obtain ⟨rfl, rfl⟩ := H
   go_enter Tryd.func36, Tryd.ntmps36
   try go_wp2_with (first | ((with_reducible refine gate_dst (N := 4) rfl ?_); refine box_event ?hg (N := 4) ?hd (cs := #[.int .u64 ap, .int .u64 aq]) (t := 36) ?hr ?_; (case hd => rfl); (case hg => rfl); (case hr => first | (go_simp; done) | (go_simp; rfl)); intro af hg dr hbox hb; have al := aj (below_step (by repeat (first | (with_reducible first | exact HB.out | apply below_alloc | apply pw_below_drewN | apply below_drew1) | exact HB.out)) hb); have am := aj (hbox); have av := aj ((by rw [hg]; exact (below_size (by repeat (first | (with_reducible first | exact HB.out | apply below_alloc | apply pw_below_drewN | apply below_drew1) | exact HB.out))) : w.heap.size ≤ af)); clear HB; have HB := al; have aa := am; have aA := av; clear al am av; clear hb hbox hg) | ((with_reducible refine gate_dst (N := 5) rfl ?_); refine box_event ?hg (N := 5) ?hd (cs := #[.int .u64 ar, .int .u64 au]) (t := 36) ?hr ?_; (case hd => rfl); (case hg => rfl); (case hr => first | (go_simp; done) | (go_simp; rfl)); intro ag hg dt hbox hb; have al := aj (blk_below (g := af) (o := .cells #[.int .u64 ap, .int .u64 aq] 36 (0, 0)) aa.out hb); have am := aj (below_step (by repeat (first | (with_reducible first | exact HB.out | apply below_alloc | apply pw_below_drewN | apply below_drew1 | refine below_set ?_ aA.out) | exact HB.out)) hb); have aw := aj (hbox); have aG := aj ((by rw [hg]; exact (below_size (by repeat (first | (with_reducible first | exact HB.out | apply below_alloc | apply pw_below_drewN | apply below_drew1 | refine below_set ?_ aA.out) | exact HB.out))) : w.heap.size ≤ ag)); have aH := aj ((by rw [hg]; exact Nat.ne_of_lt (blk_lt (g := af) (o := .cells #[.int .u64 ap, .int .u64 aq] 36 (0, 0)) aa.out) : af ≠ ag)); have aQ := aj ((by rw [hg]; exact Nat.ne_of_gt (blk_lt (g := af) (o := .cells #[.int .u64 ap, .int .u64 aq] 36 (0, 0)) aa.out) : ag ≠ af)); clear aa; clear HB; have aa := al; have HB := am; have ad := aw; have aD := aG; have bq := aH; have br := aQ; clear al am aw aG aH aQ; clear hb hbox hg) | ((with_reducible refine gate_dst (N := 6) rfl ?_); refine box_event ?hg (N := 6) ?hd (cs := #[.int .u64 0, .int .u64 0]) (t := 36) ?hr ?_; (case hd => rfl); (case hg => rfl); (case hr => first | (go_simp; done) | (go_simp; rfl)); intro ab hg bu hbox hb; have al := aj (blk_below (g := af) (o := .cells #[.int .u64 ap, .int .u64 aq] 36 (0, 0)) aa.out hb); have am := aj (blk_below (g := ag) (o := .cells #[.int .u64 ar, .int .u64 au] 36 (0, 0)) ad.out hb); have aw := aj (below_step (by repeat (first | (with_reducible first | exact HB.out | apply below_alloc | apply pw_below_drewN | apply below_drew1 | refine below_set ?_ aA.out | refine below_set ?_ aD.out) | exact HB.out)) hb); have av := aj (hbox); have aH := aj ((by rw [hg]; exact (below_size (by repeat (first | (with_reducible first | exact HB.out | apply below_alloc | apply pw_below_drewN | apply below_drew1 | refine below_set ?_ aA.out | refine below_set ?_ aD.out) | exact HB.out))) : w.heap.size ≤ ab)); have aQ := aj ((by rw [hg]; exact Nat.ne_of_lt (blk_lt (g := af) (o := .cells #[.int .u64 ap, .int .u64 aq] 36 (0, 0)) aa.out) : af ≠ ab)); have bi := aj ((by rw [hg]; exact Nat.ne_of_gt (blk_lt (g := af) (o := .cells #[.int .u64 ap, .int .u64 aq] 36 (0, 0)) aa.out) : ab ≠ af)); have bb := aj ((by rw [hg]; exact Nat.ne_of_lt (blk_lt (g := ag) (o := .cells #[.int .u64 ar, .int .u64 au] 36 (0, 0)) ad.out) : ag ≠ ab)); have bc := aj ((by rw [hg]; exact Nat.ne_of_gt (blk_lt (g := ag) (o := .cells #[.int .u64 ar, .int .u64 au] 36 (0, 0)) ad.out) : ab ≠ ag)); clear aa; clear ad; clear HB; have aa := al; have ad := am; have HB := aw; have ae := av; have aK := aH; have bj := aQ; have aU := bi; have bk := bb; have aV := bc; clear al am aw av aH aQ bi bb bc; clear hb hbox hg) | ((with_reducible refine gate_callee (f := 38) rfl ?_); refine goesL_ (some 11) rfl rfl Tryd.func38 (by kernel_rfl) rfl #[.int .i64 a0] rfl (by (try simp only [List.map_toArray, List.map_cons, List.map_nil]); first | done | rfl | (go_simp; done)) ?_; (with_reducible refine (field_Valid.calls a0 true _ A4.out).mono ?_); rintro e w' ⟨rfl, ⟨nd, rfl⟩⟩; refine ⟨_, rfl, ?_⟩; (try (rw [drewN_self bu]; generalize q_ : World.drewN bu _ = bu; have al : Aside0 (bu.heap[af]? = some (.cells #[.int .u64 ap, .int .u64 aq] 36 (0, 0))) := ⟨by rw [← q_]; exact aa.out⟩; have am : Aside0 (bu.heap[ag]? = some (.cells #[.int .u64 ar, .int .u64 au] 36 (0, 0))) := ⟨by rw [← q_]; exact ad.out⟩; have aw : Aside0 (bu.heap[ab]? = some (.cells #[.int .u64 0, .int .u64 0] 36 (0, 0))) := ⟨by rw [← q_]; exact ae.out⟩; have av : Aside0 (Below w.heap.size w bu) := ⟨by rw [← q_]; exact (by repeat (first | (with_reducible first | exact HB.out | apply below_alloc | apply pw_below_drewN | apply below_drew1 | refine below_set ?_ aA.out | refine below_set ?_ aD.out | refine below_set ?_ aK.out) | exact HB.out))⟩; clear aa ad ae HB q_; have aa := al; have ad := am; have ae := aw; have HB := av; clear al am aw av))) | ((with_reducible refine gate_callee (f := 54) rfl ?_); refine goesL_ (some 15) rfl rfl Tryd.func54 (by kernel_rfl) rfl #[.int .i64 a0] rfl (by (try simp only [List.map_toArray, List.map_cons, List.map_nil]); first | done | rfl | (go_simp; done)) ?_; (with_reducible refine (sponge_in.calls a0 ak aE aF _ ?side1 A6.out).mono ?_); (case side1 => repeat (first | exact (GL.below HRG.out HB.out) | (with_reducible refine GL.alloc ?_ _) | (with_reducible refine GL.drewN ?_ _) | (with_reducible refine GL.drew ?_))); rintro e du ⟨rfl, hb⟩; refine ⟨_, rfl, ?_⟩; have al := aj (blk_below (g := af) (o := .cells #[.int .u64 ap, .int .u64 aq] 36 (0, 0)) aa.out hb); have am := aj (blk_below (g := ag) (o := .cells #[.int .u64 ar, .int .u64 au] 36 (0, 0)) ad.out hb); have aw := aj (blk_below (g := ab) (o := .cells #[.int .u64 0, .int .u64 0] 36 (0, 0)) ae.out hb); have av := aj (below_step (by repeat (first | (with_reducible first | exact HB.out | apply below_alloc | apply pw_below_drewN | apply below_drew1 | refine below_set ?_ aA.out | refine below_set ?_ aD.out | refine below_set ?_ aK.out) | exact HB.out)) hb); clear aa; clear ad; clear ae; clear HB; have aa := al; have ad := am; have ae := aw; have HB := av; clear al am aw av; (try clear hb); (try clear hb2); (try clear hk); (try clear hi)) | ((with_reducible refine gate_dst (N := 7) rfl ?_); refine box_event ?hg (N := 7) ?hd (cs := #[.int .u64 0, .int .u64 0, .bool false]) (t := 78) ?hr ?_; (case hd => rfl); (case hg => rfl); (case hr => first | (go_simp; done) | (go_simp; rfl)); intro ax hg bv hbox hb; have al := aj (blk_below (g := af) (o := .cells #[.int .u64 ap, .int .u64 aq] 36 (0, 0)) aa.out hb); have am := aj (blk_below (g := ag) (o := .cells #[.int .u64 ar, .int .u64 au] 36 (0, 0)) ad.out hb); have aw := aj (blk_below (g := ab) (o := .cells #[.int .u64 0, .int .u64 0] 36 (0, 0)) ae.out hb); have av := aj (below_step (by repeat (first | (with_reducible first | exact HB.out | apply below_alloc | apply pw_below_drewN | apply below_drew1 | refine below_set ?_ aA.out | refine below_set ?_ aD.out | refine below_set ?_ aK.out) | exact HB.out)) hb); have aG := aj (hbox); have aQ := aj ((by rw [hg]; exact (below_size (by repeat (first | (with_reducible first | exact HB.out | apply below_alloc | apply pw_below_drewN | apply below_drew1 | refine below_set ?_ aA.out | refine below_set ?_ aD.out | refine below_set ?_ aK.out) | exact HB.out))) : w.heap.size ≤ ax)); have bi := aj ((by rw [hg]; exact Nat.ne_of_lt (blk_lt (g := af) (o := .cells #[.int .u64 ap, .int .u64 aq] 36 (0, 0)) aa.out) : af ≠ ax)); have bb := aj ((by rw [hg]; exact Nat.ne_of_gt (blk_lt (g := af) (o := .cells #[.int .u64 ap, .int .u64 aq] 36 (0, 0)) aa.out) : ax ≠ af)); have bc := aj ((by rw [hg]; exact Nat.ne_of_lt (blk_lt (g := ag) (o := .cells #[.int .u64 ar, .int .u64 au] 36 (0, 0)) ad.out) : ag ≠ ax)); have bl := aj ((by rw [hg]; exact Nat.ne_of_gt (blk_lt (g := ag) (o := .cells #[.int .u64 ar, .int .u64 au] 36 (0, 0)) ad.out) : ax ≠ ag)); have bm := aj ((by rw [hg]; exact Nat.ne_of_lt (blk_lt (g := ab) (o := .cells #[.int .u64 0, .int .u64 0] 36 (0, 0)) ae.out) : ab ≠ ax)); have bn := aj ((by rw [hg]; exact Nat.ne_of_gt (blk_lt (g := ab) (o := .cells #[.int .u64 0, .int .u64 0] 36 (0, 0)) ae.out) : ax ≠ ab)); clear aa; clear ad; clear ae; clear HB; have aa := al; have ad := am; have ae := aw; have HB := av; have ah := aG; have bd := aQ; have be := bi; have bB := bb; have bf := bc; have bC := bl; have aT := bm; have aN := bn; clear al am aw av aG aQ bi bb bc bl bm bn; clear hb hbox hg; have cK := bB.out; have cL := be.out; have cM := bC.out; have cN := bf.out; have cO := aN.out; have cP := aT.out; have bT : bv.cell? ⟨ax, 0, none⟩ = some (.int .u64 0) := bq_ ah 0; have bU : bv.cell? ⟨ax, 1, none⟩ = some (.int .u64 0) := bq_ ah 1; have bV : bv.cell? ⟨ax, 2, none⟩ = some (.bool false) := bq_ ah 2; have bW := blk_frozen ah.out 0; have bX := blk_frozen ah.out 1; have bY := blk_frozen ah.out 2; have cQ := bq.out; have cR := br.out; have cS := bj.out; have cT := aU.out; have bZ : bv.cell? ⟨af, 0, none⟩ = some (.int .u64 ap) := bq_ aa 0; have b0 : bv.cell? ⟨af, 1, none⟩ = some (.int .u64 aq) := bq_ aa 1; have b1 := blk_frozen aa.out 0; have b2 := blk_frozen aa.out 1; have cU := bk.out; have cV := aV.out; have b3 : bv.cell? ⟨ag, 0, none⟩ = some (.int .u64 ar) := bq_ ad 0; have b4 : bv.cell? ⟨ag, 1, none⟩ = some (.int .u64 au) := bq_ ad 1; have b5 := blk_frozen ad.out 0; have b6 := blk_frozen ad.out 1) | ((with_reducible refine gate_callee (f := 55) rfl ?_); refine goesL_ (some 26) rfl rfl Tryd.func55 (by kernel_rfl) rfl #[.agg #[.int .u64 ak, .int .u64 aE, .bool aF], .agg #[.int .u64 ap, .int .u64 aq, .int .u64 ar, .int .u64 au]] rfl (by (try simp only [List.map_toArray, List.map_cons, List.map_nil]); first | done | rfl | (go_simp; done)) ?_; (with_reducible refine (sponge_mixer_reduced.calls k ak aE aF ap aq ar au aL aR a9 bg _ A7.out).mono ?_); rintro e dv ⟨rfl, hb⟩; refine ⟨_, rfl, ?_⟩; have al := aj (blk_below (g := af) (o := .cells #[.int .u64 ap, .int .u64 aq] 36 (0, 0)) (by refine blk_far ?_ be.out _; refine blk_far ?_ be.out _; refine blk_far ?_ be.out _; exact aa.out) hb); have am := aj (blk_below (g := ag) (o := .cells #[.int .u64 ar, .int .u64 au] 36 (0, 0)) (by refine blk_far ?_ bf.out _; refine blk_far ?_ bf.out _; refine blk_far ?_ bf.out _; exact ad.out) hb); have aw := aj (blk_below (g := ab) (o := .cells #[.int .u64 0, .int .u64 0] 36 (0, 0)) (by refine blk_far ?_ aT.out _; refine blk_far ?_ aT.out _; refine blk_far ?_ aT.out _; exact ae.out) hb); have av := aj (blk_below (g := ax) (o := .cells #[.int .u64 ak, .int .u64 aE, .bool aF] 78 (0, 0)) (by refine blk_put (cs := #[.int .u64 ak, .int .u64 aE, .bool false]) ?_ 2 _ rfl; refine blk_put (cs := #[.int .u64 ak, .int .u64 0, .bool false]) ?_ 1 _ rfl; refine blk_put (cs := #[.int .u64 0, .int .u64 0, .bool false]) ?_ 0 _ rfl; exact ah.out) hb); have aG := aj (below_step (by repeat (first | (with_reducible first | exact HB.out | apply below_alloc | apply pw_below_drewN | apply below_drew1 | refine below_set ?_ aA.out | refine below_set ?_ aD.out | refine below_set ?_ aK.out | refine below_set ?_ bd.out) | exact HB.out)) hb); clear aa; clear ad; clear ae; clear ah; clear HB; have aa := al; have ad := am; have ae := aw; have ah := av; have HB := aG; clear al am aw av aG; (try clear hb); (try clear hb2); (try clear hk); (try clear hi)) | ((with_reducible refine gate_dst (N := 8) rfl ?_); refine box_event ?hg (N := 8) ?hd (cs := #[.int .u64 0, .int .u64 0, .int .u64 0, .int .u64 0]) (t := 80) ?hr ?_; (case hd => rfl); (case hg => rfl); (case hr => first | (go_simp; done) | (go_simp; rfl)); intro az hg bw hbox hb; have al := aj (blk_below (g := af) (o := .cells #[.int .u64 ap, .int .u64 aq] 36 (0, 0)) aa.out hb); have am := aj (blk_below (g := ag) (o := .cells #[.int .u64 ar, .int .u64 au] 36 (0, 0)) ad.out hb); have aw := aj (blk_below (g := ab) (o := .cells #[.int .u64 0, .int .u64 0] 36 (0, 0)) ae.out hb); have av := aj (blk_below (g := ax) (o := .cells #[.int .u64 ak, .int .u64 aE, .bool aF] 78 (0, 0)) ah.out hb); have aG := aj (below_step (by repeat (first | (with_reducible first | exact HB.out | apply below_alloc | apply pw_below_drewN | apply below_drew1 | refine below_set ?_ aA.out | refine below_set ?_ aD.out | refine below_set ?_ aK.out | refine below_set ?_ bd.out) | exact HB.out)) hb); have aH := aj (hbox); have bi := aj ((by rw [hg]; exact (below_size (by repeat (first | (with_reducible first | exact HB.out | apply below_alloc | apply pw_below_drewN | apply below_drew1 | refine below_set ?_ aA.out | refine below_set ?_ aD.out | refine below_set ?_ aK.out | refine below_set ?_ bd.out) | exact HB.out))) : w.heap.size ≤ az)); have bb := aj ((by rw [hg]; exact Nat.ne_of_lt (blk_lt (g := af) (o := .cells #[.int .u64 ap, .int .u64 aq] 36 (0, 0)) aa.out) : af ≠ az)); have bc := aj ((by rw [hg]; exact Nat.ne_of_gt (blk_lt (g := af) (o := .cells #[.int .u64 ap, .int .u64 aq] 36 (0, 0)) aa.out) : az ≠ af)); have bl := aj ((by rw [hg]; exact Nat.ne_of_lt (blk_lt (g := ag) (o := .cells #[.int .u64 ar, .int .u64 au] 36 (0, 0)) ad.out) : ag ≠ az)); have bm := aj ((by rw [hg]; exact Nat.ne_of_gt (blk_lt (g := ag) (o := .cells #[.int .u64 ar, .int .u64 au] 36 (0, 0)) ad.out) : az ≠ ag)); have bn := aj ((by rw [hg]; exact Nat.ne_of_lt (blk_lt (g := ab) (o := .cells #[.int .u64 0, .int .u64 0] 36 (0, 0)) ae.out) : ab ≠ az)); have bx := aj ((by rw [hg]; exact Nat.ne_of_gt (blk_lt (g := ab) (o := .cells #[.int .u64 0, .int .u64 0] 36 (0, 0)) ae.out) : az ≠ ab)); have bz := aj ((by rw [hg]; exact Nat.ne_of_lt (blk_lt (g := ax) (o := .cells #[.int .u64 ak, .int .u64 aE, .bool aF] 78 (0, 0)) ah.out) : ax ≠ az)); have bA := aj ((by rw [hg]; exact Nat.ne_of_gt (blk_lt (g := ax) (o := .cells #[.int .u64 ak, .int .u64 aE, .bool aF] 78 (0, 0)) ah.out) : az ≠ ax)); clear aa; clear ad; clear ae; clear ah; clear HB; have aa := al; have ad := am; have ae := aw; have ah := av; have HB := aG; have ay := aH; have bo := bi; have aW := bb; have bD := bc; have aX := bl; have bE := bm; have aO := bn; have aB := bx; have aY := bz; have bF := bA; clear al am aw av aG aH bi bb bc bl bm bn bx bz bA; clear hb hbox hg; have cW := bD.out; have cX := aW.out; have cY := bE.out; have cZ := aX.out; have c0 := aB.out; have c1 := aO.out; have da := bF.out; have db := aY.out; have b7 : bw.cell? ⟨az, 0, none⟩ = some (.int .u64 0) := bq_ ay 0; have b8 : bw.cell? ⟨az, 1, none⟩ = some (.int .u64 0) := bq_ ay 1; have b9 : bw.cell? ⟨az, 2, none⟩ = some (.int .u64 0) := bq_ ay 2; have ca : bw.cell? ⟨az, 3, none⟩ = some (.int .u64 0) := bq_ ay 3; have cb := blk_frozen ay.out 0; have cc := blk_frozen ay.out 1; have cd := blk_frozen ay.out 2; have ce := blk_frozen ay.out 3; have cf : bw.cell? ⟨ax, 0, none⟩ = some (.int .u64 ak) := bq_ ah 0; have cg : bw.cell? ⟨ax, 1, none⟩ = some (.int .u64 aE) := bq_ ah 1; have ci : bw.cell? ⟨ax, 2, none⟩ = some (.bool aF) := bq_ ah 2; have cj := blk_frozen ah.out 0; have ck := blk_frozen ah.out 1; have cl := blk_frozen ah.out 2) | ((with_reducible refine gate_callee (f := 56) rfl ?_); refine goesL_ (some 29) rfl rfl Tryd.func56 (by kernel_rfl) rfl #[.agg #[.int .u64 ak, .int .u64 aE, .bool aF], .agg #[.int .u64 aL, .int .u64 aR, .int .u64 a9, .int .u64 bg]] rfl (by (try simp only [List.map_toArray, List.map_cons, List.map_nil]); first | done | rfl | (go_simp; done)) ?_; (with_reducible refine (sponge_mixer_perm.calls k ak aE aF aL aR a9 bg aM aS a8 ba _ A8.out).mono ?_); rintro e dw ⟨rfl, hb⟩; refine ⟨_, rfl, ?_⟩; have al := aj (blk_below (g := af) (o := .cells #[.int .u64 ap, .int .u64 aq] 36 (0, 0)) (by refine blk_far ?_ aW.out _; refine blk_far ?_ aW.out _; refine blk_far ?_ aW.out _; refine blk_far ?_ aW.out _; exact aa.out) hb); have am := aj (blk_below (g := ag) (o := .cells #[.int .u64 ar, .int .u64 au] 36 (0, 0)) (by refine blk_far ?_ aX.out _; refine blk_far ?_ aX.out _; refine blk_far ?_ aX.out _; refine blk_far ?_ aX.out _; exact ad.out) hb); have aw := aj (blk_below (g := ab) (o := .cells #[.int .u64 0, .int .u64 0] 36 (0, 0)) (by refine blk_far ?_ aO.out _; refine blk_far ?_ aO.out _; refine blk_far ?_ aO.out _; refine blk_far ?_ aO.out _; exact ae.out) hb); have av := aj (blk_below (g := ax) (o := .cells #[.int .u64 ak, .int .u64 aE, .bool aF] 78 (0, 0)) (by refine blk_far ?_ aY.out _; refine blk_far ?_ aY.out _; refine blk_far ?_ aY.out _; refine blk_far ?_ aY.out _; exact ah.out) hb); have aG := aj (blk_below (g := az) (o := .cells #[.int .u64 aL, .int .u64 aR, .int .u64 a9, .int .u64 bg] 80 (0, 0)) (by refine blk_put (cs := #[.int .u64 aL, .int .u64 aR, .int .u64 a9, .int .u64 0]) ?_ 3 _ rfl; refine blk_put (cs := #[.int .u64 aL, .int .u64 aR, .int .u64 0, .int .u64 0]) ?_ 2 _ rfl; refine blk_put (cs := #[.int .u64 aL, .int .u64 0, .int .u64 0, .int .u64 0]) ?_ 1 _ rfl; refine blk_put (cs := #[.int .u64 0, .int .u64 0, .int .u64 0, .int .u64 0]) ?_ 0 _ rfl; exact ay.out) hb); have aH := aj (below_step (by repeat (first | (with_reducible first | exact HB.out | apply below_alloc | apply pw_below_drewN | apply below_drew1 | refine below_set ?_ aA.out | refine below_set ?_ aD.out | refine below_set ?_ aK.out | refine below_set ?_ bd.out | refine below_set ?_ bo.out) | exact HB.out)) hb); clear aa; clear ad; clear ae; clear ah; clear ay; clear HB; have aa := al; have ad := am; have ae := aw; have ah := av; have ay := aG; have HB := aH; clear al am aw av aG aH; (try clear hb); (try clear hb2); (try clear hk); (try clear hi)) | ((with_reducible refine gate_dst (N := 9) rfl ?_); refine box_event ?hg (N := 9) ?hd (cs := #[.int .u64 0, .int .u64 0, .int .u64 0, .int .u64 0]) (t := 80) ?hr ?_; (case hd => rfl); (case hg => rfl); (case hr => first | (go_simp; done) | (go_simp; rfl)); intro ac hg bh hbox hb; have al := aj (blk_below (g := af) (o := .cells #[.int .u64 ap, .int .u64 aq] 36 (0, 0)) aa.out hb); have am := aj (blk_below (g := ag) (o := .cells #[.int .u64 ar, .int .u64 au] 36 (0, 0)) ad.out hb); have aw := aj (blk_below (g := ab) (o := .cells #[.int .u64 0, .int .u64 0] 36 (0, 0)) ae.out hb); have av := aj (blk_below (g := ax) (o := .cells #[.int .u64 ak, .int .u64 aE, .bool aF] 78 (0, 0)) ah.out hb); have aG := aj (blk_below (g := az) (o := .cells #[.int .u64 aL, .int .u64 aR, .int .u64 a9, .int .u64 bg] 80 (0, 0)) ay.out hb); have aH := aj (below_step (by repeat (first | (with_reducible first | exact HB.out | apply below_alloc | apply pw_below_drewN | apply below_drew1 | refine below_set ?_ aA.out | refine below_set ?_ aD.out | refine below_set ?_ aK.out | refine below_set ?_ bd.out | refine below_set ?_ bo.out) | exact HB.out)) hb); have aQ := aj (hbox); have bb := aj ((by rw [hg]; exact (below_size (by repeat (first | (with_reducible first | exact HB.out | apply below_alloc | apply pw_below_drewN | apply below_drew1 | refine below_set ?_ aA.out | refine below_set ?_ aD.out | refine below_set ?_ aK.out | refine below_set ?_ bd.out | refine below_set ?_ bo.out) | exact HB.out))) : w.heap.size ≤ ac)); have bc := aj ((by rw [hg]; exact Nat.ne_of_lt (blk_lt (g := af) (o := .cells #[.int .u64 ap, .int .u64 aq] 36 (0, 0)) aa.out) : af ≠ ac)); have bl := aj ((by rw [hg]; exact Nat.ne_of_gt (blk_lt (g := af) (o := .cells #[.int .u64 ap, .int .u64 aq] 36 (0, 0)) aa.out) : ac ≠ af)); have bm := aj ((by rw [hg]; exact Nat.ne_of_lt (blk_lt (g := ag) (o := .cells #[.int .u64 ar, .int .u64 au] 36 (0, 0)) ad.out) : ag ≠ ac)); have bn := aj ((by rw [hg]; exact Nat.ne_of_gt (blk_lt (g := ag) (o := .cells #[.int .u64 ar, .int .u64 au] 36 (0, 0)) ad.out) : ac ≠ ag)); have bx := aj ((by rw [hg]; exact Nat.ne_of_lt (blk_lt (g := ab) (o := .cells #[.int .u64 0, .int .u64 0] 36 (0, 0)) ae.out) : ab ≠ ac)); have bz := aj ((by rw [hg]; exact Nat.ne_of_gt (blk_lt (g := ab) (o := .cells #[.int .u64 0, .int .u64 0] 36 (0, 0)) ae.out) : ac ≠ ab)); have bA := aj ((by rw [hg]; exact Nat.ne_of_lt (blk_lt (g := ax) (o := .cells #[.int .u64 ak, .int .u64 aE, .bool aF] 78 (0, 0)) ah.out) : ax ≠ ac)); have bL := aj ((by rw [hg]; exact Nat.ne_of_gt (blk_lt (g := ax) (o := .cells #[.int .u64 ak, .int .u64 aE, .bool aF] 78 (0, 0)) ah.out) : ac ≠ ax)); have bM := aj ((by rw [hg]; exact Nat.ne_of_lt (blk_lt (g := az) (o := .cells #[.int .u64 aL, .int .u64 aR, .int .u64 a9, .int .u64 bg] 80 (0, 0)) ay.out) : az ≠ ac)); have bN := aj ((by rw [hg]; exact Nat.ne_of_gt (blk_lt (g := az) (o := .cells #[.int .u64 aL, .int .u64 aR, .int .u64 a9, .int .u64 bg] 80 (0, 0)) ay.out) : ac ≠ az)); clear aa; clear ad; clear ae; clear ah; clear ay; clear HB; have aa := al; have ad := am; have ae := aw; have ah := av; have ay := aG; have HB := aH; have aI := aQ; have bK := bb; have aZ := bc; have bG := bl; have a5 := bm; have bH := bn; have aP := bx; have aC := bz; have a6 := bA; have bI := bL; have a7 := bM; have bJ := bN; clear al am aw av aG aH aQ bb bc bl bm bn bx bz bA bL bM bN; clear hb hbox hg; have dc := bG.out; have dd := aZ.out; have de := bH.out; have df := a5.out; have dg := aC.out; have dh := aP.out; have di := bI.out; have dj := a6.out; have dk := bJ.out; have dl := a7.out; have cm : bh.cell? ⟨ac, 0, none⟩ = some (.int .u64 0) := bq_ aI 0; have cn : bh.cell? ⟨ac, 1, none⟩ = some (.int .u64 0) := bq_ aI 1; have co : bh.cell? ⟨ac, 2, none⟩ = some (.int .u64 0) := bq_ aI 2; have cp : bh.cell? ⟨ac, 3, none⟩ = some (.int .u64 0) := bq_ aI 3; have cq := blk_frozen aI.out 0; have cr := blk_frozen aI.out 1; have ct := blk_frozen aI.out 2; have cu := blk_frozen aI.out 3))
   have al : Aside0 (((((bh.setCell ⟨ac, 0, none⟩ (.int .u64 aM)).setCell ⟨ac, 1, none⟩ (.int .u64 aS)).setCell ⟨ac, 2, none⟩ (.int .u64 a8)).setCell ⟨ac, 3, none⟩ (.int .u64 ba)).heap[af]? = some (.cells #[.int .u64 ap, .int .u64 aq] 36 (0, 0))) := ⟨by refine blk_far ?_ aZ.out _; refine blk_far ?_ aZ.out _; refine blk_far ?_ aZ.out _; refine blk_far ?_ aZ.out _; exact aa.out⟩
   have am : Aside0 (((((bh.setCell ⟨ac, 0, none⟩ (.int .u64 aM)).setCell ⟨ac, 1, none⟩ (.int .u64 aS)).setCell ⟨ac, 2, none⟩ (.int .u64 a8)).setCell ⟨ac, 3, none⟩ (.int .u64 ba)).heap[ag]? = some (.cells #[.int .u64 ar, .int .u64 au] 36 (0, 0))) := ⟨by refine blk_far ?_ a5.out _; refine blk_far ?_ a5.out _; refine blk_far ?_ a5.out _; refine blk_far ?_ a5.out _; exact ad.out⟩
   have aw : Aside0 (((((bh.setCell ⟨ac, 0, none⟩ (.int .u64 aM)).setCell ⟨ac, 1, none⟩ (.int .u64 aS)).setCell ⟨ac, 2, none⟩ (.int .u64 a8)).setCell ⟨ac, 3, none⟩ (.int .u64 ba)).heap[ab]? = some (.cells #[.int .u64 0, .int .u64 0] 36 (0, 0))) := ⟨by refine blk_far ?_ aP.out _; refine blk_far ?_ aP.out _; refine blk_far ?_ aP.out _; refine blk_far ?_ aP.out _; exact ae.out⟩
   have av : Aside0 (((((bh.setCell ⟨ac, 0, none⟩ (.int .u64 aM)).setCell ⟨ac, 1, none⟩ (.int .u64 aS)).setCell ⟨ac, 2, none⟩ (.int .u64 a8)).setCell ⟨ac, 3, none⟩ (.int .u64 ba)).heap[ax]? = some (.cells #[.int .u64 ak, .int .u64 aE, .bool aF] 78 (0, 0))) := ⟨by refine blk_far ?_ a6.out _; refine blk_far ?_ a6.out _; refine blk_far ?_ a6.out _; refine blk_far ?_ a6.out _; exact ah.out⟩
   have aG : Aside0 (((((bh.setCell ⟨ac, 0, none⟩ (.int .u64 aM)).setCell ⟨ac, 1, none⟩ (.int .u64 aS)).setCell ⟨ac, 2, none⟩ (.int .u64 a8)).setCell ⟨ac, 3, none⟩ (.int .u64 ba)).heap[az]? = some (.cells #[.int .u64 aL, .int .u64 aR, .int .u64 a9, .int .u64 bg] 80 (0, 0))) := ⟨by refine blk_far ?_ a7.out _; refine blk_far ?_ a7.out _; refine blk_far ?_ a7.out _; refine blk_far ?_ a7.out _; exact ay.out⟩
   have aH : Aside0 (((((bh.setCell ⟨ac, 0, none⟩ (.int .u64 aM)).setCell ⟨ac, 1, none⟩ (.int .u64 aS)).setCell ⟨ac, 2, none⟩ (.int .u64 a8)).setCell ⟨ac, 3, none⟩ (.int .u64 ba)).heap[ac]? = some (.cells #[.int .u64 aM, .int .u64 aS, .int .u64 a8, .int .u64 ba] 80 (0, 0))) := ⟨by refine blk_put (cs := #[.int .u64 aM, .int .u64 aS, .int .u64 a8, .int .u64 0]) ?_ 3 _ rfl; refine blk_put (cs := #[.int .u64 aM, .int .u64 aS, .int .u64 0, .int .u64 0]) ?_ 2 _ rfl; refine blk_put (cs := #[.int .u64 aM, .int .u64 0, .int .u64 0, .int .u64 0]) ?_ 1 _ rfl; refine blk_put (cs := #[.int .u64 0, .int .u64 0, .int .u64 0, .int .u64 0]) ?_ 0 _ rfl; exact aI.out⟩
   have aQ : Aside0 (Below w.heap.size w ((((bh.setCell ⟨ac, 0, none⟩ (.int .u64 aM)).setCell ⟨ac, 1, none⟩ (.int .u64 aS)).setCell ⟨ac, 2, none⟩ (.int .u64 a8)).setCell ⟨ac, 3, none⟩ (.int .u64 ba))) := ⟨by repeat (first | (with_reducible first | exact HB.out | apply below_alloc | apply pw_below_drewN | apply below_drew1 | refine below_set ?_ aA.out | refine below_set ?_ aD.out | refine below_set ?_ aK.out | refine below_set ?_ bd.out | refine below_set ?_ bo.out | refine below_set ?_ bK.out) | exact HB.out)⟩
   generalize ((((bh.setCell ⟨ac, 0, none⟩ (.int .u64 aM)).setCell ⟨ac, 1, none⟩ (.int .u64 aS)).setCell ⟨ac, 2, none⟩ (.int .u64 a8)).setCell ⟨ac, 3, none⟩ (.int .u64 ba)) = cJ at al am aw av aG aH aQ ⊢
   have aa := al
   have ad := am
   have ae := aw
   have ah := av
   have ay := aG
   have aI := aH
   have HB := aQ
   have al := aj (blk_drew aa.out)
   have am := aj (blk_drew ad.out)
   have aw := aj (blk_drew ae.out)
   have av := aj (blk_drew ah.out)
   have aG := aj (blk_drew ay.out)
   have aH := aj (blk_drew aI.out)
   have aQ := aj (below_drew1 HB.out)
   clear aa
   clear ad
   clear ae
   clear ah
   clear ay
   clear aI
   clear HB
   have aa := al
   have ad := am
   have ae := aw
   have ah := av
   have ay := aG
   have aI := aH
   have HB := aQ
   refine start_ (n := 18) (S := fun w' => w'.cell? ⟨ac, 0, none⟩ = some (.int .u64 aM) ∧ w'.cell? ⟨ac, 1, none⟩ = some (.int .u64 aS) ∧ w'.cell? ⟨ac, 2, none⟩ = some (.int .u64 a8) ∧ w'.cell? ⟨ac, 3, none⟩ = some (.int .u64 ba) ∧ w'.cell? ⟨az, 0, none⟩ = some (.int .u64 aL) ∧ w'.cell? ⟨az, 1, none⟩ = some (.int .u64 aR) ∧ w'.cell? ⟨az, 2, none⟩ = some (.int .u64 a9) ∧ w'.cell? ⟨az, 3, none⟩ = some (.int .u64 bg) ∧ w'.cell? ⟨ax, 0, none⟩ = some (.int .u64 ak) ∧ w'.cell? ⟨ax, 1, none⟩ = some (.int .u64 aE) ∧ w'.cell? ⟨ax, 2, none⟩ = some (.bool aF)) (ds := []) z36_0_ (by kernel_rfl) rfl rfl ⟨bq_ aI 0, bq_ aI 1, bq_ aI 2, bq_ aI 3, bq_ ay 0, bq_ ay 1, bq_ ay 2, bq_ ay 3, bq_ ah 0, bq_ ah 1, bq_ ah 2⟩ (fun hL => ?_); refine with_tabW sponge_Node.tab6 sponge_Node.bits6 (fun T_ W_ => ?_)
   generalize cJ.drew = bS at aa ad ae ah ay aI HB hL ⊢
   refine pz_ 0 30 z36_1_ ?_
   refine pz_ 2 32 z36_2_ ?_
   refine pz_ 5 35 z36_3_ ?_
   refine pz_ 8 38 z36_4_ ?_
   refine pz_ 10 40 z36_5_ ?_
   refine pz_ 13 43 z36_6_ ?_
   refine tz_ 1 31 z36_7_ ?_
   refine tz_ 3 33 z36_8_ ?_
   refine pz_ 4 34 z36_9_ ?_
   refine tz_ 6 36 z36_10_ ?_
   refine pz_ 7 37 z36_11_ ?_
   refine tz_ 9 39 z36_12_ ?_
   refine tz_ 11 41 z36_13_ ?_
   refine pz_ 12 42 z36_14_ ?_
   refine tz_ 14 44 z36_15_ ?_
   refine pz_ 15 45 z36_16_ ?_
   refine pz_ 16 46 z36_17_ ?_
   refine one_ (i := 17) (N := none) z36_18_ rfl rfl (on_ T_) (by decide) (fun K hK => ?_)
   have hs42 : bS.cell? ⟨ab, 0, none⟩ = some (.int .u64 0) := bq_ ae 0
   have hfs42 := blk_frozen ae.out 0
   have cv := aU.out
   have cw := aV.out
   have cx := aT.out
   have cy := aO.out
   have cz := aP.out
   have hs43 : bS.cell? ⟨ab, 1, none⟩ = some (.int .u64 0) := bq_ ae 1
   have hfs43 := blk_frozen ae.out 1
   have cA := aU.out
   have cB := aV.out
   have cC := aT.out
   have cD := aO.out
   have cE := aP.out
   refine skip_ (w1 := ?_) (by rfl) rfl ?_ ?_
   rotate_left
   ·go_simp
    rfl
   refine hK.out _ _ ⟨((cell_far (p := ⟨ab, _, none⟩) aC.out _).trans (((cell_far (p := ⟨ab, _, none⟩) aC.out _).trans (hL.1)))), ((cell_far (p := ⟨ab, _, none⟩) aC.out _).trans (((cell_far (p := ⟨ab, _, none⟩) aC.out _).trans (hL.2.1)))), ((cell_far (p := ⟨ab, _, none⟩) aC.out _).trans (((cell_far (p := ⟨ab, _, none⟩) aC.out _).trans (hL.2.2.1)))), ((cell_far (p := ⟨ab, _, none⟩) aC.out _).trans (((cell_far (p := ⟨ab, _, none⟩) aC.out _).trans (hL.2.2.2.1)))), ((cell_far (p := ⟨ab, _, none⟩) aB.out _).trans (((cell_far (p := ⟨ab, _, none⟩) aB.out _).trans (hL.2.2.2.2.1)))), ((cell_far (p := ⟨ab, _, none⟩) aB.out _).trans (((cell_far (p := ⟨ab, _, none⟩) aB.out _).trans (hL.2.2.2.2.2.1)))), ((cell_far (p := ⟨ab, _, none⟩) aB.out _).trans (((cell_far (p := ⟨ab, _, none⟩) aB.out _).trans (hL.2.2.2.2.2.2.1)))), ((cell_far (p := ⟨ab, _, none⟩) aB.out _).trans (((cell_far (p := ⟨ab, _, none⟩) aB.out _).trans (hL.2.2.2.2.2.2.2.1)))), ((cell_far (p := ⟨ab, _, none⟩) aN.out _).trans (((cell_far (p := ⟨ab, _, none⟩) aN.out _).trans (hL.2.2.2.2.2.2.2.2.1)))), ((cell_far (p := ⟨ab, _, none⟩) aN.out _).trans (((cell_far (p := ⟨ab, _, none⟩) aN.out _).trans (hL.2.2.2.2.2.2.2.2.2.1)))), ((cell_far (p := ⟨ab, _, none⟩) aN.out _).trans (((cell_far (p := ⟨ab, _, none⟩) aN.out _).trans (hL.2.2.2.2.2.2.2.2.2.2))))⟩ (fun hL => ?_)
   clear hK K
   refine done_ (done_of T_.out (by kernel_rfl)) ?_
   try go_wp2
   refine bodyPost_ret (results_cell_row rfl _ _ ab 36 #[.int .u64 (Int.tmod (IntKind.u64.wrap (aM + aL)) ak), .int .u64 (Int.tmod (IntKind.u64.wrap (aS + aR)) ak)] (0, 0) _ rfl (by refine blk_put (cs := #[.int .u64 (Int.tmod (IntKind.u64.wrap (aM + aL)) ak), .int .u64 0]) ?_ 1 _ rfl; refine blk_put (cs := #[.int .u64 0, .int .u64 0]) ?_ 0 _ rfl; exact ae.out) Tryd.underlying36 rfl (by kernel_rfl)) rfl ?_
   exact ⟨by first | rfl | (simp [errW_none, errW_some] <;> rfl) | (simp [*, errW_none, errW_some] <;> rfl), by repeat (first | (with_reducible first | exact HB.out | apply below_alloc | apply pw_below_drewN | apply below_drew1 | refine below_set ?_ aA.out | refine below_set ?_ aD.out | refine below_set ?_ aK.out | refine below_set ?_ bd.out | refine below_set ?_ bo.out | refine below_set ?_ bK.out) | exact HB.out)⟩
 ·replace c5 := Bool.eq_false_iff.mpr c5
  subst c5
  have H1 : (some (0, 0)) = some (r1, r2) := by rw [if_neg (show ¬ (false = true) by decide)] at H; exact H
  clear H
  have H := H1
  clear H1
  simp only [Option.some.injEq, Prod.mk.injEq] at H
  obtain ⟨rfl, rfl⟩ := H
  go_enter Tryd.func36, Tryd.ntmps36
  go_wp2_with (first | ((with_reducible refine gate_dst (N := 4) rfl ?_); refine box_event ?hg (N := 4) ?hd (cs := #[.int .u64 ap, .int .u64 aq]) (t := 36) ?hr ?_; (case hd => rfl); (case hg => rfl); (case hr => first | (go_simp; done) | (go_simp; rfl)); intro af hg dx hbox hb; have al := aj (below_step HB.out hb); have am := aj (hbox); have av := aj ((by rw [hg]; exact (below_size HB.out) : w.heap.size ≤ af)); clear HB; have HB := al; have aa := am; have aA := av; clear al am av; clear hb hbox hg) | ((with_reducible refine gate_dst (N := 5) rfl ?_); refine box_event ?hg (N := 5) ?hd (cs := #[.int .u64 ar, .int .u64 au]) (t := 36) ?hr ?_; (case hd => rfl); (case hg => rfl); (case hr => first | (go_simp; done) | (go_simp; rfl)); intro ag hg dy hbox hb; have al := aj (blk_below aa.out hb); have am := aj (below_step HB.out hb); have aw := aj (hbox); have aG := aj ((by rw [hg]; exact (below_size HB.out) : w.heap.size ≤ ag)); have aH := aj ((by rw [hg]; exact Nat.ne_of_lt (blk_lt aa.out) : af ≠ ag)); have aQ := aj ((by rw [hg]; exact Nat.ne_of_gt (blk_lt aa.out) : ag ≠ af)); clear aa; clear HB; have aa := al; have HB := am; have ad := aw; have aD := aG; have bq := aH; have br := aQ; clear al am aw aG aH aQ; clear hb hbox hg) | ((with_reducible refine gate_dst (N := 6) rfl ?_); refine box_event ?hg (N := 6) ?hd (cs := #[.int .u64 0, .int .u64 0]) (t := 36) ?hr ?_; (case hd => rfl); (case hg => rfl); (case hr => first | (go_simp; done) | (go_simp; rfl)); intro ab hg bp hbox hb; have al := aj (blk_below aa.out hb); have am := aj (blk_below ad.out hb); have aw := aj (below_step HB.out hb); have av := aj (hbox); have aH := aj ((by rw [hg]; exact (below_size HB.out) : w.heap.size ≤ ab)); have aQ := aj ((by rw [hg]; exact Nat.ne_of_lt (blk_lt aa.out) : af ≠ ab)); have bi := aj ((by rw [hg]; exact Nat.ne_of_gt (blk_lt aa.out) : ab ≠ af)); have bb := aj ((by rw [hg]; exact Nat.ne_of_lt (blk_lt ad.out) : ag ≠ ab)); have bc := aj ((by rw [hg]; exact Nat.ne_of_gt (blk_lt ad.out) : ab ≠ ag)); clear aa; clear ad; clear HB; have aa := al; have ad := am; have HB := aw; have ae := av; have aK := aH; have bj := aQ; have aU := bi; have bk := bb; have aV := bc; clear al am aw av aH aQ bi bb bc; clear hb hbox hg) | ((with_reducible refine gate_callee (f := 38) rfl ?_); refine goesL_ (some 11) rfl rfl Tryd.func38 (by kernel_rfl) rfl #[.int .i64 a0] rfl (by (try simp only [List.map_toArray, List.map_cons, List.map_nil]); first | done | rfl | (go_simp; done)) ?_; (with_reducible refine (field_Valid.calls a0 false _ A4.out).mono ?_); rintro e w' ⟨rfl, ⟨nd, rfl⟩⟩; refine ⟨_, rfl, ?_⟩; (try (rw [drewN_self bp]; generalize q_ : World.drewN bp _ = bp; have al : Aside0 (bp.heap[af]? = some (.cells #[.int .u64 ap, .int .u64 aq] 36 (0, 0))) := ⟨by rw [← q_]; exact aa.out⟩; have am : Aside0 (bp.heap[ag]? = some (.cells #[.int .u64 ar, .int .u64 au] 36 (0, 0))) := ⟨by rw [← q_]; exact ad.out⟩; have aw : Aside0 (bp.heap[ab]? = some (.cells #[.int .u64 0, .int .u64 0] 36 (0, 0))) := ⟨by rw [← q_]; exact ae.out⟩; have av : Aside0 (Below w.heap.size w bp) := ⟨by rw [← q_]; exact HB.out⟩; clear aa ad ae HB q_; have aa := al; have ad := am; have ae := aw; have HB := av; clear al am aw av)); have dm := aU.out; have dn := bj.out; have dp := aV.out; have dq := bk.out; have cF : bp.cell? ⟨ab, 0, none⟩ = some (.int .u64 0) := bq_ ae 0; have cG : bp.cell? ⟨ab, 1, none⟩ = some (.int .u64 0) := bq_ ae 1; have cH := blk_frozen ae.out 0; have cI := blk_frozen ae.out 1))
  refine bodyPost_ret (results_cell_row rfl _ _ ab 36 #[.int .u64 0, .int .u64 0] (0, 0) _ rfl (by refine blk_put (cs := #[.int .u64 0, .int .u64 0]) ?_ 1 _ rfl; refine blk_put (cs := #[.int .u64 0, .int .u64 0]) ?_ 0 _ rfl; exact ae.out) Tryd.underlying36 rfl (by kernel_rfl)) rfl ?_
  exact ⟨by first | rfl | (simp [errW_none, errW_some] <;> rfl) | (simp [*, errW_none, errW_some] <;> rfl), by repeat (first | (with_reducible first | exact HB.out | apply below_alloc | apply pw_below_drewN | apply below_drew1 | refine below_set ?_ aA.out | refine below_set ?_ aD.out | refine below_set ?_ aK.out) | exact HB.out)⟩

end Go.Proofs.YtpnpmeogffodgaaDoor.Q
end
section
namespace Go.Proofs.YtpnpmeogffodgaaDoor.Q
open Go.RowKit Go.Proofs.YtpnpmeogffodgaaDoorW.PrintWords Go.Proofs.YtpnpmeogffodgaaDoorW.PrintLast Go.Proofs.YtpnpmeogffodgaaDoorW.PrintMore
set_option linter.unusedVariables false
set_option linter.unusedSimpArgs false
/-- A walk's state: the memory that lay when the caller began lies as it lay; of what lay when the call began all but the blocks of S lies as it lay. -/
def Stp (w0 w : World) (S : Nat → Prop) (W : World) : Prop := Below w0.heap.size w0 W ∧ Kept w W S
theorem stp_b {w0 w W : World} {S : Nat → Prop} (h : Stp w0 w S W) : Below w0.heap.size w0 W := h.1
theorem stp_k {w0 w W : World} {S : Nat → Prop} (h : Stp w0 w S W) : Kept w W S := h.2
theorem stp_below {w0 w W W1 : World} {S : Nat → Prop} (h : Stp w0 w S W) (hb : Below W.heap.size W W1) : Stp w0 w S W1 := ⟨below_step h.1 hb, h.2.below hb⟩
theorem new_ne {W : World} {h g : Nat} {o : Obj} (hb : W.heap[h]? = some o) (hg : g = W.heap.size) : h ≠ g := by
  have := blk_lt hb
  omega
theorem below_ne {W : World} {h g : Nat} {o : Obj} (hb : W.heap[h]? = some o) (hg : W.heap.size ≤ g) : h ≠ g := by
  have := blk_lt hb
  omega
theorem stp_new {w0 w W : World} {S : Nat → Prop} {g : Nat} (h : Stp w0 w S W) (hg : g = W.heap.size) : w0.heap.size ≤ g ∧ (S g ∨ w.heap.size ≤ g) := by
  subst hg
  exact ⟨h.1.size, .inr h.2.1⟩
theorem stp_set {w0 w W : World} {S : Nat → Prop} {g : Nat} (h : Stp w0 w S W) (hg : w0.heap.size ≤ g ∧ (S g ∨ w.heap.size ≤ g)) (j : Nat) (u : Value) : Stp w0 w S (W.setCell ⟨g, j, none⟩ u) := ⟨below_set h.1 hg.1, h.2.setCell (p := ⟨g, j, none⟩) hg.2 u⟩
theorem stp_drewN {w0 w W : World} {S : Nat → Prop} (h : Stp w0 w S W) (n : Nat) : Stp w0 w S (W.drewN n) := ⟨pw_below_drewN h.1 n, h.2⟩
theorem stp_drew {w0 w W : World} {S : Nat → Prop} (h : Stp w0 w S W) : Stp w0 w S W.drew := ⟨h.1.drew, h.2⟩
theorem stp_trans {w0 w W W1 : World} {S S2 : Nat → Prop} (h : Stp w0 w S W) (k : Stp w0 W S2 W1) (hs : ∀ g, S2 g → S g ∨ w.heap.size ≤ g) : Stp w0 w S W1 := ⟨k.1, h.2.then_ k.2 hs⟩
set_option maxHeartbeats 2000000 in
set_option maxRecDepth 100000 in
/-- The closure, at an even place. -/
theorem climber1_even (f i x0 x1 p0 p1 n0 n1 : Int) (gf gi gx : Nat) (w0 w : World) (hG : GL w0) (hS : Below w0.heap.size w0 w) (bf : w.heap[gf]? = some (.cells #[.int .i64 f] 3 (0, 0))) (bi : w.heap[gi]? = some (.cells #[.int .i64 i] 3 (0, 0))) (bx : w.heap[gx]? = some (.cells #[.int .u64 x0, .int .u64 x1] 36 (0, 0)))
    (nfi : gf ≠ gi) (hgf : w0.heap.size ≤ gf) (hgi : w0.heap.size ≤ gi) (hgx : w0.heap.size ≤ gx) (ho : (Go.bits .and .i64 i 1 == 1) = false) (h : sponge_Node.f 200 f x0 x1 p0 p1 = some (n0, n1)) :
    Calls Tryd.prog 64 #[.agg #[.int .u64 p0, .int .u64 p1], .pointer (some ⟨gx, 0, none⟩), .pointer (some ⟨gi, 0, none⟩), .pointer (some ⟨gf, 0, none⟩)] w fun e w' => e = .returned (.tuple #[.agg #[.int .u64 x0, .int .u64 x1, .int .u64 p0, .int .u64 p1], .agg #[.int .u64 n0, .int .u64 n1]]) ∧ Stp w0 w (fun k => k = gi ∨ k = gx) w'
      ∧ w'.heap[gf]? = some (.cells #[.int .i64 f] 3 (0, 0)) ∧ w'.heap[gi]? = some (.cells #[.int .i64 (i / 2)] 3 (0, 0)) ∧ w'.heap[gx]? = some (.cells #[.int .u64 n0, .int .u64 n1] 36 (0, 0)) := by
  have hu36 := Tryd.underlying36
  have hu48 := Tryd.underlying48
  have HRG := aj hG
  have A := aj h
  have ac := aj bf
  have ae := aj bi
  have aa := aj bx
  have nfx : gf ≠ gx := blk_ne bf bx (by decide)
  have nix : gi ≠ gx := blk_ne bi bx (by decide)
  have aq := aj nfi
  have a4 := aj nfi.symm
  have aC := aj nfx
  have a5 := aj nfx.symm
  have aD := aj nix
  have aI := aj nix.symm
  generalize hSS : (fun k : Nat => k = gi ∨ k = gx) = S
  have be : Aside0 (w0.heap.size ≤ gi ∧ (S gi ∨ w.heap.size ≤ gi)) := ⟨hgi, .inl (hSS ▸ .inl rfl)⟩
  have a7 : Aside0 (w0.heap.size ≤ gx ∧ (S gx ∨ w.heap.size ≤ gx)) := ⟨hgx, .inl (hSS ▸ .inr rfl)⟩
  have HS : Aside0 (Stp w0 w S w) := ⟨hS, Kept.refl _ _⟩
  clear h hG hS bf bi bx nfi nfx nix hgf hgi hgx hSS
  obtain ⟨a8, a9⟩ := bc1 ac
  obtain ⟨aS, aT⟩ := bc1 ae
  have ax := bq_ aa 0
  have ay := blk_frozen aa.out 0
  have az := bq_ aa 1
  have aA := blk_frozen aa.out 1
  have bJ := aq.out
  have bK := aC.out
  have bL := a4.out
  have bM := aD.out
  have bN := a5.out
  have bO := aI.out
  go_enter Tryd.func64, Tryd.ntmps64
  go_wp2_with (first
    | ((with_reducible refine gate_dst (N := 4) rfl ?_); refine box_event ?hg (N := 4) ?hd (cs := #[.int .u64 p0, .int .u64 p1]) (t := 36) ?hr ?_; (case hd => rfl); (case hg => rfl); (case hr => first | (go_simp; done) | (go_simp; rfl)); intro gp xg w1 y_ hb; clear a8 a9 aS aT ax ay az aA; have bh := aj (new_ne ac.out xg); have bP := aj bh.out.symm; have bj := aj (new_ne ae.out xg); have bl := aj bj.out.symm; have bm := aj (new_ne aa.out xg); have bn := aj bm.out.symm; have dc := aj (stp_new HS.out xg); replace ac := aj (show w1.heap[gf]? = some (.cells #[.int .i64 f] 3 (0, 0)) from blk_below ac.out hb); replace ae := aj (show w1.heap[gi]? = some (.cells #[.int .i64 i] 3 (0, 0)) from blk_below ae.out hb); replace aa := aj (show w1.heap[gx]? = some (.cells #[.int .u64 x0, .int .u64 x1] 36 (0, 0)) from blk_below aa.out hb); replace HS := aj (show Stp w0 w S w1 from stp_below HS.out hb); have ah := aj y_; clear xg y_ hb; skip)
    | ((with_reducible refine gate_dst (N := 5) rfl ?_); refine box_event ?hg (N := 5) ?hd (cs := #[.int .u64 0, .int .u64 0, .int .u64 0, .int .u64 0]) (t := 48) ?hr ?_; (case hd => rfl); (case hg => rfl); (case hr => first | (go_simp; done) | (go_simp; rfl)); intro g5 xg w2 y_ hb; skip; have ar := aj (new_ne ac.out xg); have bQ := aj ar.out.symm; have au := aj (new_ne ae.out xg); have bo := aj au.out.symm; have ak := aj (new_ne aa.out xg); have bp := aj ak.out.symm; have bq := aj (new_ne ah.out xg); have bR := aj bq.out.symm; have bB := aj (stp_new HS.out xg); replace ac := aj (show w2.heap[gf]? = some (.cells #[.int .i64 f] 3 (0, 0)) from blk_below ac.out hb); replace ae := aj (show w2.heap[gi]? = some (.cells #[.int .i64 i] 3 (0, 0)) from blk_below ae.out hb); replace aa := aj (show w2.heap[gx]? = some (.cells #[.int .u64 x0, .int .u64 x1] 36 (0, 0)) from blk_below aa.out hb); replace ah := aj (show w2.heap[gp]? = some (.cells #[.int .u64 p0, .int .u64 p1] 36 (0, 0)) from blk_below ah.out hb); replace HS := aj (show Stp w0 w S w2 from stp_below HS.out hb); have ai := aj y_; clear xg y_ hb; skip)
    | ((with_reducible refine gate_dst (N := 6) rfl ?_); refine box_event ?hg (N := 6) ?hd (cs := #[.int .u64 0, .int .u64 0]) (t := 36) ?hr ?_; (case hd => rfl); (case hg => rfl); (case hr => first | (go_simp; done) | (go_simp; rfl)); intro g6 xg w3 y_ hb; skip; have av := aj (new_ne ac.out xg); have br := aj av.out.symm; have aw := aj (new_ne ae.out xg); have aJ := aj aw.out.symm; have am := aj (new_ne aa.out xg); have aK := aj am.out.symm; have bs := aj (new_ne ah.out xg); have bS := aj bs.out.symm; have aL := aj (new_ne ai.out xg); have aB := aj aL.out.symm; have bg := aj (stp_new HS.out xg); replace ac := aj (show w3.heap[gf]? = some (.cells #[.int .i64 f] 3 (0, 0)) from blk_below ac.out hb); replace ae := aj (show w3.heap[gi]? = some (.cells #[.int .i64 i] 3 (0, 0)) from blk_below ae.out hb); replace aa := aj (show w3.heap[gx]? = some (.cells #[.int .u64 x0, .int .u64 x1] 36 (0, 0)) from blk_below aa.out hb); replace ah := aj (show w3.heap[gp]? = some (.cells #[.int .u64 p0, .int .u64 p1] 36 (0, 0)) from blk_below ah.out hb); replace ai := aj (show w3.heap[g5]? = some (.cells #[.int .u64 0, .int .u64 0, .int .u64 0, .int .u64 0] 48 (0, 0)) from blk_below ai.out hb); replace HS := aj (show Stp w0 w S w3 from stp_below HS.out hb); have ab := aj y_; clear xg y_ hb; have ax := bq_ aa 0; have ay := blk_frozen aa.out 0; have az := bq_ aa 1; have aA := blk_frozen aa.out 1; have bC := bq_ ah 0; have bD := blk_frozen ah.out 0; have bE := bq_ ah 1; have bF := blk_frozen ah.out 1)
    | ((with_reducible refine gate_dst (N := 7) rfl ?_); refine box_event ?hg (N := 7) ?hd (cs := #[.int .u64 0, .int .u64 0, .int .u64 0, .int .u64 0]) (t := 48) ?hr ?_; (case hd => rfl); (case hg => rfl); (case hr => first | (go_simp; done) | (go_simp; rfl)); intro g7 xg w4 y_ hb; clear ax ay az aA bC bD bE bF; have aM := aj (new_ne ac.out xg); have bT := aj aM.out.symm; have aN := aj (new_ne ae.out xg); have bu := aj aN.out.symm; have aO := aj (new_ne aa.out xg); have bv := aj aO.out.symm; have aP := aj (new_ne ah.out xg); have bU := aj aP.out.symm; have aQ := aj (new_ne ai.out xg); have ag := aj aQ.out.symm; have aR := aj (new_ne ab.out xg); have ao := aj aR.out.symm; have a6 := aj (stp_new HS.out xg); replace ac := aj (show w4.heap[gf]? = some (.cells #[.int .i64 f] 3 (0, 0)) from blk_below ac.out hb); replace ae := aj (show w4.heap[gi]? = some (.cells #[.int .i64 i] 3 (0, 0)) from blk_below ae.out hb); replace aa := aj (show w4.heap[gx]? = some (.cells #[.int .u64 x0, .int .u64 x1] 36 (0, 0)) from blk_below aa.out hb); replace ah := aj (show w4.heap[gp]? = some (.cells #[.int .u64 p0, .int .u64 p1] 36 (0, 0)) from blk_below ah.out hb); replace ai := aj (show w4.heap[g5]? = some (.cells #[.int .u64 0, .int .u64 0, .int .u64 0, .int .u64 0] 48 (0, 0)) from blk_below ai.out hb); replace ab := aj (show w4.heap[g6]? = some (.cells #[.int .u64 0, .int .u64 0] 36 (0, 0)) from blk_below ab.out hb); replace HS := aj (show Stp w0 w S w4 from stp_below HS.out hb); have af := aj y_; clear xg y_ hb; have aU := bq_ af 0; have aV := blk_frozen af.out 0; have aW := bq_ af 1; have aX := blk_frozen af.out 1; have aY := bq_ af 2; have aZ := blk_frozen af.out 2; have a2 := bq_ af 3; have a3 := blk_frozen af.out 3)
    | ((with_reducible refine gate_store (t := 48) (p := 7) rfl ?_); refine store_event (t := 48) (p := 7) (v := .tmp 10) (w1 := ((((w4.setCell ⟨g7, 0, none⟩ (.int .u64 x0)).setCell ⟨g7, 1, none⟩ (.int .u64 x1)).setCell ⟨g7, 2, none⟩ (.int .u64 p0)).setCell ⟨g7, 3, none⟩ (.int .u64 p1))) ?hg ?ho ?hn ?hr ?_; (case ho => rfl); (case hg => rfl); (case hn => rfl); (case hr => first | (go_simp; done) | (go_simp; rfl)); intro w5 hw; clear aU aV aW aX aY aZ a2 a3; replace ac := aj (show w5.heap[gf]? = some (.cells #[.int .i64 f] 3 (0, 0)) from (by rw [hw]; (repeat (refine blk_far ?_ aM.out _)); exact ac.out)); replace ae := aj (show w5.heap[gi]? = some (.cells #[.int .i64 i] 3 (0, 0)) from (by rw [hw]; (repeat (refine blk_far ?_ aN.out _)); exact ae.out)); replace aa := aj (show w5.heap[gx]? = some (.cells #[.int .u64 x0, .int .u64 x1] 36 (0, 0)) from (by rw [hw]; (repeat (refine blk_far ?_ aO.out _)); exact aa.out)); replace ah := aj (show w5.heap[gp]? = some (.cells #[.int .u64 p0, .int .u64 p1] 36 (0, 0)) from (by rw [hw]; (repeat (refine blk_far ?_ aP.out _)); exact ah.out)); replace ai := aj (show w5.heap[g5]? = some (.cells #[.int .u64 0, .int .u64 0, .int .u64 0, .int .u64 0] 48 (0, 0)) from (by rw [hw]; (repeat (refine blk_far ?_ aQ.out _)); exact ai.out)); replace ab := aj (show w5.heap[g6]? = some (.cells #[.int .u64 0, .int .u64 0] 36 (0, 0)) from (by rw [hw]; (repeat (refine blk_far ?_ aR.out _)); exact ab.out)); replace af := aj (show w5.heap[g7]? = some (.cells #[.int .u64 x0, .int .u64 x1, .int .u64 p0, .int .u64 p1] 48 (0, 0)) from (by rw [hw]; exact (blk_put (cs := #[.int .u64 x0, .int .u64 x1, .int .u64 p0, .int .u64 0]) (blk_put (cs := #[.int .u64 x0, .int .u64 x1, .int .u64 0, .int .u64 0]) (blk_put (cs := #[.int .u64 x0, .int .u64 0, .int .u64 0, .int .u64 0]) (blk_put (cs := #[.int .u64 0, .int .u64 0, .int .u64 0, .int .u64 0]) af.out 0 (.int .u64 x0) rfl) 1 (.int .u64 x1) rfl) 2 (.int .u64 p0) rfl) 3 (.int .u64 p1) rfl))); replace HS := aj (show Stp w0 w S w5 from (by rw [hw]; exact (stp_set (stp_set (stp_set (stp_set HS.out a6.out 0 (.int .u64 x0)) a6.out 1 (.int .u64 x1)) a6.out 2 (.int .u64 p0)) a6.out 3 (.int .u64 p1)))); clear hw; have aS := bq_ ae 0; have aT := blk_frozen ae.out 0)
    | ((with_reducible refine gate_store (t := 3) (p := 2) rfl ?_); refine store_event (t := 3) (p := 2) (v := .tmp 18) (w1 := (w5.setCell ⟨gi, 0, none⟩ (.int .i64 (i / 2)))) ?hg ?ho ?hn ?hr ?_; (case ho => rfl); (case hg => rfl); (case hn => rfl); (case hr => first | (go_simp; done) | (go_simp; rfl)); intro w7 hw; clear aS aT; replace ac := aj (show w7.heap[gf]? = some (.cells #[.int .i64 f] 3 (0, 0)) from (by rw [hw]; (repeat (refine blk_far ?_ aq.out _)); exact ac.out)); replace ae := aj (show w7.heap[gi]? = some (.cells #[.int .i64 (i / 2)] 3 (0, 0)) from (by rw [hw]; exact (blk_put (cs := #[.int .i64 i]) ae.out 0 (.int .i64 (i / 2)) rfl))); replace aa := aj (show w7.heap[gx]? = some (.cells #[.int .u64 x0, .int .u64 x1] 36 (0, 0)) from (by rw [hw]; (repeat (refine blk_far ?_ aI.out _)); exact aa.out)); replace ah := aj (show w7.heap[gp]? = some (.cells #[.int .u64 p0, .int .u64 p1] 36 (0, 0)) from (by rw [hw]; (repeat (refine blk_far ?_ bl.out _)); exact ah.out)); replace ai := aj (show w7.heap[g5]? = some (.cells #[.int .u64 0, .int .u64 0, .int .u64 0, .int .u64 0] 48 (0, 0)) from (by rw [hw]; (repeat (refine blk_far ?_ bo.out _)); exact ai.out)); replace ab := aj (show w7.heap[g6]? = some (.cells #[.int .u64 0, .int .u64 0] 36 (0, 0)) from (by rw [hw]; (repeat (refine blk_far ?_ aJ.out _)); exact ab.out)); replace af := aj (show w7.heap[g7]? = some (.cells #[.int .u64 x0, .int .u64 x1, .int .u64 p0, .int .u64 p1] 48 (0, 0)) from (by rw [hw]; (repeat (refine blk_far ?_ bu.out _)); exact af.out)); replace HS := aj (show Stp w0 w S w7 from (by rw [hw]; exact (stp_set HS.out be.out 0 (.int .i64 (i / 2))))); clear hw; have a8 := bq_ ac 0; have a9 := blk_frozen ac.out 0; have aU := bq_ af 0; have aV := blk_frozen af.out 0; have aW := bq_ af 1; have aX := blk_frozen af.out 1; have aY := bq_ af 2; have aZ := blk_frozen af.out 2; have a2 := bq_ af 3; have a3 := blk_frozen af.out 3)
    | (go_at_call 36; (with_reducible refine (sponge_Node.calls 200 f x0 x1 p0 p1 n0 n1 _ (GL.below HRG.out (stp_b HS.out)) A.out).mono ?_); rintro e w8 ⟨rfl, hb⟩; clear a8 a9 aU aV aW aX aY aZ a2 a3; replace ac := aj (show w8.heap[gf]? = some (.cells #[.int .i64 f] 3 (0, 0)) from blk_below ac.out hb); replace ae := aj (show w8.heap[gi]? = some (.cells #[.int .i64 (i / 2)] 3 (0, 0)) from blk_below ae.out hb); replace aa := aj (show w8.heap[gx]? = some (.cells #[.int .u64 x0, .int .u64 x1] 36 (0, 0)) from blk_below aa.out hb); replace ah := aj (show w8.heap[gp]? = some (.cells #[.int .u64 p0, .int .u64 p1] 36 (0, 0)) from blk_below ah.out hb); replace ai := aj (show w8.heap[g5]? = some (.cells #[.int .u64 0, .int .u64 0, .int .u64 0, .int .u64 0] 48 (0, 0)) from blk_below ai.out hb); replace ab := aj (show w8.heap[g6]? = some (.cells #[.int .u64 0, .int .u64 0] 36 (0, 0)) from blk_below ab.out hb); replace af := aj (show w8.heap[g7]? = some (.cells #[.int .u64 x0, .int .u64 x1, .int .u64 p0, .int .u64 p1] 48 (0, 0)) from blk_below af.out hb); replace HS := aj (show Stp w0 w S w8 from stp_below HS.out hb); clear hb; have ax := bq_ aa 0; have ay := blk_frozen aa.out 0; have az := bq_ aa 1; have aA := blk_frozen aa.out 1)
    | ((with_reducible refine gate_store (t := 36) (p := 1) rfl ?_); refine store_event (t := 36) (p := 1) (v := .tmp 24) (w1 := ((w8.setCell ⟨gx, 0, none⟩ (.int .u64 n0)).setCell ⟨gx, 1, none⟩ (.int .u64 n1))) ?hg ?ho ?hn ?hr ?_; (case ho => rfl); (case hg => rfl); (case hn => rfl); (case hr => first | (go_simp; done) | (go_simp; rfl)); intro w9 hw; clear ax ay az aA; replace ac := aj (show w9.heap[gf]? = some (.cells #[.int .i64 f] 3 (0, 0)) from (by rw [hw]; (repeat (refine blk_far ?_ aC.out _)); exact ac.out)); replace ae := aj (show w9.heap[gi]? = some (.cells #[.int .i64 (i / 2)] 3 (0, 0)) from (by rw [hw]; (repeat (refine blk_far ?_ aD.out _)); exact ae.out)); replace aa := aj (show w9.heap[gx]? = some (.cells #[.int .u64 n0, .int .u64 n1] 36 (0, 0)) from (by rw [hw]; exact (blk_put (cs := #[.int .u64 n0, .int .u64 x1]) (blk_put (cs := #[.int .u64 x0, .int .u64 x1]) aa.out 0 (.int .u64 n0) rfl) 1 (.int .u64 n1) rfl))); replace ah := aj (show w9.heap[gp]? = some (.cells #[.int .u64 p0, .int .u64 p1] 36 (0, 0)) from (by rw [hw]; (repeat (refine blk_far ?_ bn.out _)); exact ah.out)); replace ai := aj (show w9.heap[g5]? = some (.cells #[.int .u64 0, .int .u64 0, .int .u64 0, .int .u64 0] 48 (0, 0)) from (by rw [hw]; (repeat (refine blk_far ?_ bp.out _)); exact ai.out)); replace ab := aj (show w9.heap[g6]? = some (.cells #[.int .u64 0, .int .u64 0] 36 (0, 0)) from (by rw [hw]; (repeat (refine blk_far ?_ aK.out _)); exact ab.out)); replace af := aj (show w9.heap[g7]? = some (.cells #[.int .u64 x0, .int .u64 x1, .int .u64 p0, .int .u64 p1] 48 (0, 0)) from (by rw [hw]; (repeat (refine blk_far ?_ bv.out _)); exact af.out)); replace HS := aj (show Stp w0 w S w9 from (by rw [hw]; exact (stp_set (stp_set HS.out a7.out 0 (.int .u64 n0)) a7.out 1 (.int .u64 n1)))); clear hw; skip))
  skip
  replace ac : Aside0 (w9.drew.heap[gf]? = some (.cells #[.int .i64 f] 3 (0, 0))) := ⟨ac.out⟩
  replace ae : Aside0 (w9.drew.heap[gi]? = some (.cells #[.int .i64 (i / 2)] 3 (0, 0))) := ⟨ae.out⟩
  replace aa : Aside0 (w9.drew.heap[gx]? = some (.cells #[.int .u64 n0, .int .u64 n1] 36 (0, 0))) := ⟨aa.out⟩
  replace ah : Aside0 (w9.drew.heap[gp]? = some (.cells #[.int .u64 p0, .int .u64 p1] 36 (0, 0))) := ⟨ah.out⟩
  replace ai : Aside0 (w9.drew.heap[g5]? = some (.cells #[.int .u64 0, .int .u64 0, .int .u64 0, .int .u64 0] 48 (0, 0))) := ⟨ai.out⟩
  replace ab : Aside0 (w9.drew.heap[g6]? = some (.cells #[.int .u64 0, .int .u64 0] 36 (0, 0))) := ⟨ab.out⟩
  replace af : Aside0 (w9.drew.heap[g7]? = some (.cells #[.int .u64 x0, .int .u64 x1, .int .u64 p0, .int .u64 p1] 48 (0, 0))) := ⟨af.out⟩
  replace HS : Aside0 (Stp w0 w S w9.drew) := ⟨stp_drew HS.out⟩
  refine start_ (n := 4) (S := fun w' => w'.cell? ⟨g7, 0, none⟩ = some (.int .u64 x0) ∧ w'.cell? ⟨g7, 1, none⟩ = some (.int .u64 x1) ∧ w'.cell? ⟨g7, 2, none⟩ = some (.int .u64 p0) ∧ w'.cell? ⟨g7, 3, none⟩ = some (.int .u64 p1) ∧ w'.cell? ⟨gx, 0, none⟩ = some (.int .u64 n0) ∧ w'.cell? ⟨gx, 1, none⟩ = some (.int .u64 n1)) (ds := []) #[false, false, false, false] (by kernel_rfl) rfl rfl ⟨(blk_cell af.out 0).trans rfl, (blk_cell af.out 1).trans rfl, (blk_cell af.out 2).trans rfl, (blk_cell af.out 3).trans rfl, (blk_cell aa.out 0).trans rfl, (blk_cell aa.out 1).trans rfl⟩ (fun hHeld => ?_)
  generalize w9.drew = de at ac ae aa ah ai ab af HS hHeld ⊢
  refine take_ (i := 0) (N := some 25) (v := ?_) (a' := ?_) #[true, false, false, false] rfl rfl (by kernel_rfl) (fun _ _ _ h => h) (Or.inl ⟨by rfl, ?_⟩) hHeld ?_ ?_
  rotate_left
  · rintro w' ⟨s0, s1, s2, s3, s4, s5⟩
    go_simp
    with_reducible rfl
  rotate_left
  · simp only [Act.put, List.setIfInBounds_toArray, List.set_cons_zero, List.set_cons_succ, i64_w, i32_w]
    rfl
  refine take_ (i := 1) (N := some 26) (v := ?_) (a' := ?_) #[true, true, false, false] rfl rfl (by kernel_rfl) (fun _ _ _ h => h) (Or.inl ⟨by rfl, ?_⟩) hHeld ?_ ?_
  rotate_left
  · rintro w' ⟨s0, s1, s2, s3, s4, s5⟩
    go_simp
    with_reducible rfl
  rotate_left
  · simp only [Act.put, List.setIfInBounds_toArray, List.set_cons_zero, List.set_cons_succ, i64_w, i32_w]
    rfl
  have bJ := aq.out
  have bK := aC.out
  have cg := bh.out
  have ci := ar.out
  have cj := av.out
  have ck := aM.out
  have bL := a4.out
  have bM := aD.out
  have cl := bj.out
  have cm := au.out
  have cn := aw.out
  have co := aN.out
  have bN := a5.out
  have bO := aI.out
  have cp := bm.out
  have cq := ak.out
  have cr := am.out
  have ct := aO.out
  have cu := bP.out
  have cv := bl.out
  have cw := bn.out
  have cx := bq.out
  have cy := bs.out
  have cz := aP.out
  have cA := bQ.out
  have cB := bo.out
  have cC := bp.out
  have cD := bR.out
  have cE := aL.out
  have cF := aQ.out
  have cG := br.out
  have cH := aJ.out
  have cI := aK.out
  have cJ := bS.out
  have cK := aB.out
  have cL := aR.out
  have cM := bT.out
  have cN := bu.out
  have cO := bv.out
  have cP := bU.out
  have cQ := ag.out
  have cR := ao.out
  refine one_ (i := 2) (N := none) #[true, true, true, false] rfl rfl (by kernel_rfl) (by decide) (fun K hK => ?_)
  have cT := bq_ ai 0
  have cU := blk_frozen ai.out 0
  have cV := bq_ ai 1
  have cW := blk_frozen ai.out 1
  have cX := bq_ ai 2
  have cY := blk_frozen ai.out 2
  have cZ := bq_ ai 3
  have c0 := blk_frozen ai.out 3
  refine skip_ (w1 := ?_) (by rfl) rfl ?_ ?_
  rotate_left
  · go_simp
    rfl
  refine hK.out _ _ ⟨(cell_far (p := ⟨g5, _, none⟩) ag.out _).trans ((cell_far (p := ⟨g5, _, none⟩) ag.out _).trans ((cell_far (p := ⟨g5, _, none⟩) ag.out _).trans ((cell_far (p := ⟨g5, _, none⟩) ag.out _).trans (hHeld.1)))), (cell_far (p := ⟨g5, _, none⟩) ag.out _).trans ((cell_far (p := ⟨g5, _, none⟩) ag.out _).trans ((cell_far (p := ⟨g5, _, none⟩) ag.out _).trans ((cell_far (p := ⟨g5, _, none⟩) ag.out _).trans (hHeld.2.1)))), (cell_far (p := ⟨g5, _, none⟩) ag.out _).trans ((cell_far (p := ⟨g5, _, none⟩) ag.out _).trans ((cell_far (p := ⟨g5, _, none⟩) ag.out _).trans ((cell_far (p := ⟨g5, _, none⟩) ag.out _).trans (hHeld.2.2.1)))), (cell_far (p := ⟨g5, _, none⟩) ag.out _).trans ((cell_far (p := ⟨g5, _, none⟩) ag.out _).trans ((cell_far (p := ⟨g5, _, none⟩) ag.out _).trans ((cell_far (p := ⟨g5, _, none⟩) ag.out _).trans (hHeld.2.2.2.1)))), (cell_far (p := ⟨g5, _, none⟩) ak.out _).trans ((cell_far (p := ⟨g5, _, none⟩) ak.out _).trans ((cell_far (p := ⟨g5, _, none⟩) ak.out _).trans ((cell_far (p := ⟨g5, _, none⟩) ak.out _).trans (hHeld.2.2.2.2.1)))), (cell_far (p := ⟨g5, _, none⟩) ak.out _).trans ((cell_far (p := ⟨g5, _, none⟩) ak.out _).trans ((cell_far (p := ⟨g5, _, none⟩) ak.out _).trans ((cell_far (p := ⟨g5, _, none⟩) ak.out _).trans (hHeld.2.2.2.2.2))))⟩ (fun hHeld => ?_)
  refine one_ (i := 3) (N := none) #[true, true, true, true] rfl rfl (by kernel_rfl) (by decide) (fun K hK => ?_)
  have aE := bq_ ab 0
  have aF := blk_frozen ab.out 0
  have aG := bq_ ab 1
  have aH := blk_frozen ab.out 1
  refine skip_ (w1 := ?_) (by rfl) rfl ?_ ?_
  rotate_left
  · go_simp
    rfl
  refine hK.out _ _ ⟨(cell_far (p := ⟨g6, _, none⟩) ao.out _).trans ((cell_far (p := ⟨g6, _, none⟩) ao.out _).trans (hHeld.1)), (cell_far (p := ⟨g6, _, none⟩) ao.out _).trans ((cell_far (p := ⟨g6, _, none⟩) ao.out _).trans (hHeld.2.1)), (cell_far (p := ⟨g6, _, none⟩) ao.out _).trans ((cell_far (p := ⟨g6, _, none⟩) ao.out _).trans (hHeld.2.2.1)), (cell_far (p := ⟨g6, _, none⟩) ao.out _).trans ((cell_far (p := ⟨g6, _, none⟩) ao.out _).trans (hHeld.2.2.2.1)), (cell_far (p := ⟨g6, _, none⟩) am.out _).trans ((cell_far (p := ⟨g6, _, none⟩) am.out _).trans (hHeld.2.2.2.2.1)), (cell_far (p := ⟨g6, _, none⟩) am.out _).trans ((cell_far (p := ⟨g6, _, none⟩) am.out _).trans (hHeld.2.2.2.2.2))⟩ (fun hHeld => ?_)
  refine done_ (by kernel_rfl) ?_
  try go_wp2
  refine bodyPost_ret (results_list (rs := [.cell 5 48, .cell 6 36]) rfl (by simp) (.cell g5 48 #[.int .u64 x0, .int .u64 x1, .int .u64 p0, .int .u64 p1] (0, 0) _ rfl (blk_far (blk_far (blk_put (cs := #[.int .u64 x0, .int .u64 x1, .int .u64 p0, .int .u64 0]) (blk_put (cs := #[.int .u64 x0, .int .u64 x1, .int .u64 0, .int .u64 0]) (blk_put (cs := #[.int .u64 x0, .int .u64 0, .int .u64 0, .int .u64 0]) (blk_put (cs := #[.int .u64 0, .int .u64 0, .int .u64 0, .int .u64 0]) ai.out 0 (.int .u64 x0) rfl) 1 (.int .u64 x1) rfl) 2 (.int .u64 p0) rfl) 3 (.int .u64 p1) rfl) aL.out _) aL.out _) Tryd.underlying48 rfl (by kernel_rfl) (.cell g6 36 #[.int .u64 n0, .int .u64 n1] (0, 0) _ rfl (blk_put (cs := #[.int .u64 n0, .int .u64 0]) (blk_put (cs := #[.int .u64 0, .int .u64 0]) (blk_far (blk_far (blk_far (blk_far ab.out aB.out _) aB.out _) aB.out _) aB.out _) 0 (.int .u64 n0) rfl) 1 (.int .u64 n1) rfl) Tryd.underlying36 rfl (by kernel_rfl) .nil))) rfl ?_
  exact ⟨rfl, (stp_set (stp_set (stp_set (stp_set (stp_set (stp_set HS.out bB.out 0 (.int .u64 x0)) bB.out 1 (.int .u64 x1)) bB.out 2 (.int .u64 p0)) bB.out 3 (.int .u64 p1)) bg.out 0 (.int .u64 n0)) bg.out 1 (.int .u64 n1)), (blk_far (blk_far (blk_far (blk_far (blk_far (blk_far ac.out ar.out _) ar.out _) ar.out _) ar.out _) av.out _) av.out _), (blk_far (blk_far (blk_far (blk_far (blk_far (blk_far ae.out au.out _) au.out _) au.out _) au.out _) aw.out _) aw.out _), (blk_far (blk_far (blk_far (blk_far (blk_far (blk_far aa.out ak.out _) ak.out _) ak.out _) ak.out _) am.out _) am.out _)⟩
set_option maxHeartbeats 2000000 in
set_option maxRecDepth 100000 in
/-- The closure, at an odd place. -/
theorem climber1_odd (f i x0 x1 p0 p1 n0 n1 : Int) (gf gi gx : Nat) (w0 w : World) (hG : GL w0) (hS : Below w0.heap.size w0 w) (bf : w.heap[gf]? = some (.cells #[.int .i64 f] 3 (0, 0))) (bi : w.heap[gi]? = some (.cells #[.int .i64 i] 3 (0, 0))) (bx : w.heap[gx]? = some (.cells #[.int .u64 x0, .int .u64 x1] 36 (0, 0)))
    (nfi : gf ≠ gi) (hgf : w0.heap.size ≤ gf) (hgi : w0.heap.size ≤ gi) (hgx : w0.heap.size ≤ gx) (ho : (Go.bits .and .i64 i 1 == 1) = true) (h : sponge_Node.f 200 f p0 p1 x0 x1 = some (n0, n1)) :
    Calls Tryd.prog 64 #[.agg #[.int .u64 p0, .int .u64 p1], .pointer (some ⟨gx, 0, none⟩), .pointer (some ⟨gi, 0, none⟩), .pointer (some ⟨gf, 0, none⟩)] w fun e w' => e = .returned (.tuple #[.agg #[.int .u64 p0, .int .u64 p1, .int .u64 x0, .int .u64 x1], .agg #[.int .u64 n0, .int .u64 n1]]) ∧ Stp w0 w (fun k => k = gi ∨ k = gx) w'
      ∧ w'.heap[gf]? = some (.cells #[.int .i64 f] 3 (0, 0)) ∧ w'.heap[gi]? = some (.cells #[.int .i64 (i / 2)] 3 (0, 0)) ∧ w'.heap[gx]? = some (.cells #[.int .u64 n0, .int .u64 n1] 36 (0, 0)) := by
  have hu36 := Tryd.underlying36
  have hu48 := Tryd.underlying48
  have HRG := aj hG
  have A := aj h
  have ac := aj bf
  have ae := aj bi
  have aa := aj bx
  have nfx : gf ≠ gx := blk_ne bf bx (by decide)
  have nix : gi ≠ gx := blk_ne bi bx (by decide)
  have aq := aj nfi
  have a4 := aj nfi.symm
  have aC := aj nfx
  have a5 := aj nfx.symm
  have aD := aj nix
  have aI := aj nix.symm
  generalize hSS : (fun k : Nat => k = gi ∨ k = gx) = S
  have be : Aside0 (w0.heap.size ≤ gi ∧ (S gi ∨ w.heap.size ≤ gi)) := ⟨hgi, .inl (hSS ▸ .inl rfl)⟩
  have a7 : Aside0 (w0.heap.size ≤ gx ∧ (S gx ∨ w.heap.size ≤ gx)) := ⟨hgx, .inl (hSS ▸ .inr rfl)⟩
  have HS : Aside0 (Stp w0 w S w) := ⟨hS, Kept.refl _ _⟩
  clear h hG hS bf bi bx nfi nfx nix hgf hgi hgx hSS
  obtain ⟨a8, a9⟩ := bc1 ac
  obtain ⟨aS, aT⟩ := bc1 ae
  have ax := bq_ aa 0
  have ay := blk_frozen aa.out 0
  have az := bq_ aa 1
  have aA := blk_frozen aa.out 1
  have bJ := aq.out
  have bK := aC.out
  have bL := a4.out
  have bM := aD.out
  have bN := a5.out
  have bO := aI.out
  go_enter Tryd.func64, Tryd.ntmps64
  go_wp2_with (first
    | ((with_reducible refine gate_dst (N := 4) rfl ?_); refine box_event ?hg (N := 4) ?hd (cs := #[.int .u64 p0, .int .u64 p1]) (t := 36) ?hr ?_; (case hd => rfl); (case hg => rfl); (case hr => first | (go_simp; done) | (go_simp; rfl)); intro gp xg w1 y_ hb; clear a8 a9 aS aT ax ay az aA; have bh := aj (new_ne ac.out xg); have bP := aj bh.out.symm; have bj := aj (new_ne ae.out xg); have bl := aj bj.out.symm; have bm := aj (new_ne aa.out xg); have bn := aj bm.out.symm; have dc := aj (stp_new HS.out xg); replace ac := aj (show w1.heap[gf]? = some (.cells #[.int .i64 f] 3 (0, 0)) from blk_below ac.out hb); replace ae := aj (show w1.heap[gi]? = some (.cells #[.int .i64 i] 3 (0, 0)) from blk_below ae.out hb); replace aa := aj (show w1.heap[gx]? = some (.cells #[.int .u64 x0, .int .u64 x1] 36 (0, 0)) from blk_below aa.out hb); replace HS := aj (show Stp w0 w S w1 from stp_below HS.out hb); have ah := aj y_; clear xg y_ hb; skip)
    | ((with_reducible refine gate_dst (N := 5) rfl ?_); refine box_event ?hg (N := 5) ?hd (cs := #[.int .u64 0, .int .u64 0, .int .u64 0, .int .u64 0]) (t := 48) ?hr ?_; (case hd => rfl); (case hg => rfl); (case hr => first | (go_simp; done) | (go_simp; rfl)); intro g5 xg w2 y_ hb; skip; have ar := aj (new_ne ac.out xg); have bQ := aj ar.out.symm; have au := aj (new_ne ae.out xg); have bo := aj au.out.symm; have ak := aj (new_ne aa.out xg); have bp := aj ak.out.symm; have bq := aj (new_ne ah.out xg); have bR := aj bq.out.symm; have bB := aj (stp_new HS.out xg); replace ac := aj (show w2.heap[gf]? = some (.cells #[.int .i64 f] 3 (0, 0)) from blk_below ac.out hb); replace ae := aj (show w2.heap[gi]? = some (.cells #[.int .i64 i] 3 (0, 0)) from blk_below ae.out hb); replace aa := aj (show w2.heap[gx]? = some (.cells #[.int .u64 x0, .int .u64 x1] 36 (0, 0)) from blk_below aa.out hb); replace ah := aj (show w2.heap[gp]? = some (.cells #[.int .u64 p0, .int .u64 p1] 36 (0, 0)) from blk_below ah.out hb); replace HS := aj (show Stp w0 w S w2 from stp_below HS.out hb); have ai := aj y_; clear xg y_ hb; skip)
    | ((with_reducible refine gate_dst (N := 6) rfl ?_); refine box_event ?hg (N := 6) ?hd (cs := #[.int .u64 0, .int .u64 0]) (t := 36) ?hr ?_; (case hd => rfl); (case hg => rfl); (case hr => first | (go_simp; done) | (go_simp; rfl)); intro g6 xg w3 y_ hb; skip; have av := aj (new_ne ac.out xg); have br := aj av.out.symm; have aw := aj (new_ne ae.out xg); have aJ := aj aw.out.symm; have am := aj (new_ne aa.out xg); have aK := aj am.out.symm; have bs := aj (new_ne ah.out xg); have bS := aj bs.out.symm; have aL := aj (new_ne ai.out xg); have aB := aj aL.out.symm; have bg := aj (stp_new HS.out xg); replace ac := aj (show w3.heap[gf]? = some (.cells #[.int .i64 f] 3 (0, 0)) from blk_below ac.out hb); replace ae := aj (show w3.heap[gi]? = some (.cells #[.int .i64 i] 3 (0, 0)) from blk_below ae.out hb); replace aa := aj (show w3.heap[gx]? = some (.cells #[.int .u64 x0, .int .u64 x1] 36 (0, 0)) from blk_below aa.out hb); replace ah := aj (show w3.heap[gp]? = some (.cells #[.int .u64 p0, .int .u64 p1] 36 (0, 0)) from blk_below ah.out hb); replace ai := aj (show w3.heap[g5]? = some (.cells #[.int .u64 0, .int .u64 0, .int .u64 0, .int .u64 0] 48 (0, 0)) from blk_below ai.out hb); replace HS := aj (show Stp w0 w S w3 from stp_below HS.out hb); have ab := aj y_; clear xg y_ hb; have ax := bq_ aa 0; have ay := blk_frozen aa.out 0; have az := bq_ aa 1; have aA := blk_frozen aa.out 1; have bC := bq_ ah 0; have bD := blk_frozen ah.out 0; have bE := bq_ ah 1; have bF := blk_frozen ah.out 1)
    | ((with_reducible refine gate_dst (N := 7) rfl ?_); refine box_event ?hg (N := 7) ?hd (cs := #[.int .u64 0, .int .u64 0, .int .u64 0, .int .u64 0]) (t := 48) ?hr ?_; (case hd => rfl); (case hg => rfl); (case hr => first | (go_simp; done) | (go_simp; rfl)); intro g7 xg w4 y_ hb; clear ax ay az aA bC bD bE bF; have aM := aj (new_ne ac.out xg); have bT := aj aM.out.symm; have aN := aj (new_ne ae.out xg); have bu := aj aN.out.symm; have aO := aj (new_ne aa.out xg); have bv := aj aO.out.symm; have aP := aj (new_ne ah.out xg); have bU := aj aP.out.symm; have aQ := aj (new_ne ai.out xg); have ag := aj aQ.out.symm; have aR := aj (new_ne ab.out xg); have ao := aj aR.out.symm; have a6 := aj (stp_new HS.out xg); replace ac := aj (show w4.heap[gf]? = some (.cells #[.int .i64 f] 3 (0, 0)) from blk_below ac.out hb); replace ae := aj (show w4.heap[gi]? = some (.cells #[.int .i64 i] 3 (0, 0)) from blk_below ae.out hb); replace aa := aj (show w4.heap[gx]? = some (.cells #[.int .u64 x0, .int .u64 x1] 36 (0, 0)) from blk_below aa.out hb); replace ah := aj (show w4.heap[gp]? = some (.cells #[.int .u64 p0, .int .u64 p1] 36 (0, 0)) from blk_below ah.out hb); replace ai := aj (show w4.heap[g5]? = some (.cells #[.int .u64 0, .int .u64 0, .int .u64 0, .int .u64 0] 48 (0, 0)) from blk_below ai.out hb); replace ab := aj (show w4.heap[g6]? = some (.cells #[.int .u64 0, .int .u64 0] 36 (0, 0)) from blk_below ab.out hb); replace HS := aj (show Stp w0 w S w4 from stp_below HS.out hb); have af := aj y_; clear xg y_ hb; have aU := bq_ af 0; have aV := blk_frozen af.out 0; have aW := bq_ af 1; have aX := blk_frozen af.out 1; have aY := bq_ af 2; have aZ := blk_frozen af.out 2; have a2 := bq_ af 3; have a3 := blk_frozen af.out 3)
    | ((with_reducible refine gate_store (t := 48) (p := 7) rfl ?_); refine store_event (t := 48) (p := 7) (v := .tmp 10) (w1 := ((((w4.setCell ⟨g7, 0, none⟩ (.int .u64 x0)).setCell ⟨g7, 1, none⟩ (.int .u64 x1)).setCell ⟨g7, 2, none⟩ (.int .u64 p0)).setCell ⟨g7, 3, none⟩ (.int .u64 p1))) ?hg ?ho ?hn ?hr ?_; (case ho => rfl); (case hg => rfl); (case hn => rfl); (case hr => first | (go_simp; done) | (go_simp; rfl)); intro w5 hw; clear aU aV aW aX aY aZ a2 a3; replace ac := aj (show w5.heap[gf]? = some (.cells #[.int .i64 f] 3 (0, 0)) from (by rw [hw]; (repeat (refine blk_far ?_ aM.out _)); exact ac.out)); replace ae := aj (show w5.heap[gi]? = some (.cells #[.int .i64 i] 3 (0, 0)) from (by rw [hw]; (repeat (refine blk_far ?_ aN.out _)); exact ae.out)); replace aa := aj (show w5.heap[gx]? = some (.cells #[.int .u64 x0, .int .u64 x1] 36 (0, 0)) from (by rw [hw]; (repeat (refine blk_far ?_ aO.out _)); exact aa.out)); replace ah := aj (show w5.heap[gp]? = some (.cells #[.int .u64 p0, .int .u64 p1] 36 (0, 0)) from (by rw [hw]; (repeat (refine blk_far ?_ aP.out _)); exact ah.out)); replace ai := aj (show w5.heap[g5]? = some (.cells #[.int .u64 0, .int .u64 0, .int .u64 0, .int .u64 0] 48 (0, 0)) from (by rw [hw]; (repeat (refine blk_far ?_ aQ.out _)); exact ai.out)); replace ab := aj (show w5.heap[g6]? = some (.cells #[.int .u64 0, .int .u64 0] 36 (0, 0)) from (by rw [hw]; (repeat (refine blk_far ?_ aR.out _)); exact ab.out)); replace af := aj (show w5.heap[g7]? = some (.cells #[.int .u64 x0, .int .u64 x1, .int .u64 p0, .int .u64 p1] 48 (0, 0)) from (by rw [hw]; exact (blk_put (cs := #[.int .u64 x0, .int .u64 x1, .int .u64 p0, .int .u64 0]) (blk_put (cs := #[.int .u64 x0, .int .u64 x1, .int .u64 0, .int .u64 0]) (blk_put (cs := #[.int .u64 x0, .int .u64 0, .int .u64 0, .int .u64 0]) (blk_put (cs := #[.int .u64 0, .int .u64 0, .int .u64 0, .int .u64 0]) af.out 0 (.int .u64 x0) rfl) 1 (.int .u64 x1) rfl) 2 (.int .u64 p0) rfl) 3 (.int .u64 p1) rfl))); replace HS := aj (show Stp w0 w S w5 from (by rw [hw]; exact (stp_set (stp_set (stp_set (stp_set HS.out a6.out 0 (.int .u64 x0)) a6.out 1 (.int .u64 x1)) a6.out 2 (.int .u64 p0)) a6.out 3 (.int .u64 p1)))); clear hw; have aS := bq_ ae 0; have aT := blk_frozen ae.out 0; have ax := bq_ aa 0; have ay := blk_frozen aa.out 0; have az := bq_ aa 1; have aA := blk_frozen aa.out 1; have bC := bq_ ah 0; have bD := blk_frozen ah.out 0; have bE := bq_ ah 1; have bF := blk_frozen ah.out 1; have aU := bq_ af 0; have aV := blk_frozen af.out 0; have aW := bq_ af 1; have aX := blk_frozen af.out 1; have aY := bq_ af 2; have aZ := blk_frozen af.out 2; have a2 := bq_ af 3; have a3 := blk_frozen af.out 3)
    | ((with_reducible refine gate_store (t := 48) (p := 7) rfl ?_); refine store_event (t := 48) (p := 7) (v := .tmp 16) (w1 := ((((w5.setCell ⟨g7, 0, none⟩ (.int .u64 p0)).setCell ⟨g7, 1, none⟩ (.int .u64 p1)).setCell ⟨g7, 2, none⟩ (.int .u64 x0)).setCell ⟨g7, 3, none⟩ (.int .u64 x1))) ?hg ?ho ?hn ?hr ?_; (case ho => rfl); (case hg => rfl); (case hn => rfl); (case hr => first | (go_simp; done) | (go_simp; rfl)); intro w6 hw; clear aS aT ax ay az aA bC bD bE bF aU aV aW aX aY aZ a2 a3; replace ac := aj (show w6.heap[gf]? = some (.cells #[.int .i64 f] 3 (0, 0)) from (by rw [hw]; (repeat (refine blk_far ?_ aM.out _)); exact ac.out)); replace ae := aj (show w6.heap[gi]? = some (.cells #[.int .i64 i] 3 (0, 0)) from (by rw [hw]; (repeat (refine blk_far ?_ aN.out _)); exact ae.out)); replace aa := aj (show w6.heap[gx]? = some (.cells #[.int .u64 x0, .int .u64 x1] 36 (0, 0)) from (by rw [hw]; (repeat (refine blk_far ?_ aO.out _)); exact aa.out)); replace ah := aj (show w6.heap[gp]? = some (.cells #[.int .u64 p0, .int .u64 p1] 36 (0, 0)) from (by rw [hw]; (repeat (refine blk_far ?_ aP.out _)); exact ah.out)); replace ai := aj (show w6.heap[g5]? = some (.cells #[.int .u64 0, .int .u64 0, .int .u64 0, .int .u64 0] 48 (0, 0)) from (by rw [hw]; (repeat (refine blk_far ?_ aQ.out _)); exact ai.out)); replace ab := aj (show w6.heap[g6]? = some (.cells #[.int .u64 0, .int .u64 0] 36 (0, 0)) from (by rw [hw]; (repeat (refine blk_far ?_ aR.out _)); exact ab.out)); replace af := aj (show w6.heap[g7]? = some (.cells #[.int .u64 p0, .int .u64 p1, .int .u64 x0, .int .u64 x1] 48 (0, 0)) from (by rw [hw]; exact (blk_put (cs := #[.int .u64 p0, .int .u64 p1, .int .u64 x0, .int .u64 p1]) (blk_put (cs := #[.int .u64 p0, .int .u64 p1, .int .u64 p0, .int .u64 p1]) (blk_put (cs := #[.int .u64 p0, .int .u64 x1, .int .u64 p0, .int .u64 p1]) (blk_put (cs := #[.int .u64 x0, .int .u64 x1, .int .u64 p0, .int .u64 p1]) af.out 0 (.int .u64 p0) rfl) 1 (.int .u64 p1) rfl) 2 (.int .u64 x0) rfl) 3 (.int .u64 x1) rfl))); replace HS := aj (show Stp w0 w S w6 from (by rw [hw]; exact (stp_set (stp_set (stp_set (stp_set HS.out a6.out 0 (.int .u64 p0)) a6.out 1 (.int .u64 p1)) a6.out 2 (.int .u64 x0)) a6.out 3 (.int .u64 x1)))); clear hw; have aS := bq_ ae 0; have aT := blk_frozen ae.out 0)
    | ((with_reducible refine gate_store (t := 3) (p := 2) rfl ?_); refine store_event (t := 3) (p := 2) (v := .tmp 18) (w1 := (w6.setCell ⟨gi, 0, none⟩ (.int .i64 (i / 2)))) ?hg ?ho ?hn ?hr ?_; (case ho => rfl); (case hg => rfl); (case hn => rfl); (case hr => first | (go_simp; done) | (go_simp; rfl)); intro w7 hw; clear aS aT; replace ac := aj (show w7.heap[gf]? = some (.cells #[.int .i64 f] 3 (0, 0)) from (by rw [hw]; (repeat (refine blk_far ?_ aq.out _)); exact ac.out)); replace ae := aj (show w7.heap[gi]? = some (.cells #[.int .i64 (i / 2)] 3 (0, 0)) from (by rw [hw]; exact (blk_put (cs := #[.int .i64 i]) ae.out 0 (.int .i64 (i / 2)) rfl))); replace aa := aj (show w7.heap[gx]? = some (.cells #[.int .u64 x0, .int .u64 x1] 36 (0, 0)) from (by rw [hw]; (repeat (refine blk_far ?_ aI.out _)); exact aa.out)); replace ah := aj (show w7.heap[gp]? = some (.cells #[.int .u64 p0, .int .u64 p1] 36 (0, 0)) from (by rw [hw]; (repeat (refine blk_far ?_ bl.out _)); exact ah.out)); replace ai := aj (show w7.heap[g5]? = some (.cells #[.int .u64 0, .int .u64 0, .int .u64 0, .int .u64 0] 48 (0, 0)) from (by rw [hw]; (repeat (refine blk_far ?_ bo.out _)); exact ai.out)); replace ab := aj (show w7.heap[g6]? = some (.cells #[.int .u64 0, .int .u64 0] 36 (0, 0)) from (by rw [hw]; (repeat (refine blk_far ?_ aJ.out _)); exact ab.out)); replace af := aj (show w7.heap[g7]? = some (.cells #[.int .u64 p0, .int .u64 p1, .int .u64 x0, .int .u64 x1] 48 (0, 0)) from (by rw [hw]; (repeat (refine blk_far ?_ bu.out _)); exact af.out)); replace HS := aj (show Stp w0 w S w7 from (by rw [hw]; exact (stp_set HS.out be.out 0 (.int .i64 (i / 2))))); clear hw; have a8 := bq_ ac 0; have a9 := blk_frozen ac.out 0; have aU := bq_ af 0; have aV := blk_frozen af.out 0; have aW := bq_ af 1; have aX := blk_frozen af.out 1; have aY := bq_ af 2; have aZ := blk_frozen af.out 2; have a2 := bq_ af 3; have a3 := blk_frozen af.out 3)
    | (go_at_call 36; (with_reducible refine (sponge_Node.calls 200 f p0 p1 x0 x1 n0 n1 _ (GL.below HRG.out (stp_b HS.out)) A.out).mono ?_); rintro e w8 ⟨rfl, hb⟩; clear a8 a9 aU aV aW aX aY aZ a2 a3; replace ac := aj (show w8.heap[gf]? = some (.cells #[.int .i64 f] 3 (0, 0)) from blk_below ac.out hb); replace ae := aj (show w8.heap[gi]? = some (.cells #[.int .i64 (i / 2)] 3 (0, 0)) from blk_below ae.out hb); replace aa := aj (show w8.heap[gx]? = some (.cells #[.int .u64 x0, .int .u64 x1] 36 (0, 0)) from blk_below aa.out hb); replace ah := aj (show w8.heap[gp]? = some (.cells #[.int .u64 p0, .int .u64 p1] 36 (0, 0)) from blk_below ah.out hb); replace ai := aj (show w8.heap[g5]? = some (.cells #[.int .u64 0, .int .u64 0, .int .u64 0, .int .u64 0] 48 (0, 0)) from blk_below ai.out hb); replace ab := aj (show w8.heap[g6]? = some (.cells #[.int .u64 0, .int .u64 0] 36 (0, 0)) from blk_below ab.out hb); replace af := aj (show w8.heap[g7]? = some (.cells #[.int .u64 p0, .int .u64 p1, .int .u64 x0, .int .u64 x1] 48 (0, 0)) from blk_below af.out hb); replace HS := aj (show Stp w0 w S w8 from stp_below HS.out hb); clear hb; have ax := bq_ aa 0; have ay := blk_frozen aa.out 0; have az := bq_ aa 1; have aA := blk_frozen aa.out 1)
    | ((with_reducible refine gate_store (t := 36) (p := 1) rfl ?_); refine store_event (t := 36) (p := 1) (v := .tmp 24) (w1 := ((w8.setCell ⟨gx, 0, none⟩ (.int .u64 n0)).setCell ⟨gx, 1, none⟩ (.int .u64 n1))) ?hg ?ho ?hn ?hr ?_; (case ho => rfl); (case hg => rfl); (case hn => rfl); (case hr => first | (go_simp; done) | (go_simp; rfl)); intro w9 hw; clear ax ay az aA; replace ac := aj (show w9.heap[gf]? = some (.cells #[.int .i64 f] 3 (0, 0)) from (by rw [hw]; (repeat (refine blk_far ?_ aC.out _)); exact ac.out)); replace ae := aj (show w9.heap[gi]? = some (.cells #[.int .i64 (i / 2)] 3 (0, 0)) from (by rw [hw]; (repeat (refine blk_far ?_ aD.out _)); exact ae.out)); replace aa := aj (show w9.heap[gx]? = some (.cells #[.int .u64 n0, .int .u64 n1] 36 (0, 0)) from (by rw [hw]; exact (blk_put (cs := #[.int .u64 n0, .int .u64 x1]) (blk_put (cs := #[.int .u64 x0, .int .u64 x1]) aa.out 0 (.int .u64 n0) rfl) 1 (.int .u64 n1) rfl))); replace ah := aj (show w9.heap[gp]? = some (.cells #[.int .u64 p0, .int .u64 p1] 36 (0, 0)) from (by rw [hw]; (repeat (refine blk_far ?_ bn.out _)); exact ah.out)); replace ai := aj (show w9.heap[g5]? = some (.cells #[.int .u64 0, .int .u64 0, .int .u64 0, .int .u64 0] 48 (0, 0)) from (by rw [hw]; (repeat (refine blk_far ?_ bp.out _)); exact ai.out)); replace ab := aj (show w9.heap[g6]? = some (.cells #[.int .u64 0, .int .u64 0] 36 (0, 0)) from (by rw [hw]; (repeat (refine blk_far ?_ aK.out _)); exact ab.out)); replace af := aj (show w9.heap[g7]? = some (.cells #[.int .u64 p0, .int .u64 p1, .int .u64 x0, .int .u64 x1] 48 (0, 0)) from (by rw [hw]; (repeat (refine blk_far ?_ bv.out _)); exact af.out)); replace HS := aj (show Stp w0 w S w9 from (by rw [hw]; exact (stp_set (stp_set HS.out a7.out 0 (.int .u64 n0)) a7.out 1 (.int .u64 n1)))); clear hw; skip))
  skip
  replace ac : Aside0 (w9.drew.heap[gf]? = some (.cells #[.int .i64 f] 3 (0, 0))) := ⟨ac.out⟩
  replace ae : Aside0 (w9.drew.heap[gi]? = some (.cells #[.int .i64 (i / 2)] 3 (0, 0))) := ⟨ae.out⟩
  replace aa : Aside0 (w9.drew.heap[gx]? = some (.cells #[.int .u64 n0, .int .u64 n1] 36 (0, 0))) := ⟨aa.out⟩
  replace ah : Aside0 (w9.drew.heap[gp]? = some (.cells #[.int .u64 p0, .int .u64 p1] 36 (0, 0))) := ⟨ah.out⟩
  replace ai : Aside0 (w9.drew.heap[g5]? = some (.cells #[.int .u64 0, .int .u64 0, .int .u64 0, .int .u64 0] 48 (0, 0))) := ⟨ai.out⟩
  replace ab : Aside0 (w9.drew.heap[g6]? = some (.cells #[.int .u64 0, .int .u64 0] 36 (0, 0))) := ⟨ab.out⟩
  replace af : Aside0 (w9.drew.heap[g7]? = some (.cells #[.int .u64 p0, .int .u64 p1, .int .u64 x0, .int .u64 x1] 48 (0, 0))) := ⟨af.out⟩
  replace HS : Aside0 (Stp w0 w S w9.drew) := ⟨stp_drew HS.out⟩
  refine start_ (n := 4) (S := fun w' => w'.cell? ⟨g7, 0, none⟩ = some (.int .u64 p0) ∧ w'.cell? ⟨g7, 1, none⟩ = some (.int .u64 p1) ∧ w'.cell? ⟨g7, 2, none⟩ = some (.int .u64 x0) ∧ w'.cell? ⟨g7, 3, none⟩ = some (.int .u64 x1) ∧ w'.cell? ⟨gx, 0, none⟩ = some (.int .u64 n0) ∧ w'.cell? ⟨gx, 1, none⟩ = some (.int .u64 n1)) (ds := []) #[false, false, false, false] (by kernel_rfl) rfl rfl ⟨(blk_cell af.out 0).trans rfl, (blk_cell af.out 1).trans rfl, (blk_cell af.out 2).trans rfl, (blk_cell af.out 3).trans rfl, (blk_cell aa.out 0).trans rfl, (blk_cell aa.out 1).trans rfl⟩ (fun hHeld => ?_)
  generalize w9.drew = de at ac ae aa ah ai ab af HS hHeld ⊢
  refine take_ (i := 0) (N := some 25) (v := ?_) (a' := ?_) #[true, false, false, false] rfl rfl (by kernel_rfl) (fun _ _ _ h => h) (Or.inl ⟨by rfl, ?_⟩) hHeld ?_ ?_
  rotate_left
  · rintro w' ⟨s0, s1, s2, s3, s4, s5⟩
    go_simp
    with_reducible rfl
  rotate_left
  · simp only [Act.put, List.setIfInBounds_toArray, List.set_cons_zero, List.set_cons_succ, i64_w, i32_w]
    rfl
  refine take_ (i := 1) (N := some 26) (v := ?_) (a' := ?_) #[true, true, false, false] rfl rfl (by kernel_rfl) (fun _ _ _ h => h) (Or.inl ⟨by rfl, ?_⟩) hHeld ?_ ?_
  rotate_left
  · rintro w' ⟨s0, s1, s2, s3, s4, s5⟩
    go_simp
    with_reducible rfl
  rotate_left
  · simp only [Act.put, List.setIfInBounds_toArray, List.set_cons_zero, List.set_cons_succ, i64_w, i32_w]
    rfl
  have bJ := aq.out
  have bK := aC.out
  have cg := bh.out
  have ci := ar.out
  have cj := av.out
  have ck := aM.out
  have bL := a4.out
  have bM := aD.out
  have cl := bj.out
  have cm := au.out
  have cn := aw.out
  have co := aN.out
  have bN := a5.out
  have bO := aI.out
  have cp := bm.out
  have cq := ak.out
  have cr := am.out
  have ct := aO.out
  have cu := bP.out
  have cv := bl.out
  have cw := bn.out
  have cx := bq.out
  have cy := bs.out
  have cz := aP.out
  have cA := bQ.out
  have cB := bo.out
  have cC := bp.out
  have cD := bR.out
  have cE := aL.out
  have cF := aQ.out
  have cG := br.out
  have cH := aJ.out
  have cI := aK.out
  have cJ := bS.out
  have cK := aB.out
  have cL := aR.out
  have cM := bT.out
  have cN := bu.out
  have cO := bv.out
  have cP := bU.out
  have cQ := ag.out
  have cR := ao.out
  refine one_ (i := 2) (N := none) #[true, true, true, false] rfl rfl (by kernel_rfl) (by decide) (fun K hK => ?_)
  have cT := bq_ ai 0
  have cU := blk_frozen ai.out 0
  have cV := bq_ ai 1
  have cW := blk_frozen ai.out 1
  have cX := bq_ ai 2
  have cY := blk_frozen ai.out 2
  have cZ := bq_ ai 3
  have c0 := blk_frozen ai.out 3
  refine skip_ (w1 := ?_) (by rfl) rfl ?_ ?_
  rotate_left
  · go_simp
    rfl
  refine hK.out _ _ ⟨(cell_far (p := ⟨g5, _, none⟩) ag.out _).trans ((cell_far (p := ⟨g5, _, none⟩) ag.out _).trans ((cell_far (p := ⟨g5, _, none⟩) ag.out _).trans ((cell_far (p := ⟨g5, _, none⟩) ag.out _).trans (hHeld.1)))), (cell_far (p := ⟨g5, _, none⟩) ag.out _).trans ((cell_far (p := ⟨g5, _, none⟩) ag.out _).trans ((cell_far (p := ⟨g5, _, none⟩) ag.out _).trans ((cell_far (p := ⟨g5, _, none⟩) ag.out _).trans (hHeld.2.1)))), (cell_far (p := ⟨g5, _, none⟩) ag.out _).trans ((cell_far (p := ⟨g5, _, none⟩) ag.out _).trans ((cell_far (p := ⟨g5, _, none⟩) ag.out _).trans ((cell_far (p := ⟨g5, _, none⟩) ag.out _).trans (hHeld.2.2.1)))), (cell_far (p := ⟨g5, _, none⟩) ag.out _).trans ((cell_far (p := ⟨g5, _, none⟩) ag.out _).trans ((cell_far (p := ⟨g5, _, none⟩) ag.out _).trans ((cell_far (p := ⟨g5, _, none⟩) ag.out _).trans (hHeld.2.2.2.1)))), (cell_far (p := ⟨g5, _, none⟩) ak.out _).trans ((cell_far (p := ⟨g5, _, none⟩) ak.out _).trans ((cell_far (p := ⟨g5, _, none⟩) ak.out _).trans ((cell_far (p := ⟨g5, _, none⟩) ak.out _).trans (hHeld.2.2.2.2.1)))), (cell_far (p := ⟨g5, _, none⟩) ak.out _).trans ((cell_far (p := ⟨g5, _, none⟩) ak.out _).trans ((cell_far (p := ⟨g5, _, none⟩) ak.out _).trans ((cell_far (p := ⟨g5, _, none⟩) ak.out _).trans (hHeld.2.2.2.2.2))))⟩ (fun hHeld => ?_)
  refine one_ (i := 3) (N := none) #[true, true, true, true] rfl rfl (by kernel_rfl) (by decide) (fun K hK => ?_)
  have aE := bq_ ab 0
  have aF := blk_frozen ab.out 0
  have aG := bq_ ab 1
  have aH := blk_frozen ab.out 1
  refine skip_ (w1 := ?_) (by rfl) rfl ?_ ?_
  rotate_left
  · go_simp
    rfl
  refine hK.out _ _ ⟨(cell_far (p := ⟨g6, _, none⟩) ao.out _).trans ((cell_far (p := ⟨g6, _, none⟩) ao.out _).trans (hHeld.1)), (cell_far (p := ⟨g6, _, none⟩) ao.out _).trans ((cell_far (p := ⟨g6, _, none⟩) ao.out _).trans (hHeld.2.1)), (cell_far (p := ⟨g6, _, none⟩) ao.out _).trans ((cell_far (p := ⟨g6, _, none⟩) ao.out _).trans (hHeld.2.2.1)), (cell_far (p := ⟨g6, _, none⟩) ao.out _).trans ((cell_far (p := ⟨g6, _, none⟩) ao.out _).trans (hHeld.2.2.2.1)), (cell_far (p := ⟨g6, _, none⟩) am.out _).trans ((cell_far (p := ⟨g6, _, none⟩) am.out _).trans (hHeld.2.2.2.2.1)), (cell_far (p := ⟨g6, _, none⟩) am.out _).trans ((cell_far (p := ⟨g6, _, none⟩) am.out _).trans (hHeld.2.2.2.2.2))⟩ (fun hHeld => ?_)
  refine done_ (by kernel_rfl) ?_
  try go_wp2
  refine bodyPost_ret (results_list (rs := [.cell 5 48, .cell 6 36]) rfl (by simp) (.cell g5 48 #[.int .u64 p0, .int .u64 p1, .int .u64 x0, .int .u64 x1] (0, 0) _ rfl (blk_far (blk_far (blk_put (cs := #[.int .u64 p0, .int .u64 p1, .int .u64 x0, .int .u64 0]) (blk_put (cs := #[.int .u64 p0, .int .u64 p1, .int .u64 0, .int .u64 0]) (blk_put (cs := #[.int .u64 p0, .int .u64 0, .int .u64 0, .int .u64 0]) (blk_put (cs := #[.int .u64 0, .int .u64 0, .int .u64 0, .int .u64 0]) ai.out 0 (.int .u64 p0) rfl) 1 (.int .u64 p1) rfl) 2 (.int .u64 x0) rfl) 3 (.int .u64 x1) rfl) aL.out _) aL.out _) Tryd.underlying48 rfl (by kernel_rfl) (.cell g6 36 #[.int .u64 n0, .int .u64 n1] (0, 0) _ rfl (blk_put (cs := #[.int .u64 n0, .int .u64 0]) (blk_put (cs := #[.int .u64 0, .int .u64 0]) (blk_far (blk_far (blk_far (blk_far ab.out aB.out _) aB.out _) aB.out _) aB.out _) 0 (.int .u64 n0) rfl) 1 (.int .u64 n1) rfl) Tryd.underlying36 rfl (by kernel_rfl) .nil))) rfl ?_
  exact ⟨rfl, (stp_set (stp_set (stp_set (stp_set (stp_set (stp_set HS.out bB.out 0 (.int .u64 p0)) bB.out 1 (.int .u64 p1)) bB.out 2 (.int .u64 x0)) bB.out 3 (.int .u64 x1)) bg.out 0 (.int .u64 n0)) bg.out 1 (.int .u64 n1)), (blk_far (blk_far (blk_far (blk_far (blk_far (blk_far ac.out ar.out _) ar.out _) ar.out _) ar.out _) av.out _) av.out _), (blk_far (blk_far (blk_far (blk_far (blk_far (blk_far ae.out au.out _) au.out _) au.out _) au.out _) aw.out _) aw.out _), (blk_far (blk_far (blk_far (blk_far (blk_far (blk_far aa.out ak.out _) ak.out _) ak.out _) ak.out _) am.out _) am.out _)⟩
set_option maxHeartbeats 2000000 in
theorem climber_calls (f i x0 x1 : Int) (w : World) : Calls Tryd.prog 51 #[.int .i64 f, .int .i64 i, .agg #[.int .u64 x0, .int .u64 x1]] w fun e w' => ∃ gf gi gx : Nat, e = .returned (.func (.func 64) #[] #[.pointer (some ⟨gx, 0, none⟩), .pointer (some ⟨gi, 0, none⟩), .pointer (some ⟨gf, 0, none⟩)]) ∧ w.heap.size ≤ gf ∧ w.heap.size ≤ gi ∧ w.heap.size ≤ gx ∧ gf ≠ gi
    ∧ w'.heap[gf]? = some (.cells #[.int .i64 f] 3 (0, 0)) ∧ w'.heap[gi]? = some (.cells #[.int .i64 i] 3 (0, 0)) ∧ w'.heap[gx]? = some (.cells #[.int .u64 x0, .int .u64 x1] 36 (0, 0)) ∧ Below w.heap.size w w' := by
  have hmf : ∀ (fn : Fn) (first cap : Array Value) (w : World), (Instr.makeFunc fn first cap).run Tryd.prog w = .ok (.func fn first cap) w := fun _ _ _ _ => rfl
  obtain ⟨w0, bG⟩ : ∃ w0, w0 = w := ⟨_, rfl⟩
  generalize hSS : (fun _ : Nat => False) = S
  have HS : Aside0 (Stp w0 w S w) := ⟨by rw [bG]; exact Below.refl _ _, Kept.refl _ _⟩
  have HW := aj bG
  clear hSS bG
  go_enter Tryd.func51, Tryd.ntmps51
  go_wp2_with (first
    | ((with_reducible refine gate_dst (N := 3) rfl ?_); refine box_event ?hg (N := 3) ?hd (cs := #[.int .i64 f]) (t := 3) ?hr ?_; (case hd => rfl); (case hg => rfl); (case hr => first | (go_simp; done) | (go_simp; rfl)); intro gf xg w1 y_ hb; skip; have cc := aj (stp_new HS.out xg); replace HS := aj (show Stp w0 w S w1 from stp_below HS.out hb); have ac := aj y_; clear xg y_ hb; skip)
    | ((with_reducible refine gate_dst (N := 4) rfl ?_); refine box_event ?hg (N := 4) ?hd (cs := #[.int .i64 i]) (t := 3) ?hr ?_; (case hd => rfl); (case hg => rfl); (case hr => first | (go_simp; done) | (go_simp; rfl)); intro gi xg w2 y_ hb; skip; have aq := aj (new_ne ac.out xg); have a4 := aj aq.out.symm; have be := aj (stp_new HS.out xg); replace ac := aj (show w2.heap[gf]? = some (.cells #[.int .i64 f] 3 (0, 0)) from blk_below ac.out hb); replace HS := aj (show Stp w0 w S w2 from stp_below HS.out hb); have ae := aj y_; clear xg y_ hb; skip)
    | ((with_reducible refine gate_dst (N := 5) rfl ?_); refine box_event ?hg (N := 5) ?hd (cs := #[.int .u64 x0, .int .u64 x1]) (t := 36) ?hr ?_; (case hd => rfl); (case hg => rfl); (case hr => first | (go_simp; done) | (go_simp; rfl)); intro gx xg w3 y_ hb; skip; have aC := aj (new_ne ac.out xg); have a5 := aj aC.out.symm; have aD := aj (new_ne ae.out xg); have aI := aj aD.out.symm; have a7 := aj (stp_new HS.out xg); replace ac := aj (show w3.heap[gf]? = some (.cells #[.int .i64 f] 3 (0, 0)) from blk_below ac.out hb); replace ae := aj (show w3.heap[gi]? = some (.cells #[.int .i64 i] 3 (0, 0)) from blk_below ae.out hb); replace HS := aj (show Stp w0 w S w3 from stp_below HS.out hb); have aa := aj y_; clear xg y_ hb; skip))
  obtain rfl := HW.out
  go_ret
  exact ⟨gf, gi, gx, rfl, cc.out.1, be.out.1, a7.out.1, aq.out, ac.out, ae.out, aa.out, stp_b HS.out⟩
/-- What a climb comes to. -/
def climbL (f : Int) : Int → Int → Int → List S36 → Option (Int × Int)
  | _, x0, x1, [] => some (x0, x1)
  | i, x0, x1, d :: l => (if (Go.bits .and .i64 i 1 == 1) = true then sponge_Node.f 200 f d.f0 d.f1 x0 x1 else sponge_Node.f 200 f x0 x1 d.f0 d.f1).bind fun n => climbL f (i / 2) n.1 n.2 l
def tree_climb.f (f i x0 x1 : Int) (l : List S36) : Option (Int × Int) := climbL f i x0 x1 l
theorem drop_rd (l : List S36) (j : Nat) (h : j < l.length) : l.drop j = rd_T36 l (j : Int) :: l.drop (j + 1) := by
  rw [List.drop_eq_getElem_cons h]
  simp [rd_T36, List.getD, h]
theorem stp_ge {w0 w W : World} {S : Nat → Prop} {g : Nat} (h : Stp w0 w S W) (hg : W.heap.size ≤ g) : w0.heap.size ≤ g ∧ (S g ∨ w.heap.size ≤ g) := ⟨Nat.le_trans h.1.size hg, .inr (Nat.le_trans h.2.1 hg)⟩
set_option maxHeartbeats 8000000 in
set_option maxRecDepth 100000 in
theorem tree_climb.calls (a0 a1 bH bI : Int) (A3 : Option Addr) (c3 : Nat) (l3 : List (S36)) (r1 r2 : Int) (w : World) (da : Kd.C k36 w A3 l3.length l3) (db : l3.length ≤ c3) (hrG : GL w) (h : tree_climb.f a0 a1 bH bI l3 = some (r1, r2)) :
  Calls Tryd.prog 48 #[.int .i64 a0, .int .i64 a1, .agg #[.int .u64 bH, .int .u64 bI], .slice A3 l3.length c3] w fun e w' => e = .returned (.agg #[.int .u64 r1, .int .u64 r2]) ∧ Below w.heap.size w w' := by
 have hu36 := Tryd.underlying36
 have HRG := aj hrG
 have df := aj da
 have dh := aj db
 have HL := aj (Kd.C_max da)
 have H' : Aside0 (climbL a0 a1 bH bI (l3.drop 0) = some (r1, r2)) := ⟨h⟩
 clear da db hrG h
 obtain ⟨w0, bG⟩ : ∃ w0, w0 = w := ⟨_, rfl⟩
 generalize hSS : (fun _ : Nat => False) = S
 have HS : Aside0 (Stp w0 w S w) := ⟨by rw [bG]; exact Below.refl _ _, Kept.refl _ _⟩
 have HW := aj bG
 clear hSS bG
 go_enter Tryd.func48, Tryd.ntmps48
 go_wp2_with (first
  | ((with_reducible refine gate_dst (N := 6) rfl ?_); refine box_event ?hg (N := 6) ?hd (cs := #[.int .u64 bH, .int .u64 bI]) (t := 36) ?hr ?_; (case hd => rfl); (case hg => rfl); (case hr => first | (go_simp; done) | (go_simp; rfl)); intro g6 xg w1 y_ hb; skip; have bg := aj (stp_new HS.out xg); replace HS := aj (show Stp w0 w S w1 from stp_below HS.out hb); have ab := aj y_; clear xg y_ hb; skip)
  | ((with_reducible refine gate_dst (N := 8) rfl ?_); refine box_event ?hg (N := 8) ?hd (cs := #[.int .u64 0, .int .u64 0]) (t := 36) ?hr ?_; (case hd => rfl); (case hg => rfl); (case hr => first | (go_simp; done) | (go_simp; rfl)); intro g8 xg w2 y_ hb; skip; have bV := aj (new_ne ab.out xg); have b8 := aj bV.out.symm; have cd := aj (stp_new HS.out xg); replace ab := aj (show w2.heap[g6]? = some (.cells #[.int .u64 bH, .int .u64 bI] 36 (0, 0)) from blk_below ab.out hb); replace HS := aj (show Stp w0 w S w2 from stp_below HS.out hb); have al := aj y_; clear xg y_ hb; have aE := bq_ ab 0; have aF := blk_frozen ab.out 0; have aG := bq_ ab 1; have aH := blk_frozen ab.out 1)
  | (go_at_call 51; (with_reducible refine (climber_calls a0 a1 bH bI _).mono ?_); rintro e w3 ⟨gf, gi, gx, rfl, lf, li, lx, nfi, bf, bi, bx, hb⟩; clear aE aF aG aH; have br := aj (below_ne ab.out lf); have av := aj br.out.symm; have cS := aj (below_ne al.out lf); have b9 := aj cS.out.symm; have cc := aj (stp_ge HS.out lf); have aJ := aj (below_ne ab.out li); have aw := aj aJ.out.symm; have bW := aj (below_ne al.out li); have ca := aj bW.out.symm; have be := aj (stp_ge HS.out li); have aK := aj (below_ne ab.out lx); have am := aj aK.out.symm; have bX := aj (below_ne al.out lx); have cb := aj bX.out.symm; have a7 := aj (stp_ge HS.out lx); have aq := aj nfi; have a4 := aj nfi.symm; have aC := aj (blk_ne bf bx (by decide)); have a5 := aj (blk_ne bf bx (by decide)).symm; have aD := aj (blk_ne bi bx (by decide)); have aI := aj (blk_ne bi bx (by decide)).symm; replace ab := aj (show w3.heap[g6]? = some (.cells #[.int .u64 bH, .int .u64 bI] 36 (0, 0)) from blk_below ab.out hb); replace al := aj (show w3.heap[g8]? = some (.cells #[.int .u64 0, .int .u64 0] 36 (0, 0)) from blk_below al.out hb); replace HS := aj (show Stp w0 w S w3 from stp_below HS.out hb); have ac := aj bf; have ae := aj bi; have aa := aj bx; clear hb bf bi bx lf li lx nfi))
 go_loopg [18] (l3.length + 1) (fun kq dg w' => ∃ (j : Nat) (i x0 x1 : Int), dg = .int .i64 (j : Int) ∧ Aside0 (climbL a0 i x0 x1 (l3.drop j) = some (r1, r2)) ∧ Aside0 (kq + j = l3.length + 1) ∧ Aside0 (w'.heap[gf]? = some (.cells #[.int .i64 a0] 3 (0, 0))) ∧ Aside0 (w'.heap[gi]? = some (.cells #[.int .i64 i] 3 (0, 0))) ∧ Aside0 (w'.heap[gx]? = some (.cells #[.int .u64 x0, .int .u64 x1] 36 (0, 0))) ∧ Aside0 (w'.heap[g6]? = some (.cells #[.int .u64 x0, .int .u64 x1] 36 (0, 0))) ∧ Aside0 (w'.heap[g8]? = some (.cells #[.int .u64 0, .int .u64 0] 36 (0, 0))) ∧ Aside0 (Stp w0 w S w'))
 case atStart => exact ⟨0, a1, bH, bI, rfl, H', ⟨rfl⟩, ac, ae, aa, ab, al, HS⟩
 case round =>
  clear H' HS ac ae aa ab al
  obtain ⟨j, i, x0, x1, rfl, HA, HK, ac, ae, aa, ab, al, HS⟩ := hrel
  cases gk with
  | zero =>
   have hk := HK.out
   have hj : l3.length < j := by omega
   have c3b : decide (j < l3.length) = false := decide_eq_false (by omega)
   obtain ⟨rfl, rfl⟩ : x0 = r1 ∧ x1 = r2 := by have h1 := HA.out; rw [List.drop_eq_nil_of_le (by omega)] at h1; simpa [climbL] using h1
   clear HA
   have aE := bq_ ab 0
   have aF := blk_frozen ab.out 0
   have aG := bq_ ab 1
   have aH := blk_frozen ab.out 1
   have b3 := bq_ al 0
   have b4 := blk_frozen al.out 0
   have b5 := bq_ al 1
   have b6 := blk_frozen al.out 1
   go_wp2_with ((with_reducible refine gate_store (t := 36) (p := 8) rfl ?_); refine store_event (t := 36) (p := 8) (v := .tmp 29) (w1 := ((wr.setCell ⟨g8, 0, none⟩ (.int .u64 x0)).setCell ⟨g8, 1, none⟩ (.int .u64 x1))) ?hg ?ho ?hn ?hr ?_; (case ho => rfl); (case hg => rfl); (case hn => rfl); (case hr => first | (go_simp; done) | (go_simp; rfl)); intro w9 hw; clear aE aF aG aH b3 b4 b5 b6; replace ac := aj (show w9.heap[gf]? = some (.cells #[.int .i64 a0] 3 (0, 0)) from (by rw [hw]; (repeat (refine blk_far ?_ b9.out _)); exact ac.out)); replace ae := aj (show w9.heap[gi]? = some (.cells #[.int .i64 i] 3 (0, 0)) from (by rw [hw]; (repeat (refine blk_far ?_ ca.out _)); exact ae.out)); replace aa := aj (show w9.heap[gx]? = some (.cells #[.int .u64 x0, .int .u64 x1] 36 (0, 0)) from (by rw [hw]; (repeat (refine blk_far ?_ cb.out _)); exact aa.out)); replace ab := aj (show w9.heap[g6]? = some (.cells #[.int .u64 x0, .int .u64 x1] 36 (0, 0)) from (by rw [hw]; (repeat (refine blk_far ?_ bV.out _)); exact ab.out)); replace al := aj (show w9.heap[g8]? = some (.cells #[.int .u64 x0, .int .u64 x1] 36 (0, 0)) from (by rw [hw]; exact (blk_put (cs := #[.int .u64 x0, .int .u64 0]) (blk_put (cs := #[.int .u64 0, .int .u64 0]) al.out 0 (.int .u64 x0) rfl) 1 (.int .u64 x1) rfl))); replace HS := aj (show Stp w0 w S w9 from (by rw [hw]; exact (stp_set (stp_set HS.out cd.out 0 (.int .u64 x0)) cd.out 1 (.int .u64 x1)))); skip)
   refine bodyPost_ret (results_cell_row rfl _ _ g8 36 #[.int .u64 x0, .int .u64 x1] (0, 0) _ rfl al.out Tryd.underlying36 rfl (by kernel_rfl)) rfl ?_
   obtain rfl := HW.out
   exact ⟨rfl, stp_b HS.out⟩
  | succ k1 =>
   by_cases c3 : j < l3.length
   ·have c3b : decide (j < l3.length) = true := decide_eq_true c3
    have H := HA.out
    clear HA
    rw [drop_rd l3 j c3] at H
    simp only [climbL] at H
    obtain ⟨⟨n0, n1⟩, A0, H⟩ := Option.bind_eq_some_iff.mp H
    have H' := aj H
    clear H
    have p2 : 0 ≤ (j : Int) := by omega
    have q2 : (j : Int) < (l3.length : Int) := by omega
    have hadd : wrap64 ((j : Int) + 1) = ((j + 1 : Nat) : Int) := by have := HL.out; unfold wrap64; omega
    clear c3
    obtain ⟨ad, ea, ce, cf⟩ := at_T36 df.out (j : Int) p2 q2
    cases ea
    simp only [Int.toNat_natCast] at ce cf
    have bG := HW.out
    replace ce := ((bG ▸ stp_b HS.out : Below w.heap.size w wr).cell (World.block_lt_of_cell? w _ ce)).trans ce
    replace cf := ((bG ▸ stp_b HS.out : Below w.heap.size w wr).cell (World.block_lt_of_cell? w _ cf)).trans cf
    clear bG
    replace p2 := eq_true p2
    replace q2 := eq_true q2
    generalize rd_T36 l3 (j : Int) = dd at *
    cases ho : (Go.bits .and .i64 i 1 == 1) with
    | true =>
     rw [if_pos ho] at A0
     have A := aj A0
     have HO := aj ho
     clear A0 ho
     go_wp2_with (first
      | ((with_reducible refine gate_dst (N := 11) rfl ?_); refine box_event ?hg (N := 11) ?hd (cs := #[.int .u64 0, .int .u64 0]) (t := 36) ?hr ?_; (case hd => rfl); (case hg => rfl); (case hr => first | (go_simp; done) | (go_simp; rfl)); intro gq xg w4 y_ hb; skip; have bY := aj (new_ne ac.out xg); have bw := aj (new_ne ae.out xg); have bZ := aj bw.out.symm; have bz := aj (new_ne aa.out xg); have b0 := aj bz.out.symm; have bA := aj (new_ne ab.out xg); have b1 := aj bA.out.symm; have b2 := aj (new_ne al.out xg); have b7 := aj (stp_new HS.out xg); replace ac := aj (show w4.heap[gf]? = some (.cells #[.int .i64 a0] 3 (0, 0)) from blk_below ac.out hb); replace ae := aj (show w4.heap[gi]? = some (.cells #[.int .i64 i] 3 (0, 0)) from blk_below ae.out hb); replace aa := aj (show w4.heap[gx]? = some (.cells #[.int .u64 x0, .int .u64 x1] 36 (0, 0)) from blk_below aa.out hb); replace ab := aj (show w4.heap[g6]? = some (.cells #[.int .u64 x0, .int .u64 x1] 36 (0, 0)) from blk_below ab.out hb); replace al := aj (show w4.heap[g8]? = some (.cells #[.int .u64 0, .int .u64 0] 36 (0, 0)) from blk_below al.out hb); replace HS := aj (show Stp w0 w S w4 from stp_below HS.out hb); have ap := aj y_; clear xg y_ hb; have ba := bq_ ap 0; have bb := blk_frozen ap.out 0; have bc := bq_ ap 1; have bd := blk_frozen ap.out 1)
      | ((with_reducible refine gate_store (t := 36) (p := 11) rfl ?_); refine store_event (t := 36) (p := 11) (v := .tmp 21) (w1 := ((w4.setCell ⟨gq, 0, none⟩ (.int .u64 dd.f0)).setCell ⟨gq, 1, none⟩ (.int .u64 dd.f1))) ?hg ?ho ?hn ?hr ?_; (case ho => rfl); (case hg => rfl); (case hn => rfl); (case hr => first | (go_simp; done) | (go_simp; rfl)); intro w5 hw; clear ba bb bc bd; replace ac := aj (show w5.heap[gf]? = some (.cells #[.int .i64 a0] 3 (0, 0)) from (by rw [hw]; (repeat (refine blk_far ?_ bY.out _)); exact ac.out)); replace ae := aj (show w5.heap[gi]? = some (.cells #[.int .i64 i] 3 (0, 0)) from (by rw [hw]; (repeat (refine blk_far ?_ bw.out _)); exact ae.out)); replace aa := aj (show w5.heap[gx]? = some (.cells #[.int .u64 x0, .int .u64 x1] 36 (0, 0)) from (by rw [hw]; (repeat (refine blk_far ?_ bz.out _)); exact aa.out)); replace ab := aj (show w5.heap[g6]? = some (.cells #[.int .u64 x0, .int .u64 x1] 36 (0, 0)) from (by rw [hw]; (repeat (refine blk_far ?_ bA.out _)); exact ab.out)); replace al := aj (show w5.heap[g8]? = some (.cells #[.int .u64 0, .int .u64 0] 36 (0, 0)) from (by rw [hw]; (repeat (refine blk_far ?_ b2.out _)); exact al.out)); replace ap := aj (show w5.heap[gq]? = some (.cells #[.int .u64 dd.f0, .int .u64 dd.f1] 36 (0, 0)) from (by rw [hw]; exact (blk_put (cs := #[.int .u64 dd.f0, .int .u64 0]) (blk_put (cs := #[.int .u64 0, .int .u64 0]) ap.out 0 (.int .u64 dd.f0) rfl) 1 (.int .u64 dd.f1) rfl))); replace HS := aj (show Stp w0 w S w5 from (by rw [hw]; exact (stp_set (stp_set HS.out b7.out 0 (.int .u64 dd.f0)) b7.out 1 (.int .u64 dd.f1)))); clear hw; have ba := bq_ ap 0; have bb := blk_frozen ap.out 0; have bc := bq_ ap 1; have bd := blk_frozen ap.out 1)
      | (go_at_call 64; (with_reducible refine (climber1_odd a0 i x0 x1 dd.f0 dd.f1 n0 n1 gf gi gx w0 _ (HW.out ▸ HRG.out) (stp_b HS.out) ac.out ae.out aa.out aq.out cc.out.1 be.out.1 a7.out.1 HO.out A.out).mono ?_); rintro e w6 ⟨rfl, hs, bf, bi, bx⟩; clear ba bb bc bd; replace ac := aj (show w6.heap[gf]? = some (.cells #[.int .i64 a0] 3 (0, 0)) from bf); replace ae := aj (show w6.heap[gi]? = some (.cells #[.int .i64 (i / 2)] 3 (0, 0)) from bi); replace aa := aj (show w6.heap[gx]? = some (.cells #[.int .u64 n0, .int .u64 n1] 36 (0, 0)) from bx); replace ab := aj (show w6.heap[g6]? = some (.cells #[.int .u64 x0, .int .u64 x1] 36 (0, 0)) from blk_kept ab.out (stp_k hs) (fun h_ => h_.elim aJ.out aK.out)); replace al := aj (show w6.heap[g8]? = some (.cells #[.int .u64 0, .int .u64 0] 36 (0, 0)) from blk_kept al.out (stp_k hs) (fun h_ => h_.elim bW.out bX.out)); replace ap := aj (show w6.heap[gq]? = some (.cells #[.int .u64 dd.f0, .int .u64 dd.f1] 36 (0, 0)) from blk_kept ap.out (stp_k hs) (fun h_ => h_.elim bZ.out b0.out)); replace HS := aj (show Stp w0 w S w6 from stp_trans HS.out hs (fun g_ h_ => h_.elim (fun e_ => e_ ▸ be.out.2) (fun e_ => e_ ▸ a7.out.2))); clear hs bf bi bx; have aE := bq_ ab 0; have aF := blk_frozen ab.out 0; have aG := bq_ ab 1; have aH := blk_frozen ab.out 1)
      | ((with_reducible refine gate_store (t := 36) (p := 6) rfl ?_); refine store_event (t := 36) (p := 6) (v := .tmp 27) (w1 := ((w6.setCell ⟨g6, 0, none⟩ (.int .u64 n0)).setCell ⟨g6, 1, none⟩ (.int .u64 n1))) ?hg ?ho ?hn ?hr ?_; (case ho => rfl); (case hg => rfl); (case hn => rfl); (case hr => first | (go_simp; done) | (go_simp; rfl)); intro w7 hw; clear aE aF aG aH; replace ac := aj (show w7.heap[gf]? = some (.cells #[.int .i64 a0] 3 (0, 0)) from (by rw [hw]; (repeat (refine blk_far ?_ av.out _)); exact ac.out)); replace ae := aj (show w7.heap[gi]? = some (.cells #[.int .i64 (i / 2)] 3 (0, 0)) from (by rw [hw]; (repeat (refine blk_far ?_ aw.out _)); exact ae.out)); replace aa := aj (show w7.heap[gx]? = some (.cells #[.int .u64 n0, .int .u64 n1] 36 (0, 0)) from (by rw [hw]; (repeat (refine blk_far ?_ am.out _)); exact aa.out)); replace ab := aj (show w7.heap[g6]? = some (.cells #[.int .u64 n0, .int .u64 n1] 36 (0, 0)) from (by rw [hw]; exact (blk_put (cs := #[.int .u64 n0, .int .u64 x1]) (blk_put (cs := #[.int .u64 x0, .int .u64 x1]) ab.out 0 (.int .u64 n0) rfl) 1 (.int .u64 n1) rfl))); replace al := aj (show w7.heap[g8]? = some (.cells #[.int .u64 0, .int .u64 0] 36 (0, 0)) from (by rw [hw]; (repeat (refine blk_far ?_ b8.out _)); exact al.out)); replace ap := aj (show w7.heap[gq]? = some (.cells #[.int .u64 dd.f0, .int .u64 dd.f1] 36 (0, 0)) from (by rw [hw]; (repeat (refine blk_far ?_ b1.out _)); exact ap.out)); replace HS := aj (show Stp w0 w S w7 from (by rw [hw]; exact (stp_set (stp_set HS.out bg.out 0 (.int .u64 n0)) bg.out 1 (.int .u64 n1)))); clear hw; skip))
     go_roundg k1
     case measure => omega
     case rel => exact ⟨j + 1, i / 2, n0, n1, by rw [hadd], H', ⟨by have := HK.out; omega⟩, ac, ae, aa, ab, al, HS⟩
    | false =>
     rw [if_neg (by rw [ho]; decide)] at A0
     have A := aj A0
     have HO := aj ho
     clear A0 ho
     go_wp2_with (first
      | ((with_reducible refine gate_dst (N := 11) rfl ?_); refine box_event ?hg (N := 11) ?hd (cs := #[.int .u64 0, .int .u64 0]) (t := 36) ?hr ?_; (case hd => rfl); (case hg => rfl); (case hr => first | (go_simp; done) | (go_simp; rfl)); intro gq xg w4 y_ hb; skip; have bY := aj (new_ne ac.out xg); have bw := aj (new_ne ae.out xg); have bZ := aj bw.out.symm; have bz := aj (new_ne aa.out xg); have b0 := aj bz.out.symm; have bA := aj (new_ne ab.out xg); have b1 := aj bA.out.symm; have b2 := aj (new_ne al.out xg); have b7 := aj (stp_new HS.out xg); replace ac := aj (show w4.heap[gf]? = some (.cells #[.int .i64 a0] 3 (0, 0)) from blk_below ac.out hb); replace ae := aj (show w4.heap[gi]? = some (.cells #[.int .i64 i] 3 (0, 0)) from blk_below ae.out hb); replace aa := aj (show w4.heap[gx]? = some (.cells #[.int .u64 x0, .int .u64 x1] 36 (0, 0)) from blk_below aa.out hb); replace ab := aj (show w4.heap[g6]? = some (.cells #[.int .u64 x0, .int .u64 x1] 36 (0, 0)) from blk_below ab.out hb); replace al := aj (show w4.heap[g8]? = some (.cells #[.int .u64 0, .int .u64 0] 36 (0, 0)) from blk_below al.out hb); replace HS := aj (show Stp w0 w S w4 from stp_below HS.out hb); have ap := aj y_; clear xg y_ hb; have ba := bq_ ap 0; have bb := blk_frozen ap.out 0; have bc := bq_ ap 1; have bd := blk_frozen ap.out 1)
      | ((with_reducible refine gate_store (t := 36) (p := 11) rfl ?_); refine store_event (t := 36) (p := 11) (v := .tmp 21) (w1 := ((w4.setCell ⟨gq, 0, none⟩ (.int .u64 dd.f0)).setCell ⟨gq, 1, none⟩ (.int .u64 dd.f1))) ?hg ?ho ?hn ?hr ?_; (case ho => rfl); (case hg => rfl); (case hn => rfl); (case hr => first | (go_simp; done) | (go_simp; rfl)); intro w5 hw; clear ba bb bc bd; replace ac := aj (show w5.heap[gf]? = some (.cells #[.int .i64 a0] 3 (0, 0)) from (by rw [hw]; (repeat (refine blk_far ?_ bY.out _)); exact ac.out)); replace ae := aj (show w5.heap[gi]? = some (.cells #[.int .i64 i] 3 (0, 0)) from (by rw [hw]; (repeat (refine blk_far ?_ bw.out _)); exact ae.out)); replace aa := aj (show w5.heap[gx]? = some (.cells #[.int .u64 x0, .int .u64 x1] 36 (0, 0)) from (by rw [hw]; (repeat (refine blk_far ?_ bz.out _)); exact aa.out)); replace ab := aj (show w5.heap[g6]? = some (.cells #[.int .u64 x0, .int .u64 x1] 36 (0, 0)) from (by rw [hw]; (repeat (refine blk_far ?_ bA.out _)); exact ab.out)); replace al := aj (show w5.heap[g8]? = some (.cells #[.int .u64 0, .int .u64 0] 36 (0, 0)) from (by rw [hw]; (repeat (refine blk_far ?_ b2.out _)); exact al.out)); replace ap := aj (show w5.heap[gq]? = some (.cells #[.int .u64 dd.f0, .int .u64 dd.f1] 36 (0, 0)) from (by rw [hw]; exact (blk_put (cs := #[.int .u64 dd.f0, .int .u64 0]) (blk_put (cs := #[.int .u64 0, .int .u64 0]) ap.out 0 (.int .u64 dd.f0) rfl) 1 (.int .u64 dd.f1) rfl))); replace HS := aj (show Stp w0 w S w5 from (by rw [hw]; exact (stp_set (stp_set HS.out b7.out 0 (.int .u64 dd.f0)) b7.out 1 (.int .u64 dd.f1)))); clear hw; have ba := bq_ ap 0; have bb := blk_frozen ap.out 0; have bc := bq_ ap 1; have bd := blk_frozen ap.out 1)
      | (go_at_call 64; (with_reducible refine (climber1_even a0 i x0 x1 dd.f0 dd.f1 n0 n1 gf gi gx w0 _ (HW.out ▸ HRG.out) (stp_b HS.out) ac.out ae.out aa.out aq.out cc.out.1 be.out.1 a7.out.1 HO.out A.out).mono ?_); rintro e w6 ⟨rfl, hs, bf, bi, bx⟩; clear ba bb bc bd; replace ac := aj (show w6.heap[gf]? = some (.cells #[.int .i64 a0] 3 (0, 0)) from bf); replace ae := aj (show w6.heap[gi]? = some (.cells #[.int .i64 (i / 2)] 3 (0, 0)) from bi); replace aa := aj (show w6.heap[gx]? = some (.cells #[.int .u64 n0, .int .u64 n1] 36 (0, 0)) from bx); replace ab := aj (show w6.heap[g6]? = some (.cells #[.int .u64 x0, .int .u64 x1] 36 (0, 0)) from blk_kept ab.out (stp_k hs) (fun h_ => h_.elim aJ.out aK.out)); replace al := aj (show w6.heap[g8]? = some (.cells #[.int .u64 0, .int .u64 0] 36 (0, 0)) from blk_kept al.out (stp_k hs) (fun h_ => h_.elim bW.out bX.out)); replace ap := aj (show w6.heap[gq]? = some (.cells #[.int .u64 dd.f0, .int .u64 dd.f1] 36 (0, 0)) from blk_kept ap.out (stp_k hs) (fun h_ => h_.elim bZ.out b0.out)); replace HS := aj (show Stp w0 w S w6 from stp_trans HS.out hs (fun g_ h_ => h_.elim (fun e_ => e_ ▸ be.out.2) (fun e_ => e_ ▸ a7.out.2))); clear hs bf bi bx; have aE := bq_ ab 0; have aF := blk_frozen ab.out 0; have aG := bq_ ab 1; have aH := blk_frozen ab.out 1)
      | ((with_reducible refine gate_store (t := 36) (p := 6) rfl ?_); refine store_event (t := 36) (p := 6) (v := .tmp 27) (w1 := ((w6.setCell ⟨g6, 0, none⟩ (.int .u64 n0)).setCell ⟨g6, 1, none⟩ (.int .u64 n1))) ?hg ?ho ?hn ?hr ?_; (case ho => rfl); (case hg => rfl); (case hn => rfl); (case hr => first | (go_simp; done) | (go_simp; rfl)); intro w7 hw; clear aE aF aG aH; replace ac := aj (show w7.heap[gf]? = some (.cells #[.int .i64 a0] 3 (0, 0)) from (by rw [hw]; (repeat (refine blk_far ?_ av.out _)); exact ac.out)); replace ae := aj (show w7.heap[gi]? = some (.cells #[.int .i64 (i / 2)] 3 (0, 0)) from (by rw [hw]; (repeat (refine blk_far ?_ aw.out _)); exact ae.out)); replace aa := aj (show w7.heap[gx]? = some (.cells #[.int .u64 n0, .int .u64 n1] 36 (0, 0)) from (by rw [hw]; (repeat (refine blk_far ?_ am.out _)); exact aa.out)); replace ab := aj (show w7.heap[g6]? = some (.cells #[.int .u64 n0, .int .u64 n1] 36 (0, 0)) from (by rw [hw]; exact (blk_put (cs := #[.int .u64 n0, .int .u64 x1]) (blk_put (cs := #[.int .u64 x0, .int .u64 x1]) ab.out 0 (.int .u64 n0) rfl) 1 (.int .u64 n1) rfl))); replace al := aj (show w7.heap[g8]? = some (.cells #[.int .u64 0, .int .u64 0] 36 (0, 0)) from (by rw [hw]; (repeat (refine blk_far ?_ b8.out _)); exact al.out)); replace ap := aj (show w7.heap[gq]? = some (.cells #[.int .u64 dd.f0, .int .u64 dd.f1] 36 (0, 0)) from (by rw [hw]; (repeat (refine blk_far ?_ b1.out _)); exact ap.out)); replace HS := aj (show Stp w0 w S w7 from (by rw [hw]; exact (stp_set (stp_set HS.out bg.out 0 (.int .u64 n0)) bg.out 1 (.int .u64 n1)))); clear hw; skip))
     go_roundg k1
     case measure => omega
     case rel => exact ⟨j + 1, i / 2, n0, n1, by rw [hadd], H', ⟨by have := HK.out; omega⟩, ac, ae, aa, ab, al, HS⟩
   ·have c3b : decide (j < l3.length) = false := decide_eq_false c3
    obtain ⟨rfl, rfl⟩ : x0 = r1 ∧ x1 = r2 := by have h1 := HA.out; rw [List.drop_eq_nil_of_le (by omega)] at h1; simpa [climbL] using h1
    clear HA
    have aE := bq_ ab 0
    have aF := blk_frozen ab.out 0
    have aG := bq_ ab 1
    have aH := blk_frozen ab.out 1
    have b3 := bq_ al 0
    have b4 := blk_frozen al.out 0
    have b5 := bq_ al 1
    have b6 := blk_frozen al.out 1
    go_wp2_with ((with_reducible refine gate_store (t := 36) (p := 8) rfl ?_); refine store_event (t := 36) (p := 8) (v := .tmp 29) (w1 := ((wr.setCell ⟨g8, 0, none⟩ (.int .u64 x0)).setCell ⟨g8, 1, none⟩ (.int .u64 x1))) ?hg ?ho ?hn ?hr ?_; (case ho => rfl); (case hg => rfl); (case hn => rfl); (case hr => first | (go_simp; done) | (go_simp; rfl)); intro w9 hw; clear aE aF aG aH b3 b4 b5 b6; replace ac := aj (show w9.heap[gf]? = some (.cells #[.int .i64 a0] 3 (0, 0)) from (by rw [hw]; (repeat (refine blk_far ?_ b9.out _)); exact ac.out)); replace ae := aj (show w9.heap[gi]? = some (.cells #[.int .i64 i] 3 (0, 0)) from (by rw [hw]; (repeat (refine blk_far ?_ ca.out _)); exact ae.out)); replace aa := aj (show w9.heap[gx]? = some (.cells #[.int .u64 x0, .int .u64 x1] 36 (0, 0)) from (by rw [hw]; (repeat (refine blk_far ?_ cb.out _)); exact aa.out)); replace ab := aj (show w9.heap[g6]? = some (.cells #[.int .u64 x0, .int .u64 x1] 36 (0, 0)) from (by rw [hw]; (repeat (refine blk_far ?_ bV.out _)); exact ab.out)); replace al := aj (show w9.heap[g8]? = some (.cells #[.int .u64 x0, .int .u64 x1] 36 (0, 0)) from (by rw [hw]; exact (blk_put (cs := #[.int .u64 x0, .int .u64 0]) (blk_put (cs := #[.int .u64 0, .int .u64 0]) al.out 0 (.int .u64 x0) rfl) 1 (.int .u64 x1) rfl))); replace HS := aj (show Stp w0 w S w9 from (by rw [hw]; exact (stp_set (stp_set HS.out cd.out 0 (.int .u64 x0)) cd.out 1 (.int .u64 x1)))); skip)
    refine bodyPost_ret (results_cell_row rfl _ _ g8 36 #[.int .u64 x0, .int .u64 x1] (0, 0) _ rfl al.out Tryd.underlying36 rfl (by kernel_rfl)) rfl ?_
    obtain rfl := HW.out
    exact ⟨rfl, stp_b HS.out⟩
end Go.Proofs.YtpnpmeogffodgaaDoor.Q
end
