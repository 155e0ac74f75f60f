/- Several texts in one, in build order. What they prove, each by its own first remark:
Written by our own copy of a printing program (a twelfth state) out of the translation. Not trusted: Lean checks it.
What the listed variables of the program hold, as facts on a world that stay while only new memory is made: the numbers of the four fields; and the contracts of the functions that read them: of, P, Generator, Exponent, Twos, Of.
How what is read as an argument is told to the walks: a kind of the words for each type, and that its numbers are of their kinds.
From the card's condition on the variable 'fields' to the fact that the contracts ask.
Short names for what stands often in the printed texts (slim.py puts them there).
'==' of arrays as one Bool.
tree.proper by hand (its closure takes the field's P by reference; slices.ContainsFunc and IndexFunc at digests): what it computes, and its contract.
A cell of an array of whole numbers at a variable place. -/
import Derived.Test.YtpnpmeogffodgaaDoorProg
import Derived.Below
import Derived.Deep.Draws
import Derived.Deep.AppendLies
import Derived.Maps.AppendAt
import Derived.OwnWalk
import Derived.Laws.BytesArg
import Derived.Laws.MakeOwn
import Derived.Laws.OwnMore
import Derived.Deep.OwnRows
import Derived.Tactics
import Derived.Lib.ConvBytes
import Derived.Laws.Slices
import Derived.WalkKit
import Derived.KernelRfl
import Derived.RowKit3
import Derived.Deep.LoopGhost
import Derived.Deep.QuietTactic
import Derived.BigQuiet
import Derived.WideLaws
import Derived.Deep.DeepCutAuto
import Derived.Deep.CutBlock
import Derived.Deep.RegionHeld3
import Derived.Laws.Rows
import Derived.Lib.AppendStr
import Derived.ArgAppend
import Derived.Laws.IdiomCopy
import Derived.OrdersHeld
import Derived.Laws.BitsLemmas
import Derived.RowKit
import Derived.Test.YtpnpmeogffodgaaDoorM1
import Derived.ChangeArms
import Derived.Deep.Slices
import Derived.OpenShut
import Derived.ProofKit
import Derived.SizedLaws
import Derived.Test.YtpnpmeogffodgaaDoorRows
import Derived.LaidMore
import Derived.Lib.SmallJoins
import Derived.Stop.Joined
import Derived.ChangeKeysEq
section
namespace Go.Proofs.YtpnpmeogffodgaaDoor.Q
open Go.RowKit Go.Proofs.YtpnpmeogffodgaaDoorW.PrintWords Go.Proofs.YtpnpmeogffodgaaDoorW.PrintLast Go.Proofs.YtpnpmeogffodgaaDoorW.PrintMore
attribute [local go_sem] max2_int min2_int max_two min_two max_three min_three max_four min_four   -- for this text's walks alone
set_option linter.unusedVariables false
set_option linter.unusedSimpArgs false



def errW : Option Int → Value
  | none => .nilIface
  | some c => .iface 0 (.int .i64 c)
theorem errW_none : errW none = .nilIface := rfl
theorem errW_some (c : Int) : errW (some c) = .iface 0 (.int .i64 c) := rfl

theorem info22 : (Tryd.prog.info? 22).map (fun i => (i.zero, i.size, i.bytes)) = some (some (.slice none 0 0), 1, 24) := by kernel_rfl
theorem info36 : (Tryd.prog.info? 36).map (fun i => (i.zero, i.size, i.bytes)) = some (some (.agg #[(.int .u64 0), (.int .u64 0)]), 2, 16) := by kernel_rfl
/-- A function value: its number; nil below 0. -/
def fnV : Int → Value
  | .ofNat n => .func (.func n) #[] #[]
  | .negSucc _ => .nilFunc
def kfn : Kd Int := Kd.scalar fnV (fun x => by cases x <;> rfl)
theorem heap_fn : Kd.Heap kfn := ⟨fun _ h => h⟩
theorem run_store_fnV (P : Program) (w : World) (a : Addr) (m : Mode) (x : Int) : (store a (fnV x) m).run P w = stored P w a (fnV x) m := run_store P w a _ m (by cases x <;> rfl)
theorem run_store_fnc (P : Program) (w : World) (a : Addr) (m : Mode) (fn : Fn) (first captured : Array Value) : (store a (.func fn first captured) m).run P w = stored P w a (.func fn first captured) m := run_store P w a _ m rfl
theorem run_store_nfn (P : Program) (w : World) (a : Addr) (m : Mode) : (store a .nilFunc m).run P w = stored P w a .nilFunc m := run_store P w a _ m rfl
/-- A call of a function value. -/
theorem goesF_ {P : Program} {ops : Array Oper} {Q : Exit → Act → World → Prop} {rest : List Oper} {oi : Oper} {a : Act} {w : World} (N : Option Tmp) (hd : oi.dst = N) (hg : oi.guard = none) {f : FuncId} {fn : Func} {t : Tmp} {ar : Array Operand} {ts : Array TypeId} (hf : P.funcs[f]? = some fn) (hname : (fn.name == "runtime.NumGoroutine") = false) (hb : fn.body.isSome = true) (args : Array Value)
    (hop : oi.op = .call { callee := .value (.tmp t), args := ar, argTypes := ts }) (hfn : a.eval (.tmp t) = .func (.func f) #[] #[]) (hargs : ar.map a.eval = args)
    (h : Calls P f args w fun e w' => ∃ v, e = .returned v ∧ wpList P ops Q rest (a.put N v) w') : wpList P ops Q (oi :: rest) a w := by
  refine wpList_plain hg fun K hK => ?_
  have he := enters_ hf hname hb args w
  have hrun : (execOp a.eval oi).run P w = .ok (.enter f args) w := by
    unfold execOp
    simp [hop, resolve, Deferred.ofValue, invoke, hfn, hargs, he]
  unfold Oper.wp
  rw [hrun, Oper.upon_enter]
  refine h.mono fun e w'' hh => ?_
  obtain ⟨v, rfl, hk⟩ := hh
  subst hd
  exact hK _ _ hk
/-- A call of a function value in a region that draws. -/
theorem goesG_ {P : Program} {ops : Array Oper} {Q : Exit → Act → World → Prop} {oi : Oper} {N : Option Tmp} {a : Act} {w : World} {K : Act → World → Prop} {f : FuncId} {fn : Func} {t : Tmp} {ar : Array Operand} {ts : Array TypeId} (hf : P.funcs[f]? = some fn) (hname : (fn.name == "runtime.NumGoroutine") = false) (hb : fn.body.isSome = true) (args : Array Value)
    (hw : Region.wanted oi (yielded ops a.tmps) = true) (hN : oi.dst = N) (hop : oi.op = .call { callee := .value (.tmp t), args := ar, argTypes := ts }) (hfn : a.eval (.tmp t) = .func (.func f) #[] #[]) (hargs : ar.map a.eval = args)
    (h : Calls P f args w fun e w' => ∃ v, e = .returned v ∧ K (a.put N v) w') : if Region.wanted oi (yielded ops a.tmps) = true then Oper.wp P oi a w K Q else K (a.put N undef) w := by
  refine call_ f args hw hN ?_ h
  have he := enters_ hf hname hb args w
  unfold execOp
  simp [hop, resolve, Deferred.ofValue, invoke, hfn, hargs, he]

-- the values' own types
/-! #### struct type 36 -/
structure S36 where
  f0 : Int
  f1 : Int
def z36 : S36 := ⟨(0 : Int), (0 : Int)⟩
def k36 : Kd S36 := Kd.iso (Kd.pair (Kd.int .u64) (Kd.int .u64)) (fun x : S36 => (x.f0, x.f1))
theorem k36_open {w : World} {x : S36} {cs : List Value} (h : k36.K w x cs) : cs = [.int .u64 x.f0, .int .u64 x.f1] := by
  obtain ⟨_, _, rfl, rfl, rfl⟩ := h
  exact rfl
theorem k36_openM {w : World} {base : Nat} {ok : Nat → Prop} {x : S36} {cs : List Value} (h : k36.M w base ok x cs) : cs = [.int .u64 x.f0, .int .u64 x.f1] := by
  obtain ⟨_, _, rfl, rfl, rfl⟩ := h
  exact rfl
theorem k36_mk (w : World) (x : S36)  : k36.K w x [.int .u64 x.f0, .int .u64 x.f1] := ⟨[.int .u64 x.f0], [.int .u64 x.f1], rfl, rfl, rfl⟩
theorem k36_mkM (w : World) (base : Nat) (ok : Nat → Prop) (x : S36)  : k36.M w base ok x [.int .u64 x.f0, .int .u64 x.f1] := ⟨[.int .u64 x.f0], [.int .u64 x.f1], rfl, rfl, rfl⟩
def rd_T36 (xs : List S36) (i : Int) : S36 := xs.getD i.toNat z36
theorem at_T36 {w : World} {A : Option Addr} {n : Nat} {xs : List S36} (h : Kd.C k36 w A n xs) (i : Int) (h0 : 0 ≤ i) (h1 : i < n) : ∃ ad , A = some ad ∧ w.cell? (ad.add (i.toNat * 2)) = some (.int .u64 (rd_T36 xs i).f0) ∧ w.cell? ⟨(ad.add (i.toNat * 2)).block, (ad.add (i.toNat * 2)).off + 1, none⟩ = some (.int .u64 (rd_T36 xs i).f1) := by
  obtain ⟨ad, c, e, _, hK, hc0⟩ := Kd.C_get h z36 i h0 h1
  have hc : ∀ j u, c[j]? = some u → w.cell? (ad.add (i.toNat * 2 + j)) = some u := hc0
  obtain rfl := k36_open hK
  exact ⟨ad, e, hc 0 _ rfl, by rw [← add_field _ _ 1 (by omega)]; exact hc 1 _ rfl⟩

def rd_L3 (xs : List (List S36)) (i : Int) : (List S36) := xs.getD i.toNat ([] : List S36)
theorem at_L3 {w : World} {A : Option Addr} {n : Nat} {xs : List (List S36)} (h : Kd.C (Kd.slice 36 k36) w A n xs) (i : Int) (h0 : 0 ≤ i) (h1 : i < n) : ∃ ad A0 c0, A = some ad ∧ w.cell? (ad.add i.toNat) = some (.slice A0 (rd_L3 xs i).length c0) ∧ (rd_L3 xs i).length ≤ c0 ∧ k36.C w A0 (rd_L3 xs i).length (rd_L3 xs i) := by
  obtain ⟨ad, c, e, _, hK, hc0⟩ := Kd.C_get h ([] : List S36) i h0 h1
  have hc : ∀ j u, c[j]? = some u → w.cell? (ad.add (i.toNat * 1 + j)) = some u := hc0
  obtain ⟨A0, c0, rfl, l0, g0⟩ := hK
  exact ⟨ad, A0, c0, e, by have hq := hc 0 _ rfl; rwa [Nat.mul_one, Nat.add_zero] at hq, l0, g0⟩

def rd_L5 (xs : List (List (List S36))) (i : Int) : (List (List S36)) := xs.getD i.toNat ([] : List (List S36))
theorem at_L5 {w : World} {A : Option Addr} {n : Nat} {xs : List (List (List S36))} (h : Kd.C (Kd.slice 22 (Kd.slice 36 k36)) w A n xs) (i : Int) (h0 : 0 ≤ i) (h1 : i < n) : ∃ ad A0 c0, A = some ad ∧ w.cell? (ad.add i.toNat) = some (.slice A0 (rd_L5 xs i).length c0) ∧ (rd_L5 xs i).length ≤ c0 ∧ (Kd.slice 36 k36).C w A0 (rd_L5 xs i).length (rd_L5 xs i) := by
  obtain ⟨ad, c, e, _, hK, hc0⟩ := Kd.C_get h ([] : List (List S36)) i h0 h1
  have hc : ∀ j u, c[j]? = some u → w.cell? (ad.add (i.toNat * 1 + j)) = some u := hc0
  obtain ⟨A0, c0, rfl, l0, g0⟩ := hK
  exact ⟨ad, A0, c0, e, by have hq := hc 0 _ rfl; rwa [Nat.mul_one, Nat.add_zero] at hq, l0, g0⟩

/-! #### struct type 26 -/
structure S26 where
  f0 : Int
  f1 : Int
  f2 : Int
  f3 : (List (List S36))
def z26 : S26 := ⟨(0 : Int), (0 : Int), (0 : Int), ([] : List (List S36))⟩
def k26 : Kd S26 := Kd.iso (Kd.pair (Kd.int .i64) (Kd.pair (Kd.int .i64) (Kd.pair (Kd.int .i64) (Kd.slice 22 (Kd.slice 36 k36))))) (fun x : S26 => (x.f0, x.f1, x.f2, x.f3))
theorem k26_open {w : World} {x : S26} {cs : List Value} (h : k26.K w x cs) : ∃ A3 c3, cs = [.int .i64 x.f0, .int .i64 x.f1, .int .i64 x.f2, .slice A3 x.f3.length c3] ∧ x.f3.length ≤ c3 ∧ (Kd.slice 36 k36).C w A3 x.f3.length x.f3 := by
  obtain ⟨_, _, rfl, rfl, ⟨_, _, rfl, rfl, ⟨_, _, rfl, rfl, ⟨A3, c3, rfl, l3, g3⟩⟩⟩⟩ := h
  exact ⟨A3, c3, rfl, l3, g3⟩
theorem k26_openM {w : World} {base : Nat} {ok : Nat → Prop} {x : S26} {cs : List Value} (h : k26.M w base ok x cs) : ∃ v3, cs = [.int .i64 x.f0, .int .i64 x.f1, .int .i64 x.f2, v3] ∧ (Kd.slice 36 k36).R 22 w base ok v3 x.f3 := by
  obtain ⟨_, _, rfl, rfl, ⟨_, _, rfl, rfl, ⟨_, _, rfl, rfl, ⟨v3, rfl, g3⟩⟩⟩⟩ := h
  exact ⟨v3, rfl, g3⟩
theorem k26_mk (w : World) (x : S26) {A3 : Option Addr} {c3 : Nat} (l3 : x.f3.length ≤ c3) (g3 : (Kd.slice 36 k36).C w A3 x.f3.length x.f3) : k26.K w x [.int .i64 x.f0, .int .i64 x.f1, .int .i64 x.f2, .slice A3 x.f3.length c3] := ⟨[.int .i64 x.f0], [.int .i64 x.f1, .int .i64 x.f2, .slice A3 x.f3.length c3], rfl, rfl, ⟨[.int .i64 x.f1], [.int .i64 x.f2, .slice A3 x.f3.length c3], rfl, rfl, ⟨[.int .i64 x.f2], [.slice A3 x.f3.length c3], rfl, rfl, ⟨A3, c3, rfl, l3, g3⟩⟩⟩⟩
theorem k26_mkM (w : World) (base : Nat) (ok : Nat → Prop) (x : S26) {v3 : Value} (g3 : (Kd.slice 36 k36).R 22 w base ok v3 x.f3) : k26.M w base ok x [.int .i64 x.f0, .int .i64 x.f1, .int .i64 x.f2, v3] := ⟨[.int .i64 x.f0], [.int .i64 x.f1, .int .i64 x.f2, v3], rfl, rfl, ⟨[.int .i64 x.f1], [.int .i64 x.f2, v3], rfl, rfl, ⟨[.int .i64 x.f2], [v3], rfl, rfl, ⟨v3, rfl, g3⟩⟩⟩⟩
def rd_T26 (xs : List S26) (i : Int) : S26 := xs.getD i.toNat z26
theorem at_T26 {w : World} {A : Option Addr} {n : Nat} {xs : List S26} (h : Kd.C k26 w A n xs) (i : Int) (h0 : 0 ≤ i) (h1 : i < n) : ∃ ad A3 c3, A = some ad ∧ w.cell? (ad.add (i.toNat * 4)) = some (.int .i64 (rd_T26 xs i).f0) ∧ w.cell? ⟨(ad.add (i.toNat * 4)).block, (ad.add (i.toNat * 4)).off + 1, none⟩ = some (.int .i64 (rd_T26 xs i).f1) ∧ w.cell? ⟨(ad.add (i.toNat * 4)).block, (ad.add (i.toNat * 4)).off + 2, none⟩ = some (.int .i64 (rd_T26 xs i).f2) ∧ w.cell? ⟨(ad.add (i.toNat * 4)).block, (ad.add (i.toNat * 4)).off + 3, none⟩ = some (.slice A3 (rd_T26 xs i).f3.length c3) ∧ (rd_T26 xs i).f3.length ≤ c3 ∧ (Kd.slice 36 k36).C w A3 (rd_T26 xs i).f3.length (rd_T26 xs i).f3 := by
  obtain ⟨ad, c, e, _, hK, hc0⟩ := Kd.C_get h z26 i h0 h1
  have hc : ∀ j u, c[j]? = some u → w.cell? (ad.add (i.toNat * 4 + j)) = some u := hc0
  obtain ⟨A3, c3, rfl, l3, g3⟩ := k26_open hK
  exact ⟨ad, A3, c3, e, hc 0 _ rfl, by rw [← add_field _ _ 1 (by omega)]; exact hc 1 _ rfl, by rw [← add_field _ _ 2 (by omega)]; exact hc 2 _ rfl, by rw [← add_field _ _ 3 (by omega)]; exact hc 3 _ rfl, l3, g3⟩

/-! #### struct type 48 -/
structure S48 where
  f0 : S36
  f1 : S36
def z48 : S48 := ⟨z36, z36⟩
def k48 : Kd S48 := Kd.iso (Kd.pair k36 k36) (fun x : S48 => (x.f0, x.f1))
theorem k48_open {w : World} {x : S48} {cs : List Value} (h : k48.K w x cs) : cs = [.int .u64 x.f0.f0, .int .u64 x.f0.f1, .int .u64 x.f1.f0, .int .u64 x.f1.f1] := by
  obtain ⟨_, _, rfl, s0, s2⟩ := h
  obtain rfl := k36_open s0
  obtain rfl := k36_open s2
  exact rfl
theorem k48_openM {w : World} {base : Nat} {ok : Nat → Prop} {x : S48} {cs : List Value} (h : k48.M w base ok x cs) : cs = [.int .u64 x.f0.f0, .int .u64 x.f0.f1, .int .u64 x.f1.f0, .int .u64 x.f1.f1] := by
  obtain ⟨_, _, rfl, s0, s2⟩ := h
  obtain rfl := k36_openM s0
  obtain rfl := k36_openM s2
  exact rfl
theorem k48_mk (w : World) (x : S48)  : k48.K w x [.int .u64 x.f0.f0, .int .u64 x.f0.f1, .int .u64 x.f1.f0, .int .u64 x.f1.f1] := ⟨[.int .u64 x.f0.f0, .int .u64 x.f0.f1], [.int .u64 x.f1.f0, .int .u64 x.f1.f1], rfl, (k36_mk w x.f0 ), (k36_mk w x.f1 )⟩
theorem k48_mkM (w : World) (base : Nat) (ok : Nat → Prop) (x : S48)  : k48.M w base ok x [.int .u64 x.f0.f0, .int .u64 x.f0.f1, .int .u64 x.f1.f0, .int .u64 x.f1.f1] := ⟨[.int .u64 x.f0.f0, .int .u64 x.f0.f1], [.int .u64 x.f1.f0, .int .u64 x.f1.f1], rfl, (k36_mkM w base ok x.f0 ), (k36_mkM w base ok x.f1 )⟩
def rd_T48 (xs : List S48) (i : Int) : S48 := xs.getD i.toNat z48
theorem at_T48 {w : World} {A : Option Addr} {n : Nat} {xs : List S48} (h : Kd.C k48 w A n xs) (i : Int) (h0 : 0 ≤ i) (h1 : i < n) : ∃ ad , A = some ad ∧ w.cell? (ad.add (i.toNat * 4)) = some (.int .u64 (rd_T48 xs i).f0.f0) ∧ w.cell? ⟨(ad.add (i.toNat * 4)).block, (ad.add (i.toNat * 4)).off + 1, none⟩ = some (.int .u64 (rd_T48 xs i).f0.f1) ∧ w.cell? ⟨(ad.add (i.toNat * 4)).block, (ad.add (i.toNat * 4)).off + 2, none⟩ = some (.int .u64 (rd_T48 xs i).f1.f0) ∧ w.cell? ⟨(ad.add (i.toNat * 4)).block, (ad.add (i.toNat * 4)).off + 3, none⟩ = some (.int .u64 (rd_T48 xs i).f1.f1) := by
  obtain ⟨ad, c, e, _, hK, hc0⟩ := Kd.C_get h z48 i h0 h1
  have hc : ∀ j u, c[j]? = some u → w.cell? (ad.add (i.toNat * 4 + j)) = some u := hc0
  obtain rfl := k48_open hK
  exact ⟨ad, e, hc 0 _ rfl, by rw [← add_field _ _ 1 (by omega)]; exact hc 1 _ rfl, by rw [← add_field _ _ 2 (by omega)]; exact hc 2 _ rfl, by rw [← add_field _ _ 3 (by omega)]; exact hc 3 _ rfl⟩

end Go.Proofs.YtpnpmeogffodgaaDoor.Q
end
section
namespace Go.Proofs.YtpnpmeogffodgaaDoor.Q
open Go.RowKit Go.Proofs.YtpnpmeogffodgaaDoorW.PrintWords Go.Proofs.YtpnpmeogffodgaaDoorW.PrintLast Go.Proofs.YtpnpmeogffodgaaDoorW.PrintMore

/-- The numbers of the fields: P, generator, twos, exponent, the odd primes of P - 1. -/
def fp (f : Int) : Int := if f = 0 then 97 else if f = 1 then 257 else if f = 2 then 12289 else if f = 3 then 998244353 else 0
def fg (f : Int) : Int := if f = 0 then 5 else if f = 1 then 3 else if f = 2 then 11 else if f = 3 then 3 else 0
def ft (f : Int) : Int := if f = 0 then 5 else if f = 1 then 8 else if f = 2 then 12 else if f = 3 then 23 else 0
def fe (f : Int) : Int := if f = 0 then 5 else if f = 1 then 3 else if f = 2 then 5 else if f = 3 then 3 else 0
def fl (f : Int) : List Int := if f = 0 then [3] else if f = 1 then [] else if f = 2 then [3] else if f = 3 then [7, 17] else []
/-- The table of math/bits.TrailingZeros64. -/
def db64 : List Int := [0, 1, 56, 2, 57, 49, 28, 3, 61, 58, 42, 50, 38, 29, 17, 4, 62, 47, 59, 36, 45, 43, 51, 22, 53, 39, 33, 30, 24, 18, 12, 5, 63, 55, 48, 27, 60, 41, 37, 16, 46, 35, 44, 21, 52, 32, 23, 11, 54, 26, 40, 15, 34, 20, 31, 10, 25, 14, 19, 9, 13, 8, 7, 6]
/-- The cells of the variables. -/
structure GL (w : World) : Prop where
  c0 : ∀ f : Nat, f < 4 → w.cell? ⟨2, 5 * f, none⟩ = some (.int .u64 (fp f))
  c1 : ∀ f : Nat, f < 4 → w.cell? ⟨2, 5 * f + 1, none⟩ = some (.int .u64 (fg f))
  c2 : ∀ f : Nat, f < 4 → w.cell? ⟨2, 5 * f + 2, none⟩ = some (.int .i64 (ft f))
  c3 : ∀ f : Nat, f < 4 → w.cell? ⟨2, 5 * f + 3, none⟩ = some (.int .i64 (fe f))
  c4 : ∀ f : Nat, f < 4 → ∃ A c, w.cell? ⟨2, 5 * f + 4, none⟩ = some (.slice A (fl f).length c) ∧ (fl f).length ≤ c ∧ Kd.C (Kd.int .u64) w A (fl f).length (fl f)
  d64 : ∀ i : Nat, i < 64 → w.cell? ⟨1, i, none⟩ = some (.int .u8 (db64.getD i 0))
theorem GL.below {w w1 : World} (h : GL w) (hb : Below w.heap.size w w1) : GL w1 :=
  ⟨fun f hf => pw_cell_below hb (h.c0 f hf), fun f hf => pw_cell_below hb (h.c1 f hf), fun f hf => pw_cell_below hb (h.c2 f hf), fun f hf => pw_cell_below hb (h.c3 f hf), fun f hf => by
    obtain ⟨A, c, e, hl, hC⟩ := h.c4 f hf
    exact ⟨A, c, pw_cell_below hb e, hl, Kd.C_below hC hb⟩, fun i hi => pw_cell_below hb (h.d64 i hi)⟩
theorem GL.alloc {w : World} (h : GL w) (o : Obj) : GL (w.alloc o) := h.below (below_alloc (Below.refl _ _) o)
theorem GL.drewN {w : World} (h : GL w) (n : Nat) : GL (w.drewN n) := h.below (pw_below_drewN (Below.refl _ _) n)
theorem GL.drew {w : World} (h : GL w) : GL w.drew := h.below (below_drew (Below.refl _ _))
end Go.Proofs.YtpnpmeogffodgaaDoor.Q

namespace Go.Proofs.YtpnpmeogffodgaaDoor.Q
open Go.RowKit Go.Proofs.YtpnpmeogffodgaaDoorW.PrintWords Go.Proofs.YtpnpmeogffodgaaDoorW.PrintLast Go.Proofs.YtpnpmeogffodgaaDoorW.PrintMore
set_option linter.unusedVariables false
set_option linter.unusedSimpArgs false

theorem valid_in (f : Int) (w : World) (h0 : 0 ≤ f) (h1 : f < 4) : Calls Tryd.prog 38 #[.int .i64 f] w fun e w' => e = .returned (.bool true) ∧ w = w' := by
  have c1 : decide (0 ≤ f) = true := decide_eq_true h0
  have c2 : decide (f < 4) = true := decide_eq_true h1
  go_enter Tryd.func38, Tryd.ntmps38
  go_wp2
  go_ret
  exact ⟨rfl, rfl⟩
theorem valid_out (f : Int) (w : World) (h : f < 0 ∨ 4 ≤ f) : Calls Tryd.prog 38 #[.int .i64 f] w fun e w' => e = .returned (.bool false) ∧ w = w' := by
  rcases h with h | h
  · have c1 : decide (0 ≤ f) = false := decide_eq_false (by omega)
    go_enter Tryd.func38, Tryd.ntmps38
    go_wp2
    go_ret
    exact ⟨rfl, rfl⟩
  · have c1 : decide (0 ≤ f) = true := decide_eq_true (by omega)
    have c2 : decide (f < 4) = false := decide_eq_false (by omega)
    go_enter Tryd.func38, Tryd.ntmps38
    go_wp2
    go_ret
    exact ⟨rfl, rfl⟩
/-- What 'of' hands back. -/
def OfSays (f : Int) (w : World) (e : Ending) (w' : World) : Prop :=
  ∃ A c, e = .returned (.agg #[.int .u64 (fp f), .int .u64 (fg f), .int .i64 (ft f), .int .i64 (fe f), .slice A (fl f).length c]) ∧ (fl f).length ≤ c ∧ Kd.C (Kd.int .u64) w' A (fl f).length (fl f) ∧ Below w.heap.size w w'
set_option maxHeartbeats 1000000 in
set_option maxRecDepth 100000 in
theorem of_out (f : Int) (w : World) (h : f < 0 ∨ 4 ≤ f) : Calls Tryd.prog 70 #[.int .i64 f] w (OfSays f w) := by
  have hu := Tryd.underlying94
  have hz : OfSays f w (.returned (.agg #[.int .u64 0, .int .u64 0, .int .i64 0, .int .i64 0, .slice none 0 0])) ((w.alloc (.cells #[.int .u64 0, .int .u64 0, .int .i64 0, .int .i64 0, .slice none 0 0] 94))) := by
    have h0 : f ≠ 0 ∧ f ≠ 1 ∧ f ≠ 2 ∧ f ≠ 3 := by omega
    refine ⟨none, 0, ?_, ?_, ?_, below_alloc (Below.refl _ _) _⟩
    · simp [fp, fg, ft, fe, fl, h0]
    · simp [fl, h0]
    · simp only [fl, h0, if_false]
      exact Kd.C_nil _ _
  have HZ := Aside0.mk hz
  clear hz
  go_enter Tryd.func70, Tryd.ntmps70
  go_wp2_with (go_at_call 38; refine (valid_out f _ h).mono ?_; rintro e w' ⟨rfl, rfl⟩)
  exact bodyPost_ret (by simp [results, Tryd.results70, go_sem, hu]) rfl HZ.out
set_option maxHeartbeats 1000000 in
set_option maxRecDepth 100000 in
theorem of_lit (f : Nat) (w : World) (o : Nat) (ho : 5 * f = o) (h1 : f < 4) (A : Option Addr) (c n : Nat) (a0 a1 a2 a3 : Int)
    (e0 : w.cell? ⟨2, o, none⟩ = some (.int .u64 a0)) (e1 : w.cell? ⟨2, o + 1, none⟩ = some (.int .u64 a1)) (e2 : w.cell? ⟨2, o + 2, none⟩ = some (.int .i64 a2))
    (e3 : w.cell? ⟨2, o + 3, none⟩ = some (.int .i64 a3)) (e4 : w.cell? ⟨2, o + 4, none⟩ = some (.slice A n c)) :
    Calls Tryd.prog 70 #[.int .i64 f] w fun e w' => e = .returned (.agg #[.int .u64 a0, .int .u64 a1, .int .i64 a2, .int .i64 a3, .slice A n c]) ∧ Below w.heap.size w w' := by
  have hu := Tryd.underlying94
  have hu2 := Tryd.underlying101
  have g0 := fun O => pw_cell_below (below_alloc (Below.refl _ w) O) e0
  have g1 := fun O => pw_cell_below (below_alloc (Below.refl _ w) O) e1
  have g2 := fun O => pw_cell_below (below_alloc (Below.refl _ w) O) e2
  have g3 := fun O => pw_cell_below (below_alloc (Below.refl _ w) O) e3
  have g4 := fun O => pw_cell_below (below_alloc (Below.refl _ w) O) e4
  clear e0 e1 e2 e3 e4
  obtain ⟨h, hh⟩ | ⟨h, hh⟩ | ⟨h, hh⟩ | ⟨h, hh⟩ : (f = 0 ∧ o = 0) ∨ (f = 1 ∧ o = 5) ∨ (f = 2 ∧ o = 10) ∨ (f = 3 ∧ o = 15) := by omega
  all_goals
    subst h; subst hh; clear ho h1
    go_enter Tryd.func70, Tryd.ntmps70
    go_wp2_with (go_at_call 38; refine (valid_in _ _ (by decide) (by decide)).mono ?_; rintro e w' ⟨rfl, rfl⟩)
    exact bodyPost_ret (v := .agg #[.int .u64 a0, .int .u64 a1, .int .i64 a2, .int .i64 a3, .slice A n c]) (by simp [results, Tryd.results70, go_sem, hu]) rfl ⟨rfl, by repeat (first | exact Below.refl _ _ | apply below_alloc | refine below_set ?_ (Nat.le_refl _))⟩
theorem of_calls (f : Int) (w : World) (hG : GL w) : Calls Tryd.prog 70 #[.int .i64 f] w (OfSays f w) := by
  by_cases h : f < 0 ∨ 4 ≤ f
  · exact of_out f w h
  · obtain ⟨n, rfl⟩ := Int.eq_ofNat_of_zero_le (by omega : 0 ≤ f)
    have h1 : n < 4 := by omega
    obtain ⟨A, c, e4, hl, hC⟩ := hG.c4 n h1
    refine (of_lit n w _ rfl h1 A c _ _ _ _ _ (hG.c0 n h1) (hG.c1 n h1) (hG.c2 n h1) (hG.c3 n h1) e4).mono fun e w' ⟨he, hb⟩ => ?_
    exact ⟨A, c, he, hl, Kd.C_below hC hb, hb⟩
end Go.Proofs.YtpnpmeogffodgaaDoor.Q

namespace Go.Proofs.YtpnpmeogffodgaaDoor.Q
open Go.RowKit Go.Proofs.YtpnpmeogffodgaaDoorW.PrintWords Go.Proofs.YtpnpmeogffodgaaDoorW.PrintLast Go.Proofs.YtpnpmeogffodgaaDoorW.PrintMore
set_option linter.unusedVariables false
set_option linter.unusedSimpArgs false

def field_P.f (f : Int) : Option Int := some (fp f)
set_option maxHeartbeats 1000000 in
set_option maxRecDepth 100000 in
theorem field_P.calls (f : Int) (r : Int) (w : World) (hrG : GL w) (h : field_P.f f = some r) : Calls Tryd.prog 58 #[.int .i64 f] w fun e w' => e = .returned (.int .u64 r) ∧ Below w.heap.size w w' := by
  obtain rfl := Option.some.inj h
  clear h
  have hu := Tryd.underlying94
  have hfl : ∀ (x0 x1 x2 x3 : Int) (x4 : Value) (W : World), (Instr.field 94 (.agg #[.int .u64 x0, .int .u64 x1, .int .i64 x2, .int .i64 x3, x4]) 0).run Tryd.prog W = .ok (.int .u64 x0) W := fun x0 x1 x2 x3 x4 W => by kernel_rfl
  have HG := Aside0.mk hrG
  clear hrG
  go_enter Tryd.func58, Tryd.ntmps58
  go_wp2_with (go_at_call 70; refine (of_calls f _ HG.out).mono ?_; rintro e w' ⟨A, c, rfl, _, _, hb⟩)
  go_ret
  exact ⟨rfl, by first | assumption | exact hb⟩

def field_Generator.f (f : Int) : Option Int := some (fg f)
set_option maxHeartbeats 1000000 in
set_option maxRecDepth 100000 in
theorem field_Generator.calls (f : Int) (r : Int) (w : World) (hrG : GL w) (h : field_Generator.f f = some r) : Calls Tryd.prog 65 #[.int .i64 f] w fun e w' => e = .returned (.int .u64 r) ∧ Below w.heap.size w w' := by
  obtain rfl := Option.some.inj h
  clear h
  have hu := Tryd.underlying94
  have hfl : ∀ (x0 x1 x2 x3 : Int) (x4 : Value) (W : World), (Instr.field 94 (.agg #[.int .u64 x0, .int .u64 x1, .int .i64 x2, .int .i64 x3, x4]) 1).run Tryd.prog W = .ok (.int .u64 x1) W := fun x0 x1 x2 x3 x4 W => by kernel_rfl
  have HG := Aside0.mk hrG
  clear hrG
  go_enter Tryd.func65, Tryd.ntmps65
  go_wp2_with (go_at_call 70; refine (of_calls f _ HG.out).mono ?_; rintro e w' ⟨A, c, rfl, _, _, hb⟩)
  go_ret
  exact ⟨rfl, by first | assumption | exact hb⟩

def field_Exponent.f (f : Int) : Option Int := some (fe f)
set_option maxHeartbeats 1000000 in
set_option maxRecDepth 100000 in
theorem field_Exponent.calls (f : Int) (r : Int) (w : World) (hrG : GL w) (h : field_Exponent.f f = some r) : Calls Tryd.prog 66 #[.int .i64 f] w fun e w' => e = .returned (.int .i64 r) ∧ Below w.heap.size w w' := by
  obtain rfl := Option.some.inj h
  clear h
  have hu := Tryd.underlying94
  have hfl : ∀ (x0 x1 x2 x3 : Int) (x4 : Value) (W : World), (Instr.field 94 (.agg #[.int .u64 x0, .int .u64 x1, .int .i64 x2, .int .i64 x3, x4]) 3).run Tryd.prog W = .ok (.int .i64 x3) W := fun x0 x1 x2 x3 x4 W => by kernel_rfl
  have HG := Aside0.mk hrG
  clear hrG
  go_enter Tryd.func66, Tryd.ntmps66
  go_wp2_with (go_at_call 70; refine (of_calls f _ HG.out).mono ?_; rintro e w' ⟨A, c, rfl, _, _, hb⟩)
  go_ret
  exact ⟨rfl, by first | assumption | exact hb⟩
end Go.Proofs.YtpnpmeogffodgaaDoor.Q
end
section
namespace Go.Proofs.YtpnpmeogffodgaaDoor.Opn
open Go.RowKit Go.Deep Go.Proofs.YtpnpmeogffodgaaDoorW.PrintWords
variable {H : Type} {enc : TypeId × Value → H} {P : Program} {W : World}

theorem add_add_ (a : Addr) (x y : Nat) : (a.add x).add y = a.add (x + y) := by
  unfold Addr.add
  by_cases hx : x = 0 <;> by_cases hy : y = 0 <;> simp [hx, hy, Nat.add_assoc]
/-- Whatever is read at type t is of the kind d; 'wf': what is known of it besides. -/
def Opn {α : Type} (enc : TypeId × Value → H) (P : Program) (W : World) (t : TypeId) (d : Kd α) (wf : α → Prop) : Prop :=
  ∀ fuel cs x, DataW.trod enc P W 0 (fun _ => true) true fuel t cs = some x → ∃ y, d.K W y cs ∧ wf y
theorem Opn.int {k : IntKind} {t : TypeId} (ht : P.underlying t = some (.int k)) : Opn enc P W t (Kd.int k) (fun y => (Lit.int k y).wf = true) := by
  intro fuel cs x h
  obtain ⟨n, rfl, _, hn⟩ := DataW.trod_int ht h
  exact ⟨n, rfl, hn⟩
theorem Opn.imp {α : Type} {t : TypeId} {d : Kd α} {wf wf' : α → Prop} (h : Opn enc P W t d wf) (hw : ∀ y, wf y → wf' y) : Opn enc P W t d wf' := by
  intro fuel cs x hx
  obtain ⟨y, hy, hz⟩ := h fuel cs x hx
  exact ⟨y, hy, hw y hz⟩
theorem Opn.slice {α : Type} {t e : TypeId} {d : Kd α} {wf : α → Prop} (ht : P.underlying t = some (.slice e)) (hs : P.cellsOf e = d.sz) (he : Opn enc P W e d wf) :
    Opn enc P W t (Kd.slice e d) (fun l => ∀ y ∈ l, wf y) := by
  intro fuel cs x h
  rcases open_slice ht h with ⟨rfl, _⟩ | ⟨a, len, cap, m, n, D, Pl, rfl, _, hl, hm, hmm, _, hx⟩
  · exact ⟨[], ⟨none, 0, rfl, Nat.le_refl _, Kd.C_nil d W⟩, fun y hy => by cases hy⟩
  · have hlm : len ≤ m := by rw [hmm]; split <;> omega
    have each : ∀ i : Fin len, ∃ y : α, ∃ c, W.cells? 0 (a.add (i.1 * d.sz)) d.sz = some c ∧ d.K W y c ∧ wf y := by
      intro i
      obtain ⟨c, hc, ht⟩ := hx i.1 (by omega)
      obtain ⟨y, hy, hz⟩ := he _ _ _ ht
      exact ⟨y, c, by rw [← hs]; exact hc, hy, hz⟩
    obtain ⟨f, hf⟩ := Classical.axiomOfChoice each
    have hlen : (List.ofFn f).length = len := List.length_ofFn
    refine ⟨List.ofFn f, ⟨some a, cap, by rw [hlen], by omega, ?_⟩, ?_⟩
    · rw [hlen]
      refine ⟨hlen, by unfold maxLen at hm; omega, fun _ => ⟨a, rfl, fun j p hp => ?_⟩⟩
      have hj : j < len := by have := (List.getElem?_eq_some_iff.1 hp).1; omega
      obtain ⟨c, hc, hk, _⟩ := hf ⟨j, hj⟩
      have hpj : p = f ⟨j, hj⟩ := by
        rw [List.getElem?_eq_getElem (by omega)] at hp
        rw [← Option.some.inj hp]
        exact List.getElem_ofFn ..
      subst hpj
      refine ⟨c, d.K_len hk, hk, fun i u hu => ?_⟩
      have hi : i < d.sz := by have := (List.getElem?_eq_some_iff.1 hu).1; rw [d.K_len hk] at this; exact this
      have hcc := (World.cells?_some hc).2.2 i hi
      rw [hu] at hcc
      rw [← hcc]
      rw [add_add_]
    · intro y hy
      obtain ⟨i, hi, rfl⟩ := List.mem_iff_getElem.1 hy
      rw [List.getElem_ofFn]
      exact (hf _).choose_spec.2.2
end Go.Proofs.YtpnpmeogffodgaaDoor.Opn
namespace Go.Proofs.YtpnpmeogffodgaaDoor.Q
open Go.RowKit Go.ChangeShapes Go.WideShapes
open Go.Proofs.YtpnpmeogffodgaaDoorW.PrintWords Go.Proofs.YtpnpmeogffodgaaDoorW.PrintLast Go.Proofs.YtpnpmeogffodgaaDoorW.PrintMore
open Go.Proofs.YtpnpmeogffodgaaDoor.Opn
set_option linter.unusedVariables false
set_option linter.unusedSimpArgs false

theorem own : ownKnob Tryd.prog.godebug = Option.none := by kernel_rfl
theorem laidOut : laidOutB Tryd.prog = true := by kernel_rfl
theorem cells34 : Tryd.prog.cellsOf 34 = 1 := by kernel_rfl
theorem cells36 : Tryd.prog.cellsOf 36 = 2 := by kernel_rfl
set_option maxRecDepth 100000 in
theorem flat36 {H : Type} {enc : TypeId × Value → H} {W : World} : ∀ fuel cs x, DataW.trod enc Tryd.prog W 0 (fun _ => true) true fuel 36 cs = some x → ∃ (a0 : Int) (a1 : Int), cs = [.int .u64 a0, .int .u64 a1] ∧ (Lit.int .u64 a0).wf = true ∧ (Lit.int .u64 a1).wf = true := by
  intro fuel cs x h
  obtain ⟨xs, n, rfl, _, hl, hn, hf⟩ := DataW.trod_array Tryd.underlying36 h
  rw [cells36] at hl
  match cs, hl with
  | [q0, q1], _ =>
    have hx : xs.length = 2 := hn
    have e0 : DataW.trod enc Tryd.prog W 0 (fun _ => true) true n 34 (([q0, q1].drop 0).take (Tryd.prog.cellsOf 34)) = xs[0]? := by have h_ := hf 0 (by decide); simpa only [cells34, Nat.mul_one, Nat.zero_mul, Nat.reduceMul] using h_
    rw [cells34, List.getElem?_eq_getElem (by omega)] at e0
    have e1 : DataW.trod enc Tryd.prog W 0 (fun _ => true) true n 34 (([q0, q1].drop 1).take (Tryd.prog.cellsOf 34)) = xs[1]? := by have h_ := hf 1 (by decide); simpa only [cells34, Nat.mul_one, Nat.zero_mul, Nat.reduceMul] using h_
    rw [cells34, List.getElem?_eq_getElem (by omega)] at e1
    obtain ⟨a0, r0, _, w0⟩ := DataW.trod_int Tryd.underlying34 e0
    simp only [List.drop_succ_cons, List.drop_zero, List.take_succ_cons, List.take_zero, List.cons.injEq, and_true] at r0
    obtain rfl := r0
    obtain ⟨a1, r1, _, w1⟩ := DataW.trod_int Tryd.underlying34 e1
    simp only [List.drop_succ_cons, List.drop_zero, List.take_succ_cons, List.take_zero, List.cons.injEq, and_true] at r1
    obtain rfl := r1
    exact ⟨a0, a1, rfl, w0, w1⟩
def wf36 (x : S36) : Prop := ((Lit.int .u64 x.f0).wf = true) ∧ ((Lit.int .u64 x.f1).wf = true)
set_option maxRecDepth 100000 in
theorem opn36 {H : Type} {enc : TypeId × Value → H} {W : World} : Opn enc Tryd.prog W 36 k36 wf36 := by
  intro fuel cs x h
  obtain ⟨a0, a1, rfl, w0, w1⟩ := flat36 fuel cs x h
  exact ⟨(⟨a0, a1⟩ : S36), k36_mk W _ , ⟨w0, w1⟩⟩
set_option maxRecDepth 100000 in
theorem opn22 {H : Type} {enc : TypeId × Value → H} {W : World} : Opn enc Tryd.prog W 22 (Kd.slice 36 k36) (fun x => (∀ y ∈ x, wf36 y)) := Opn.slice Tryd.underlying22 cells36 opn36
theorem cells3 : Tryd.prog.cellsOf 3 = 1 := by kernel_rfl
theorem cells22 : Tryd.prog.cellsOf 22 = 1 := by kernel_rfl
theorem cells47 : Tryd.prog.cellsOf 47 = 7 := by kernel_rfl
set_option maxRecDepth 100000 in
theorem flat47 {H : Type} {enc : TypeId × Value → H} {W : World} : ∀ fuel cs x, DataW.trod enc Tryd.prog W 0 (fun _ => true) true fuel 47 cs = some x → ∃ (a0 : Int) (a1 : Int) (a2 : Int) (a3 : Int) (a4 : Int) (A5 : Option Addr) (c5 : Nat) (l5 : (List S36)) (A6 : Option Addr) (c6 : Nat) (l6 : (List S36)), cs = [.int .i64 a0, .int .u64 a1, .int .u64 a2, .int .u64 a3, .int .u64 a4, .slice A5 l5.length c5, .slice A6 l6.length c6] ∧ (Lit.int .i64 a0).wf = true ∧ (Lit.int .u64 a1).wf = true ∧ (Lit.int .u64 a2).wf = true ∧ (Lit.int .u64 a3).wf = true ∧ (Lit.int .u64 a4).wf = true ∧ l5.length ≤ c5 ∧ Kd.C k36 W A5 l5.length l5 ∧ (∀ y ∈ l5, wf36 y) ∧ l6.length ≤ c6 ∧ Kd.C k36 W A6 l6.length l6 ∧ (∀ y ∈ l6, wf36 y) := by
  intro fuel cs x h
  obtain ⟨xs, n, rfl, _, hl, hn, hf⟩ := DataW.trod_struct Tryd.underlying47 h
  rw [cells47] at hl
  match cs, hl with
  | [q0, q1, q2, q3, q4, q5, q6], _ =>
    have hx : xs.length = 5 := hn
    have e0 : DataW.trod enc Tryd.prog W 0 (fun _ => true) true n 3 (([q0, q1, q2, q3, q4, q5, q6].drop 0).take (Tryd.prog.cellsOf 3)) = xs[0]? := hf 0 _ rfl
    rw [cells3, List.getElem?_eq_getElem (by omega)] at e0
    have e1 : DataW.trod enc Tryd.prog W 0 (fun _ => true) true n 36 (([q0, q1, q2, q3, q4, q5, q6].drop 1).take (Tryd.prog.cellsOf 36)) = xs[1]? := hf 1 _ rfl
    rw [cells36, List.getElem?_eq_getElem (by omega)] at e1
    have e2 : DataW.trod enc Tryd.prog W 0 (fun _ => true) true n 36 (([q0, q1, q2, q3, q4, q5, q6].drop 3).take (Tryd.prog.cellsOf 36)) = xs[2]? := hf 2 _ rfl
    rw [cells36, List.getElem?_eq_getElem (by omega)] at e2
    have e3 : DataW.trod enc Tryd.prog W 0 (fun _ => true) true n 22 (([q0, q1, q2, q3, q4, q5, q6].drop 5).take (Tryd.prog.cellsOf 22)) = xs[3]? := hf 3 _ rfl
    rw [cells22, List.getElem?_eq_getElem (by omega)] at e3
    have e4 : DataW.trod enc Tryd.prog W 0 (fun _ => true) true n 22 (([q0, q1, q2, q3, q4, q5, q6].drop 6).take (Tryd.prog.cellsOf 22)) = xs[4]? := hf 4 _ rfl
    rw [cells22, List.getElem?_eq_getElem (by omega)] at e4
    obtain ⟨a0, r0, _, w0⟩ := DataW.trod_int Tryd.underlying3 e0
    simp only [List.drop_succ_cons, List.drop_zero, List.take_succ_cons, List.take_zero, List.cons.injEq, and_true] at r0
    obtain rfl := r0
    obtain ⟨a1, a2, r1, w1, w2⟩ := flat36 _ _ _ e1
    simp only [List.drop_succ_cons, List.drop_zero, List.take_succ_cons, List.take_zero, List.cons.injEq, and_true] at r1
    obtain ⟨rfl, rfl⟩ := r1
    obtain ⟨a3, a4, r2, w3, w4⟩ := flat36 _ _ _ e2
    simp only [List.drop_succ_cons, List.drop_zero, List.take_succ_cons, List.take_zero, List.cons.injEq, and_true] at r2
    obtain ⟨rfl, rfl⟩ := r2
    obtain ⟨l5, ⟨A5, c5, r3, hl5, hC5⟩, w5⟩ := opn22 _ _ _ e3
    simp only [List.drop_succ_cons, List.drop_zero, List.take_succ_cons, List.take_zero, List.cons.injEq, and_true] at r3
    obtain rfl := r3
    obtain ⟨l6, ⟨A6, c6, r4, hl6, hC6⟩, w6⟩ := opn22 _ _ _ e4
    simp only [List.drop_succ_cons, List.drop_zero, List.take_succ_cons, List.take_zero, List.cons.injEq, and_true] at r4
    obtain rfl := r4
    exact ⟨a0, a1, a2, a3, a4, A5, c5, l5, A6, c6, l6, rfl, w0, w1, w2, w3, w4, hl5, hC5, w5, hl6, hC6, w6⟩
set_option maxRecDepth 100000 in
theorem opn34 {H : Type} {enc : TypeId × Value → H} {W : World} : Opn enc Tryd.prog W 34 (Kd.int .u64) (fun x => (Lit.int .u64 x).wf = true) := Opn.int Tryd.underlying34
set_option maxRecDepth 100000 in
theorem opn39 {H : Type} {enc : TypeId × Value → H} {W : World} : Opn enc Tryd.prog W 39 (Kd.slice 34 (Kd.int .u64)) (fun x => (∀ y ∈ x, (Lit.int .u64 y).wf = true)) := Opn.slice Tryd.underlying39 cells34 opn34
end Go.Proofs.YtpnpmeogffodgaaDoor.Q
end
section
namespace Go.Proofs.YtpnpmeogffodgaaDoor.Q
open Go.ChangeShapes Go.WideShapes Go.ChangeAt Go.WideMaps Go.WideElems Go.RowKit
open Go.Proofs.YtpnpmeogffodgaaDoorW.PrintWords Go.Proofs.YtpnpmeogffodgaaDoorW.PrintLast Go.Proofs.YtpnpmeogffodgaaDoorW.PrintMore
open Go.Proofs.YtpnpmeogffodgaaDoor.Opn
set_option linter.unusedVariables false

theorem gFields : Tryd.prog.globalNamed "attestor/field.fields" = some 2 := by kernel_rfl
theorem tFields : (Tryd.prog.globals[2]?).map (·.type) = some 101 := by kernel_rfl
theorem gTab : Tryd.prog.globalNamed "math/bits.deBruijn64tab" = some 1 := by kernel_rfl
theorem tTab : (Tryd.prog.globals[1]?).map (·.type) = some 100 := by kernel_rfl
theorem cellsB : Tryd.prog.cellsOf 5 = 1 := by kernel_rfl
abbrev laid1 : List (String × DataW Unit) := [("attestor/field.fields", Rows.laid_attestor_field_fields), ("math/bits.deBruijn32tab", Rows.laid_math_bits_deBruijn32tab), ("math/bits.deBruijn64tab", Rows.laid_math_bits_deBruijn64tab)]
theorem cellsI : Tryd.prog.cellsOf 3 = 1 := by kernel_rfl
theorem cellsU : Tryd.prog.cellsOf 34 = 1 := by kernel_rfl
theorem cellsS : Tryd.prog.cellsOf 39 = 1 := by kernel_rfl
theorem cellsP : Tryd.prog.cellsOf 94 = 5 := by kernel_rfl
/-- A slice of numbers whose data are known. -/
theorem ints_of {H : Type} {enc : TypeId × Value → H} {W : World} {spare : Nat → Bool} {held : Bool} {fuel : Nat} {cs : List Value} {x : DataW H × List MemPlace} {vs : List Int} {r : List (DataW H)}
    (h : DataW.trod enc Tryd.prog W 0 spare held fuel 39 cs = some x) (hx : x.1 = .slice (vs.map fun v => .lit (.int .u64 v)) r) :
    ∃ A c, cs = [.slice A vs.length c] ∧ vs.length ≤ c ∧ Kd.C (Kd.int .u64) W A vs.length vs := by
  rcases Deep.open_slice1 Tryd.underlying39 cellsU h with ⟨_, rfl⟩ | ⟨a, len, cap, m, n, V, D, Pl, rfl, _, hl, hm, hmm, rfl, he⟩
  · cases hx
  · simp only [DataW.slice.injEq] at hx
    have hlen : len = vs.length := by have := congrArg List.length hx.1; simpa using this
    subst hlen
    have hlm : vs.length ≤ m := by rw [hmm]; split <;> omega
    refine ⟨some a, cap, rfl, hl, rfl, by unfold maxLen at hm; omega, fun _ => ⟨a, rfl, fun j p hp => ?_⟩⟩
    have hj : j < vs.length := (List.getElem?_eq_some_iff.1 hp).1
    obtain ⟨h1, h2⟩ := he j (by omega)
    obtain ⟨k, e1, e2, _⟩ := DataW.trod_int Tryd.underlying34 h2
    have hD : D j = .lit (.int .u64 p) := by
      have hpe : vs[j] = p := by have := hp; rw [List.getElem?_eq_getElem hj] at this; exact Option.some.inj this
      have := congrArg (fun l => l[j]?) hx.1
      simpa [hj, hpe] using this
    have hk : k = p := by
      have : (DataW.lit (.int .u64 p) : DataW H) = .lit (.int .u64 k) := by rw [← hD]; exact congrArg Prod.fst e2
      simpa using this.symm
    subst hk
    refine ⟨[.int .u64 k], rfl, rfl, fun i u hu => ?_⟩
    match i, hu with
    | 0, hu =>
      obtain rfl : Value.int .u64 k = u := by simpa using hu
      have : V j = .int .u64 k := by simpa using e1
      rw [← this]
      have h9 : j * (Kd.int IntKind.u64).sz = j := Nat.mul_one j
      show W.cell? ((a.add (j * (Kd.int IntKind.u64).sz)).add 0) = _
      rw [h9, add_add_]
      exact h1
theorem nil_of {H : Type} {enc : TypeId × Value → H} {W : World} {spare : Nat → Bool} {held : Bool} {fuel : Nat} {cs : List Value} {x : DataW H × List MemPlace}
    (h : DataW.trod enc Tryd.prog W 0 spare held fuel 39 cs = some x) (hx : x.1 = .nil) :
    ∃ A c, cs = [.slice A ([] : List Int).length c] ∧ ([] : List Int).length ≤ c ∧ Kd.C (Kd.int .u64) W A ([] : List Int).length [] := by
  rcases Deep.open_slice1 Tryd.underlying39 cellsU h with ⟨rfl, _⟩ | ⟨a, len, cap, m, n, V, D, Pl, rfl, _, hl, hm, hmm, rfl, he⟩
  · exact ⟨none, 0, rfl, Nat.le_refl _, Kd.C_nil _ _⟩
  · cases hx
/-- The numbers of field f, as the condition spells them. -/
def rowData {H : Type} (f : Nat) : DataW H := .agg [.lit (.int .u64 (fp f)), .lit (.int .u64 (fg f)), .lit (.int .i64 (ft f)), .lit (.int .i64 (fe f)), if f = 1 then .nil else .slice ((fl f).map fun v => .lit (.int .u64 v)) []]
set_option maxRecDepth 100000 in
/-- The condition gives the fact. -/
theorem gl_of_laid {W : World} (h : laidMetH Tryd.prog laid1 W) : GL W := by
  rw [MakeChecks.laidMetH_plain _ _ _ (by kernel_rfl)] at h
  obtain ⟨ps, ⟨g0, t0, cs0, f0, p0, q0, hg0, ht0, hv0, hd0, ⟨g1, t1, cs1, f1, p1, q1, hg1, ht1, hv1, hd1, ⟨g2, t2, cs2, f2, p2, q2, hg2, ht2, hv2, hd2, _, _⟩, _⟩, _⟩, _, _⟩ := h
  obtain rfl := Option.some.inj (gFields.symm.trans hg0)
  obtain rfl := Option.some.inj (tFields.symm.trans ht0)
  obtain ⟨xs, m1, rfl, hx1, hlen, hn, hel⟩ := DataW.trod_array Tryd.underlying101 hd0
  simp only [Prod.mk.injEq, Rows.laid_attestor_field_fields, DataW.agg.injEq] at hx1
  have key : ∀ f : Nat, f < 4 → ∃ A c, (cs0.toList.drop (f * 5)).take 5 = [.int .u64 (fp f), .int .u64 (fg f), .int .i64 (ft f), .int .i64 (fe f), .slice A (fl f).length c] ∧ (fl f).length ≤ c ∧ Kd.C (Kd.int .u64) W A (fl f).length (fl f) := by
    intro f hf
    have hj1 := hel f hf
    rw [List.getElem?_eq_getElem (by omega : f < xs.length), cellsP] at hj1
    have hdat : (xs[f]).1 = rowData f := by
      have : (xs.map (·.1))[f]? = some (rowData f) := by
        rw [← hx1.1]
        rcases (show f = 0 ∨ f = 1 ∨ f = 2 ∨ f = 3 by omega) with rfl | rfl | rfl | rfl <;> rfl
      rw [List.getElem?_map, List.getElem?_eq_getElem (by omega : f < xs.length), Option.map_some] at this
      exact Option.some.inj this
    generalize hcs : (cs0.toList.drop (f * 5)).take 5 = cs at hj1 ⊢
    obtain ⟨ys, n, _, hy, hl, hny, hf2⟩ := DataW.trod_struct Tryd.underlying94 hj1
    rw [cellsP] at hl
    match cs, hl with
    | [c0, c1, c2, c3, c4], _ =>
      have e0 : DataW.trod _ Tryd.prog W 0 _ _ n 34 (([c0, c1, c2, c3, c4].drop 0).take (Tryd.prog.cellsOf 34)) = ys[0]? := hf2 0 _ rfl
      have e1 : DataW.trod _ Tryd.prog W 0 _ _ n 34 (([c0, c1, c2, c3, c4].drop 1).take (Tryd.prog.cellsOf 34)) = ys[1]? := hf2 1 _ rfl
      have e2 : DataW.trod _ Tryd.prog W 0 _ _ n 3 (([c0, c1, c2, c3, c4].drop 2).take (Tryd.prog.cellsOf 3)) = ys[2]? := hf2 2 _ rfl
      have e3 : DataW.trod _ Tryd.prog W 0 _ _ n 3 (([c0, c1, c2, c3, c4].drop 3).take (Tryd.prog.cellsOf 3)) = ys[3]? := hf2 3 _ rfl
      have e4 : DataW.trod _ Tryd.prog W 0 _ _ n 39 (([c0, c1, c2, c3, c4].drop 4).take (Tryd.prog.cellsOf 39)) = ys[4]? := hf2 4 _ rfl
      have x5 : ys.length = 5 := hny
      rw [cellsU, List.getElem?_eq_getElem (by omega)] at e0 e1
      rw [cellsI, List.getElem?_eq_getElem (by omega)] at e2 e3
      rw [cellsS, List.getElem?_eq_getElem (by omega)] at e4
      have hy1 : DataW.agg (ys.map (·.1)) = rowData f := by rw [← hdat, hy]
      simp only [rowData, DataW.agg.injEq] at hy1
      have d0 : ys[0].1 = .lit (.int .u64 (fp f)) := by have := congrArg (fun l => l[0]?) hy1; simpa [x5] using this
      have d1 : ys[1].1 = .lit (.int .u64 (fg f)) := by have := congrArg (fun l => l[1]?) hy1; simpa [x5] using this
      have d2 : ys[2].1 = .lit (.int .i64 (ft f)) := by have := congrArg (fun l => l[2]?) hy1; simpa [x5] using this
      have d3 : ys[3].1 = .lit (.int .i64 (fe f)) := by have := congrArg (fun l => l[3]?) hy1; simpa [x5] using this
      have d4 : ys[4].1 = (if f = 1 then .nil else .slice ((fl f).map fun v => .lit (.int .u64 v)) []) := by have := congrArg (fun l => l[4]?) hy1; simpa [x5] using this
      obtain ⟨a0, r0, s0, _⟩ := DataW.trod_int Tryd.underlying34 e0
      obtain ⟨a1, r1, s1, _⟩ := DataW.trod_int Tryd.underlying34 e1
      obtain ⟨a2, r2, s2, _⟩ := DataW.trod_int Tryd.underlying3 e2
      obtain ⟨a3, r3, s3, _⟩ := DataW.trod_int Tryd.underlying3 e3
      obtain rfl : a0 = fp f := by rw [s0] at d0; simpa using d0
      obtain rfl : a1 = fg f := by rw [s1] at d1; simpa using d1
      obtain rfl : a2 = ft f := by rw [s2] at d2; simpa using d2
      obtain rfl : a3 = fe f := by rw [s3] at d3; simpa using d3
      replace r0 : c0 = .int .u64 (fp f) := by simpa using r0
      replace r1 : c1 = .int .u64 (fg f) := by simpa using r1
      replace r2 : c2 = .int .i64 (ft f) := by simpa using r2
      replace r3 : c3 = .int .i64 (fe f) := by simpa using r3
      subst r0; subst r1; subst r2; subst r3
      have h4 : ∃ A c, [c4] = [.slice A (fl f).length c] ∧ (fl f).length ≤ c ∧ Kd.C (Kd.int .u64) W A (fl f).length (fl f) := by
        by_cases h1 : f = 1
        · subst h1
          rw [if_pos rfl] at d4
          exact nil_of (x := ys[4]) e4 d4
        · rw [if_neg h1] at d4
          exact ints_of (x := ys[4]) e4 d4
      obtain ⟨A, c, hc, hle, hC⟩ := h4
      obtain rfl : c4 = .slice A (fl f).length c := by simpa using hc
      exact ⟨A, c, rfl, hle, hC⟩
  have cell : ∀ f : Nat, f < 4 → ∀ j : Nat, j < 5 → W.cell? ⟨2, 5 * f + j, none⟩ = ((cs0.toList.drop (f * 5)).take 5)[j]? := by
    intro f hf j hj
    have hv := World.var?_cell hg0 hv0 (5 * f + j)
    rw [hv, List.getElem?_take, if_pos (by omega), List.getElem?_drop, Nat.mul_comm f 5]
    simp
  obtain rfl := Option.some.inj (gTab.symm.trans hg2)
  obtain rfl := Option.some.inj (tTab.symm.trans ht2)
  obtain ⟨zs, m2, rfl, hz1, hlen2, hn2, hel2⟩ := DataW.trod_array Tryd.underlying100 hd2
  have hlist : ∀ {H : Type}, (Rows.laid_math_bits_deBruijn64tab : DataW H) = DataW.agg (db64.map fun v => .lit (.int .u8 v)) := fun {_} => rfl
  rw [hlist] at hz1
  simp only [Prod.mk.injEq, DataW.agg.injEq] at hz1
  have ukey : ∀ i : Nat, i < 64 → (cs2.toList.drop (i * 1)).take 1 = [.int .u8 (db64.getD i 0)] := by
    intro i hi
    have hj := hel2 i hi
    rw [List.getElem?_eq_getElem (by omega : i < zs.length), cellsB] at hj
    have hdat : (zs[i]).1 = .lit (.int .u8 (db64.getD i 0)) := by
      have : (zs.map (·.1))[i]? = some (.lit (.int .u8 (db64.getD i 0))) := by
        rw [← hz1.1, List.getElem?_map]
        have h64 : i < db64.length := hi
        rw [List.getElem?_eq_getElem h64, Option.map_some]
        simp [List.getD, h64]
      rw [List.getElem?_map, List.getElem?_eq_getElem (by omega : i < zs.length), Option.map_some] at this
      exact Option.some.inj this
    obtain ⟨a, r, s, _⟩ := DataW.trod_int Tryd.underlying5 hj
    obtain rfl : a = db64.getD i 0 := by rw [s] at hdat; simpa using hdat
    exact r
  have ucell : ∀ i : Nat, i < 64 → W.cell? ⟨1, i, none⟩ = some (.int .u8 (db64.getD i 0)) := by
    intro i hi
    have hv := World.var?_cell hg2 hv2 i
    have hu := ukey i hi
    have h0 : ((cs2.toList.drop (i * 1)).take 1)[0]? = some (.int .u8 (db64.getD i 0)) := by rw [hu]; rfl
    rw [List.getElem?_take, if_pos (by omega), List.getElem?_drop, Nat.mul_one, Nat.add_zero] at h0
    rw [hv]
    simpa using h0
  refine ⟨fun f hf => ?_, fun f hf => ?_, fun f hf => ?_, fun f hf => ?_, fun f hf => ?_, ucell⟩
  all_goals obtain ⟨A, c, e, hl, hC⟩ := key f hf
  · exact (cell f hf 0 (by omega)).trans (by rw [e]; rfl)
  · exact (cell f hf 1 (by omega)).trans (by rw [e]; rfl)
  · exact (cell f hf 2 (by omega)).trans (by rw [e]; rfl)
  · exact (cell f hf 3 (by omega)).trans (by rw [e]; rfl)
  · exact ⟨A, c, (cell f hf 4 (by omega)).trans (by rw [e]; rfl), hl, hC⟩
/-- The door's own heap meets the condition. -/
theorem door_met (os : Os) (args : Array Value) : laidMetH Tryd.prog laid1 ((World.doorLaid Tryd.prog 400 os).forCall (fun _ _ => 0) ⟨#[], args, []⟩).memory :=
  laidMetH_of_parts3 (fuel := 8) (laidMet_of_run' 8 (by kernel_rfl) (by kernel_rfl)) (by kernel_rfl) (by kernel_rfl)
theorem opnL {H : Type} {enc : TypeId × Value → H} {W : World} : Opn enc Tryd.prog W 39 (Kd.slice 34 (Kd.int .u64)) (fun l => ∀ y ∈ l, (Lit.int .u64 y).wf = true) := Opn.slice Tryd.underlying39 cellsU (Opn.int Tryd.underlying34)
theorem wf_u8 {x : Int} (h : (Lit.int .u8 x).wf = true) : 0 ≤ x ∧ x < 256 := by
  simp [Lit.wf, IntKind.min, IntKind.max, IntKind.signed, IntKind.bits] at h
  omega
theorem wf_u64 {x : Int} (h : (Lit.int .u64 x).wf = true) : 0 ≤ x ∧ x < 18446744073709551616 := by
  simp [Lit.wf, IntKind.min, IntKind.max, IntKind.signed, IntKind.bits] at h
  omega
theorem wf_i64 {x : Int} (h : (Lit.int .i64 x).wf = true) : -9223372036854775808 ≤ x ∧ x ≤ 9223372036854775807 := by
  simp [Lit.wf, IntKind.min, IntKind.max, IntKind.signed, IntKind.bits] at h
  omega
end Go.Proofs.YtpnpmeogffodgaaDoor.Q
end
section
namespace Go.Proofs.YtpnpmeogffodgaaDoor.Q
open Go.RowKit Go.Proofs.YtpnpmeogffodgaaDoorW.PrintWords Go.Proofs.YtpnpmeogffodgaaDoorW.PrintLast Go.Proofs.YtpnpmeogffodgaaDoorW.PrintMore
theorem bq_ {w : World} {a : Nat} {cs : Array Value} {t : TypeId} {v : Value} (h : Aside0 (w.heap[a]? = some (.cells cs t (0, 0)))) (j : Nat) (e : cs[j]? = some v := by rfl) : w.cell? ⟨a, j, none⟩ = some v := (blk_cell h.out j).trans e
theorem bf_ {w : World} {g : Nat} {t : TypeId} {cs : Array Value} {h' : Nat} (h : Aside0 (w.heap[g]? = some (.cells cs t (0, 0)))) (hn : Aside0 (g ≠ h')) (p : Addr) (v : Value) (e : p.block = h') : Aside0 ((w.setCell p v).heap[g]? = some (.cells cs t (0, 0))) := ⟨blk_far h.out (by rw [e]; exact hn.out) v⟩
theorem ra_ {w w1 : World} {n g : Nat} {t : TypeId} {cs : Array Value} (hq : w.drewN n = w1) (h : Aside0 (w.heap[g]? = some (.cells cs t (0, 0)))) : Aside0 (w1.heap[g]? = some (.cells cs t (0, 0))) := ⟨blk_at hq h.out⟩
theorem rb_ {w w1 w0 : World} {n s : Nat} (hq : w.drewN n = w1) (h : Aside0 (Below s w0 w)) : Aside0 (Below s w0 w1) := ⟨below_at hq h.out⟩
theorem sa_ {α : Type} (l : List α) (i : Nat) (a : α) : l.toArray.setIfInBounds i a = (l.set i a).toArray := List.setIfInBounds_toArray ..
theorem sb_ {α : Type} (x : α) (l : List α) (b : α) : (x :: l).set 0 b = b :: l := rfl
theorem sc_ {α : Type} (x : α) (l : List α) (n : Nat) (b : α) : (x :: l).set (n + 1) b = x :: l.set n b := rfl
theorem an_ {md : Region.Mode} {ops : Array Oper} {T : Bool × List (List Nat × List Nat)} {l l' : Array Bool} {i : Nat} (hT : Aside0 (rtab md ops = T)) (h : anyT T l.toList l'.toList i = true := by kernel_rfl) : anyB md ops l l' i = true := any_of hT.out h
theorem on_ {md : Region.Mode} {ops : Array Oper} {T : Bool × List (List Nat × List Nat)} {l l' : Array Bool} {i : Nat} (hT : Aside0 (rtab md ops = T)) (h : (readyT T.2 l.toList == [i] && l.toList.set i true == l'.toList) = true := by kernel_rfl) : readyB md ops l l' i = true := one_of hT.out h
theorem tk_ {md : Region.Mode} {ops : Array Oper} {T : Bool × List (List Nat × List Nat)} {l l' : Array Bool} {ds : List Nat} {i : Nat} {B : List Nat} (hT : Aside0 (rtab md ops = T)) (hB : Aside0 (waitsOk T.2 B = true)) (h : takeW T B ds l.toList l'.toList i = true := by kernel_rfl) : takeB md ops ds l l' i = true := take_ofW hT.out hB.out h
theorem w64_0 : wrap64 0 = 0 := by decide +kernel
theorem w64_1 : wrap64 1 = 1 := by decide +kernel
theorem w64_2 : wrap64 2 = 2 := by decide +kernel
theorem w64_3 : wrap64 3 = 3 := by decide +kernel
theorem w64_4 : wrap64 4 = 4 := by decide +kernel
theorem w64_5 : wrap64 5 = 5 := by decide +kernel
theorem w64_6 : wrap64 6 = 6 := by decide +kernel
theorem w64_7 : wrap64 7 = 7 := by decide +kernel
theorem tm4_0 : Int.tmod 0 4 = 0 := by decide
theorem tm4_1 : Int.tmod 1 4 = 1 := by decide
theorem tm4_2 : Int.tmod 2 4 = 2 := by decide
theorem tm4_3 : Int.tmod 3 4 = 3 := by decide
theorem tm4_4 : Int.tmod 4 4 = 0 := by decide
theorem tm4_5 : Int.tmod 5 4 = 1 := by decide
theorem tm4_6 : Int.tmod 6 4 = 2 := by decide
theorem tm4_7 : Int.tmod 7 4 = 3 := by decide
end Go.Proofs.YtpnpmeogffodgaaDoor.Q
end
section
namespace Go.Proofs.YtpnpmeogffodgaaDoor.Q
open Go.RowKit Go.Proofs.YtpnpmeogffodgaaDoorW.PrintWords Go.Proofs.YtpnpmeogffodgaaDoorW.PrintLast Go.Proofs.YtpnpmeogffodgaaDoorW.PrintMore
section
variable {P : Program} {d : Nat} {xs ys : Array Value} {e : TypeId} {c j : Nat} {js : List Nat} {a b : Value} {r s : Bool} {w : World}
theorem eqi_last (ha : (part e xs (j * c)).run P w = .ok a w) (hb : (part e ys (j * c)).run P w = .ok b w) (he : (Op.equalIn d e a b).run P w = .ok r w) : (Op.eqItems d e c xs ys [j]).run P w = .ok r w := by
  simp only [Op.eqItems, Sem.run_bind, ha, hb, he, Result.andThen_ok]
  cases r <;> simp
theorem eqi_cons (ha : (part e xs (j * c)).run P w = .ok a w) (hb : (part e ys (j * c)).run P w = .ok b w) (he : (Op.equalIn d e a b).run P w = .ok r w) (hr : (Op.eqItems d e c xs ys js).run P w = .ok s w) : (Op.eqItems d e c xs ys (j :: js)).run P w = .ok (r && s) w := by
  simp only [Op.eqItems, Sem.run_bind, ha, hb, he, Result.andThen_ok]
  cases r
  · simp
  · simpa using hr
theorem eqarr_of {t : TypeId} {n : Nat} {l : List Nat} (hu : P.underlying t = some (.array n e)) (hi : (P.info? e).isSome = true) (hc : P.cellsOf e = c) (hl : List.range n = l) (h : (Op.eqItems d e c xs ys l).run P w = .ok r w) : (Op.equalIn (d + 1) t (.agg xs) (.agg ys)).run P w = .ok r w := by
  obtain ⟨i, hi⟩ := Option.isSome_iff_exists.mp hi
  rw [Go.run_equalIn_array w d xs ys hu hi, hc, hl]
  exact h
end
end Go.Proofs.YtpnpmeogffodgaaDoor.Q
end
section
namespace Go.Proofs.YtpnpmeogffodgaaDoor.Q
open Go.RowKit Go.Proofs.YtpnpmeogffodgaaDoorW.PrintWords Go.Proofs.YtpnpmeogffodgaaDoorW.PrintLast Go.Proofs.YtpnpmeogffodgaaDoorW.PrintMore
attribute [local go_sem] max2_int min2_int max_two min_two max_three min_three max_four min_four run_store_fnV run_store_fnc run_store_nfn   -- for this text's walks alone
set_option linter.unusedVariables false
set_option linter.unusedSimpArgs false

theorem eqA36 (d : Nat) (w : World) (x0 y0 : Int) (x1 y1 : Int) :
    (Op.equalIn (d + 2) 36 (.agg #[.int .u64 x0, .int .u64 x1]) (.agg #[.int .u64 y0, .int .u64 y1])).run Tryd.prog w = .ok (x0 == y0 && (x1 == y1)) w := by
  refine eqarr_of (c := 1) (l := [0, 1]) Tryd.underlying36 (by kernel_rfl) (by kernel_rfl) (by rfl) ?_
  refine eqi_cons (by go_simp; rfl) (by go_simp; rfl) (by go_simp) ?_
  exact eqi_last (by go_simp; rfl) (by go_simp; rfl) (by go_simp)
end Go.Proofs.YtpnpmeogffodgaaDoor.Q
end
section
namespace Go.Proofs.YtpnpmeogffodgaaDoor.Q
open Go.RowKit Go.Proofs.YtpnpmeogffodgaaDoorW.PrintWords Go.Proofs.YtpnpmeogffodgaaDoorW.PrintLast Go.Proofs.YtpnpmeogffodgaaDoorW.PrintMore
attribute [local go_sem] max2_int min2_int max_two min_two max_three min_three max_four min_four run_store_fnV run_store_fnc run_store_nfn   -- for this text's walks alone
set_option linter.unusedVariables false
set_option linter.unusedSimpArgs false

-- BY HAND: function 37 (tree_height): Derived.Test.YtpnpmeogffodgaaDoorHHeight

/-! ### field_Valid: function 38 -/
def field_Valid.f (a0 : Int) : Option (Bool) := if a0 ≥ 0 then (some (decide (a0 < 4))) else (some false)
set_option maxHeartbeats 8000000 in
set_option maxRecDepth 100000 in
theorem field_Valid.calls (a0 : Int) (r : Bool) (w : World) (h : field_Valid.f a0 = some r) :
    Calls Tryd.prog 38 #[.int .i64 a0] w fun e w' => e = .returned (.bool r) ∧ Drawn0 w w' := by
  have H : (if a0 ≥ 0 then (some (decide (a0 < 4))) else (some false)) = some r := h
  clear h
  by_cases c2 : a0 ≥ 0
  · rw [if_pos c2] at H
    have c2b0 : decide (0 ≤ a0) = true := decide_eq_true c2
    clear c2
    obtain rfl := Option.some.inj H
    go_enter Tryd.func38, Tryd.ntmps38
    go_wp2
    go_ret
    exact ⟨by first | rfl | (simp; done) | (simp [*]; done), by repeat (first | exact Drawn0.refl _ | apply Drawn0.step)⟩
  · rw [if_neg c2] at H
    have c2b0 : decide (0 ≤ a0) = false := decide_eq_false c2
    clear c2
    obtain rfl := Option.some.inj H
    go_enter Tryd.func38, Tryd.ntmps38
    go_wp2
    go_ret
    exact ⟨by first | rfl | (simp; done) | (simp [*]; done), by repeat (first | exact Drawn0.refl _ | apply Drawn0.step)⟩

-- NOT PRINTED: function 70 (field_of)

end Go.Proofs.YtpnpmeogffodgaaDoor.Q
end
section
namespace Go.Proofs.YtpnpmeogffodgaaDoor.Q
open Go.RowKit Go.Proofs.YtpnpmeogffodgaaDoorW.PrintWords Go.Proofs.YtpnpmeogffodgaaDoorW.PrintLast Go.Proofs.YtpnpmeogffodgaaDoorW.PrintMore
set_option linter.unusedVariables false
set_option linter.unusedSimpArgs false
theorem proper1_calls (gp : Nat) (p d0 d1 : Int) (w : World) (hp : w.cell? ⟨gp, 0, none⟩ = some (.int .u64 p)) :
    Calls Tryd.prog 60 #[.agg #[.int .u64 d0, .int .u64 d1], .pointer (some ⟨gp, 0, none⟩)] w fun e w' => e = .returned (.bool (decide (p ≤ d0) || decide (p ≤ d1))) ∧ Below w.heap.size w w' := by
  have hu36 := Tryd.underlying36
  have g0 := fun O => pw_cell_below (below_alloc (Below.refl _ w) O) hp
  clear hp
  cases c0 : decide (p ≤ d0) with
  | true =>
    go_enter Tryd.func60, Tryd.ntmps60
    go_wp2
    go_ret
    exact ⟨rfl, below_alloc (Below.refl _ _) _⟩
  | false =>
    cases c1 : decide (p ≤ d1) with
    | true =>
      go_enter Tryd.func60, Tryd.ntmps60
      go_wp2
      go_ret
      exact ⟨rfl, below_alloc (Below.refl _ _) _⟩
    | false =>
      go_enter Tryd.func60, Tryd.ntmps60
      go_wp2
      go_ret
      exact ⟨rfl, below_alloc (Below.refl _ _) _⟩
/-- Is a digest not proper? -/
def badD (p : Int) (d : S36) : Bool := decide (p ≤ d.f0) || decide (p ≤ d.f1)
def idxD (p : Int) (l : List S36) : Nat → Nat → Int
  | 0, _ => -1
  | k + 1, i => if i < l.length then (if badD p (rd_T36 l (i : Int)) = true then (i : Int) else idxD p l k (i + 1)) else -1
set_option maxHeartbeats 2000000 in
set_option maxRecDepth 100000 in
theorem index_calls (gp : Nat) (p : Int) (A1 : Option Addr) (c1 : Nat) (l1 : List (S36)) (r : Int) (w : World) (hp : w.cell? ⟨gp, 0, none⟩ = some (.int .u64 p)) (hr1 : Kd.C k36 w A1 l1.length l1) (hc1 : l1.length ≤ c1) (h : idxD p l1 (l1.length + 1) 0 = r) :
    Calls Tryd.prog 71 #[.slice A1 l1.length c1, .func (.func 60) #[] #[.pointer (some ⟨gp, 0, none⟩)]] w fun e w' => e = .returned (.int .i64 r) ∧ Below w.heap.size w w' := by
  have hu36 := Tryd.underlying36
  have HR1 := Aside0.mk hr1
  have HP := Aside0.mk hp
  have HC1 := Aside0.mk hc1
  have H' := Aside0.mk h
  have hl : l1.length ≤ 9223372036854775807 := Kd.C_max hr1
  have HL := Aside0.mk hl
  clear hr1 hc1 hp h hl
  have HB := Aside0.mk (Below.refl w.heap.size w)
  go_enter Tryd.func71, Tryd.ntmps71
  go_wp2
  go_loopg [8] (l1.length + 1) (fun kq v8 w' => ∃ i : Nat, v8 = .int .i64 (i : Int) ∧ Aside0 (idxD p l1 kq i = r) ∧ Aside0 (kq + i = l1.length + 1) ∧ Aside0 (Below w.heap.size w w'))
  case atStart => exact ⟨0, rfl, H', ⟨rfl⟩, HB⟩
  case round =>
    clear H' HB
    obtain ⟨i, rfl, HA, HK, HB⟩ := hrel
    cases gk with
    | zero =>
      have c3b0 : decide (i < l1.length) = false := decide_eq_false (by have := HK.out; omega)
      obtain rfl : -1 = r := HA.out
      go_wp2
      go_ret
      exact ⟨rfl, HB.out⟩
    | succ k1 =>
      have H := HA.out
      clear HA
      simp only [idxD] at H
      by_cases c3 : i < l1.length
      · rw [if_pos c3] at H
        have c3b0 : decide (i < l1.length) = true := decide_eq_true c3
        have p271 : 0 ≤ (i : Int) := by omega
        have q271 : (i : Int) < (l1.length : Int) := by omega
        clear c3
        have hadd : wrap64 ((i : Int) + 1) = ((i + 1 : Nat) : Int) := by have := HL.out; unfold wrap64; omega
        obtain ⟨ad271, e271, hx271_0, hx271_1⟩ := at_T36 HR1.out (i : Int) p271 q271
        cases e271
        simp only [Int.toNat_natCast] at hx271_0 hx271_1
        replace hx271_0 := (HB.out.cell (World.block_lt_of_cell? w _ hx271_0)).trans hx271_0
        replace hx271_1 := (HB.out.cell (World.block_lt_of_cell? w _ hx271_1)).trans hx271_1
        replace p271 := eq_true p271
        replace q271 := eq_true q271
        have HC := Aside0.mk (fun W (hp : W.cell? ⟨gp, 0, none⟩ = some (.int .u64 p)) => proper1_calls gp p (rd_T36 l1 (i : Int)).f0 (rd_T36 l1 (i : Int)).f1 W hp)
        have HP2 := Aside0.mk (pw_cell_below HB.out HP.out)
        by_cases c6 : badD p (rd_T36 l1 (i : Int)) = true
        · rw [if_pos c6] at H
          obtain rfl := H
          have c6b : (decide (p ≤ (rd_T36 l1 (i : Int)).f0) || decide (p ≤ (rd_T36 l1 (i : Int)).f1)) = true := c6
          clear c6
          rw [c6b] at HC
          go_wp2_with (go_at_call 60; (with_reducible refine (HC.out _ HP2.out).mono ?_); rintro e w7 ⟨rfl, hb⟩; have HB7 := Aside0.mk (below_step HB.out hb); clear hb)
          go_ret
          exact ⟨rfl, HB7.out⟩
        · rw [if_neg c6] at H
          have c6b : (decide (p ≤ (rd_T36 l1 (i : Int)).f0) || decide (p ≤ (rd_T36 l1 (i : Int)).f1)) = false := Bool.eq_false_iff.mpr c6
          clear c6
          rw [c6b] at HC
          have H2 := Aside0.mk H
          clear H
          go_wp2_with (go_at_call 60; (with_reducible refine (HC.out _ HP2.out).mono ?_); rintro e w7 ⟨rfl, hb⟩; have HB7 := Aside0.mk (below_step HB.out hb); clear hb)
          go_roundg k1
          case measure => omega
          case rel => exact ⟨i + 1, by rw [hadd], H2, ⟨by have := HK.out; omega⟩, HB7⟩
      · rw [if_neg c3] at H
        have c3b0 : decide (i < l1.length) = false := decide_eq_false (by omega)
        obtain rfl : -1 = r := H
        clear c3
        go_wp2
        go_ret
        exact ⟨rfl, HB.out⟩
theorem idx_bad (p : Int) (l : List S36) : ∀ k i, k + i = l.length + 1 → decide (0 ≤ idxD p l k i) = (l.drop i).any (badD p)
  | 0, i, h => by
    rw [List.drop_eq_nil_of_le (by omega)]
    simp [idxD]
  | k + 1, i, h => by
    unfold idxD
    by_cases hi : i < l.length
    · rw [if_pos hi, List.drop_eq_getElem_cons hi, List.any_cons]
      have e : rd_T36 l (i : Int) = l[i] := by simp [rd_T36, List.getD, hi]
      rw [e]
      by_cases hb : badD p l[i] = true
      · rw [if_pos hb, hb, Bool.true_or]
        exact decide_eq_true (by omega)
      · rw [if_neg hb, Bool.eq_false_iff.mpr hb, Bool.false_or]
        exact idx_bad p l k (i + 1) (by omega)
    · rw [if_neg hi, List.drop_eq_nil_of_le (by omega)]
      simp
set_option maxHeartbeats 2000000 in
set_option maxRecDepth 100000 in
theorem contains_calls (gp : Nat) (p : Int) (A1 : Option Addr) (c1 : Nat) (l1 : List (S36)) (w : World) (hp : w.cell? ⟨gp, 0, none⟩ = some (.int .u64 p)) (hr1 : Kd.C k36 w A1 l1.length l1) (hc1 : l1.length ≤ c1) :
    Calls Tryd.prog 59 #[.slice A1 l1.length c1, .func (.func 60) #[] #[.pointer (some ⟨gp, 0, none⟩)]] w fun e w' => e = .returned (.bool (l1.any (badD p))) ∧ Below w.heap.size w w' := by
  have HC := Aside0.mk (index_calls gp p A1 c1 l1 _ w hp hr1 hc1 rfl)
  have hb : decide (0 ≤ idxD p l1 (l1.length + 1) 0) = l1.any (badD p) := by have := idx_bad p l1 (l1.length + 1) 0 rfl; rw [List.drop_zero] at this; exact this
  generalize idxD p l1 (l1.length + 1) 0 = r at *
  rw [← hb]
  clear hb hp hr1 hc1
  go_enter Tryd.func59, Tryd.ntmps59
  go_wp2_with (go_at_call 71; (with_reducible refine HC.out.mono ?_); rintro e w7 ⟨rfl, hb⟩; have HB7 := Aside0.mk hb; clear hb)
  go_ret
  exact ⟨rfl, HB7.out⟩
def tree_proper.f (f : Int) (l : List S36) : Option Bool := (field_P.f f).bind fun p => some (!(l.any (badD p)))
set_option maxHeartbeats 2000000 in
set_option maxRecDepth 100000 in
theorem tree_proper.calls (a0 : Int) (A1 : Option Addr) (c1 : Nat) (l1 : List (S36)) (r : Bool) (w : World) (hr1 : Kd.C k36 w A1 l1.length l1) (hc1 : l1.length ≤ c1) (hrG : GL w) (h : tree_proper.f a0 l1 = some r) :
    Calls Tryd.prog 39 #[.int .i64 a0, .slice A1 l1.length c1] w fun e w' => e = .returned (.bool r) ∧ Below w.heap.size w w' := by
  have HRG := Aside0.mk hrG
  have HR1 := Aside0.mk hr1
  obtain ⟨p, A0, H⟩ := Option.bind_eq_some_iff.mp h
  have HPC := Aside0.mk (field_P.calls a0 p w hrG A0)
  have hmf : ∀ (fn : Fn) (first cap : Array Value) (w : World), (Instr.makeFunc fn first cap).run Tryd.prog w = .ok (.func fn first cap) w := fun _ _ _ _ => rfl
  obtain rfl := Option.some.inj H
  clear h H A0 hrG hr1
  have HC := Aside0.mk (fun (gp : Nat) (W : World) (hb : Below w.heap.size w W) hp => contains_calls gp p A1 c1 l1 W hp (Kd.C_below HR1.out hb) hc1)
  generalize l1.any (badD p) = b at *
  go_enter Tryd.func39, Tryd.ntmps39
  go_wp2_with (first
    | (go_at_call 58; (with_reducible refine HPC.out.mono ?_); rintro e w3 ⟨rfl, hb⟩; have HB3 := Aside0.mk hb; clear hb)
    | ((with_reducible refine gate_dst (N := 5) rfl ?_); refine box_event ?hg (N := 5) ?hd (cs := #[.int .u64 0]) (t := 34) ?hr ?_; (case hd => rfl); (case hg => rfl); (case hr => first | (go_simp; done) | (go_simp; rfl)); intro gp xg w4 y4 hb; have HB4 := Aside0.mk (below_step HB3.out hb); have B4 := Aside0.mk y4; have HG := Aside0.mk (show w.heap.size ≤ gp from xg ▸ HB3.out.size); have hx4 : w4.cell? ⟨gp, 0, none⟩ = some (.int .u64 0) := (blk_cell y4 0).trans rfl; have hf4 := blk_frozen y4 0; clear xg y4 hb HB3)
    | ((with_reducible refine gate_store (t := 34) (p := 5) rfl ?_); refine store_event (t := 34) (p := 5) (v := .tmp 7) (w1 := (w4.setCell ⟨gp, 0, none⟩ (.int .u64 p))) ?hg ?ho ?hn ?hr ?_; (case ho => rfl); (case hg => rfl); (case hn => rfl); (case hr => first | (go_simp; done) | (go_simp; rfl)); intro w5 hw; have HB5 := Aside0.mk (show Below w.heap.size w w5 from by rw [hw]; exact below_set HB4.out HG.out); have C5 := Aside0.mk (show w5.cell? ⟨gp, 0, none⟩ = some (.int .u64 p) from by rw [hw]; exact (blk_cell (blk_put B4.out 0 _ rfl) 0).trans rfl); clear hw hx4 hf4)
    | (go_at_call 59; (with_reducible refine (HC.out _ _ HB5.out C5.out).mono ?_); rintro e w6 ⟨rfl, hb⟩; have HB6 := Aside0.mk (below_step HB5.out hb); clear hb))
  go_ret
  exact ⟨rfl, HB6.out⟩
end Go.Proofs.YtpnpmeogffodgaaDoor.Q
end
section
namespace Go.Proofs.YtpnpmeogffodgaaDoor.Q
open Go.RowKit Go.Proofs.YtpnpmeogffodgaaDoorW.PrintWords Go.Proofs.YtpnpmeogffodgaaDoorW.PrintLast Go.Proofs.YtpnpmeogffodgaaDoorW.PrintMore
attribute [local go_sem] max2_int min2_int max_two min_two max_three min_three max_four min_four run_store_fnV run_store_fnc run_store_nfn   -- for this text's walks alone
set_option linter.unusedVariables false
set_option linter.unusedSimpArgs false

/-! ### tree_Valid: function 16 -/
mutual
def tree_Valid.j0 : Nat → Bool → Int → Int → Int → List (List (S36)) → Option (Bool)
  | 0, _, _, _, _, _ => none
  | k + 1, x42, x154000, x154001, x154002, x154003 => if x42 = true then (some false) else (tree_Valid.l0 k x154003 (x154003.length : Int) 0 x154000 x154001 x154002 x154003)
def tree_Valid.l0 : Nat → List (List (S36)) → Int → Int → Int → Int → Int → List (List (S36)) → Option (Bool)
  | 0, _, _, _, _, _, _, _ => none
  | k + 1, x44, x45, x46, x154000, x154001, x154002, x154003 => if x46 < x45 then (if 0 ≤ x46 then (if x46 < (x44.length : Int) then (if 0 ≤ (wrap64 (x154001 - x46)) then (if ((rd_L3 x44 x46).length : Int) = (shl .i64 1 (wrap64 (x154001 - x46))) then ((tree_proper.f x154000 (rd_L3 x44 x46)).bind fun t156 => (if t156 = true then (tree_Valid.l0 k x44 x45 (wrap64 (x46 + 1)) x154000 x154001 x154002 x154003) else (some false))) else (some false)) else (none)) else (none)) else (none)) else (some true)
end
def tree_Valid.f (k : Nat) (a0_0 : Int) (a0_1 : Int) (a0_2 : Int) (l0_3 : List (List (S36))) : Option (Bool) := (field_Valid.f a0_0).bind fun t154 => (if t154 = true then (if a0_1 < 0 then (tree_Valid.j0 k true a0_0 a0_1 a0_2 l0_3) else (if a0_1 > 18 then (tree_Valid.j0 k true a0_0 a0_1 a0_2 l0_3) else (if a0_2 < 0 then (tree_Valid.j0 k true a0_0 a0_1 a0_2 l0_3) else (if a0_2 > a0_1 then (tree_Valid.j0 k true a0_0 a0_1 a0_2 l0_3) else (tree_Valid.j0 k ((l0_3.length : Int) != (wrap64 ((wrap64 (a0_1 - a0_2)) + 1))) a0_0 a0_1 a0_2 l0_3))))) else (tree_Valid.j0 k true a0_0 a0_1 a0_2 l0_3))
theorem tree_Valid.mono_l : ∀ k, (∀ y0 y1 y2 y3 y4, LeO (tree_Valid.j0 k y0 y1 y2 y3 y4) (tree_Valid.j0 (k + 1) y0 y1 y2 y3 y4)) ∧ (∀ y0 y1 y2 y3 y4 y5 y6, LeO (tree_Valid.l0 k y0 y1 y2 y3 y4 y5 y6) (tree_Valid.l0 (k + 1) y0 y1 y2 y3 y4 y5 y6))
  | 0 => ⟨fun _ _ _ _ _ r h => by simp [tree_Valid.j0] at h, fun _ _ _ _ _ _ _ r h => by simp [tree_Valid.l0] at h⟩
  | k + 1 => by
    obtain ⟨ih0, ih1⟩ := tree_Valid.mono_l k
    refine ⟨?_, ?_⟩
    · intro y0 y1 y2 y3 y4
      unfold tree_Valid.j0
      repeat' first
      | (with_reducible exact ih0 _ _ _ _ _)
      | (with_reducible exact ih1 _ _ _ _ _ _ _)
      | (with_reducible exact LeO.refl _)
      | (with_reducible exact LeO.none _)
      | (with_reducible refine LeO.ite ?_ ?_)
      | (with_reducible refine LeO.bind ?_ (fun _ => ?_))
      | exact ih0 _ _ _ _ _
      | exact ih1 _ _ _ _ _ _ _
      | exact LeO.none _
      | refine LeO.ite ?_ ?_
      | refine LeO.bind ?_ (fun _ => ?_)
    · intro y0 y1 y2 y3 y4 y5 y6
      unfold tree_Valid.l0
      repeat' first
      | (with_reducible exact ih0 _ _ _ _ _)
      | (with_reducible exact ih1 _ _ _ _ _ _ _)
      | (with_reducible exact LeO.refl _)
      | (with_reducible exact LeO.none _)
      | (with_reducible refine LeO.ite ?_ ?_)
      | (with_reducible refine LeO.bind ?_ (fun _ => ?_))
      | exact ih0 _ _ _ _ _
      | exact ih1 _ _ _ _ _ _ _
      | exact LeO.none _
      | refine LeO.ite ?_ ?_
      | refine LeO.bind ?_ (fun _ => ?_)
theorem tree_Valid.mono : ∀ a0 a1 a2 a3 k, LeO (tree_Valid.f k a0 a1 a2 a3) (tree_Valid.f (k + 1) a0 a1 a2 a3) := by
  intro a0 a1 a2 a3 k
  obtain ⟨ih0, ih1⟩ := tree_Valid.mono_l k
  unfold tree_Valid.f
  repeat' first
      | (with_reducible exact ih0 _ _ _ _ _)
      | (with_reducible exact ih1 _ _ _ _ _ _ _)
      | (with_reducible exact LeO.refl _)
      | (with_reducible exact LeO.none _)
      | (with_reducible refine LeO.ite ?_ ?_)
      | (with_reducible refine LeO.bind ?_ (fun _ => ?_))
      | exact ih0 _ _ _ _ _
      | exact ih1 _ _ _ _ _ _ _
      | exact LeO.none _
      | refine LeO.ite ?_ ?_
      | refine LeO.bind ?_ (fun _ => ?_)
set_option maxHeartbeats 8000000 in
set_option maxRecDepth 100000 in
theorem tree_Valid.calls (k : Nat) (a0_0 : Int) (a0_1 : Int) (a0_2 : Int) (A0_3 : Option Addr) (c0_3 : Nat) (l0_3 : List (List (S36))) (r : Bool) (w : World) (hr0_3 : Kd.C (Kd.slice 36 k36) w A0_3 l0_3.length l0_3) (hc0_3 : l0_3.length ≤ c0_3) (hrG : GL w) (h : tree_Valid.f k a0_0 a0_1 a0_2 l0_3 = some r) :
  Calls Tryd.prog 16 #[.agg #[.int .i64 a0_0, .int .i64 a0_1, .int .i64 a0_2, .slice A0_3 l0_3.length c0_3]] w fun e w' => e = .returned (.bool r) ∧ Below w.heap.size w w' := by
 have hu26 := Tryd.underlying26
 have HRG := Aside0.mk hrG
 clear hrG
 have HR0_3 := Aside0.mk hr0_3
 have HC0_3 := Aside0.mk hc0_3
 clear hr0_3 hc0_3
 have HB := Aside0.mk (Below.refl w.heap.size w)
 have H : ((field_Valid.f a0_0).bind fun t154 => (if t154 = true then (if a0_1 < 0 then (tree_Valid.j0 k true a0_0 a0_1 a0_2 l0_3) else (if a0_1 > 18 then (tree_Valid.j0 k true a0_0 a0_1 a0_2 l0_3) else (if a0_2 < 0 then (tree_Valid.j0 k true a0_0 a0_1 a0_2 l0_3) else (if a0_2 > a0_1 then (tree_Valid.j0 k true a0_0 a0_1 a0_2 l0_3) else (tree_Valid.j0 k ((l0_3.length : Int) != (wrap64 ((wrap64 (a0_1 - a0_2)) + 1))) a0_0 a0_1 a0_2 l0_3))))) else (tree_Valid.j0 k true a0_0 a0_1 a0_2 l0_3))) = some r := h
 clear h
 have HC2 := Aside0.mk H
 clear H
 go_enter Tryd.func16, Tryd.ntmps16
 go_upto_region 1 with (first | ((with_reducible refine gate_dst (N := 1) rfl ?_); (try (refine gate_guard (by rfl) ?_; dsimp only)); refine box_event ?hg (N := 1) ?hd (cs := #[.int .i64 a0_0, .int .i64 a0_1, .int .i64 a0_2, .slice A0_3 l0_3.length c0_3]) (t := 26) ?hr ?_; (case hd => rfl); (case hg => rfl); (case hr => first | (go_simp; done) | (go_simp; rfl)); intro g153 hg w3 hbox hb; have n0_ := Aside0.mk (below_step (by repeat (first | (with_reducible first | exact HB.out | apply below_alloc | apply pw_below_drewN | apply below_drew1) | exact HB.out)) hb); have n1_ := Aside0.mk (hbox); have n2_ := Aside0.mk ((by rw [hg]; exact (below_size (by repeat (first | (with_reducible first | exact HB.out | apply below_alloc | apply pw_below_drewN | apply below_drew1) | exact HB.out))) : w.heap.size ≤ g153)); have n3_ := Aside0.mk ((by rw [hg]; exact (below_size (by repeat (first | (with_reducible first | exact HB.out | apply below_alloc | apply pw_below_drewN | apply below_drew1) | exact HB.out))) : w.heap.size ≤ g153)); clear HB; have HB := n0_; have B153 := n1_; have GW153 := n2_; have GE153 := n3_; clear n0_ n1_ n2_ n3_; clear hb hbox hg))
 (try simp only [Act.put, sa_, sb_, sc_])
 go_cut [42] (fun v42 wc => ∃ (kq : Nat) (x42_1 : Bool), v42 = .bool x42_1 ∧ Aside0 (tree_Valid.j0 kq x42_1 a0_0 a0_1 a0_2 l0_3 = some r) ∧ Aside0 (kq ≤ k) ∧ Aside0 (wc.heap[g153]? = some (.cells #[.int .i64 a0_0, .int .i64 a0_1, .int .i64 a0_2, (.slice A0_3 l0_3.length c0_3)] 26 (0, 0))) ∧ Aside0 (Below w.heap.size w wc))
 case first =>
  have H := HC2.out
  clear HC2
  replace H := Option.bind_eq_some_iff.mp H
  obtain ⟨t154, A40, H⟩ := H
  have A4 := Aside0.mk A40
  clear A40
  by_cases c5 : t154 = true
  ·subst c5
   have H1 : (if a0_1 < 0 then (tree_Valid.j0 k true a0_0 a0_1 a0_2 l0_3) else (if a0_1 > 18 then (tree_Valid.j0 k true a0_0 a0_1 a0_2 l0_3) else (if a0_2 < 0 then (tree_Valid.j0 k true a0_0 a0_1 a0_2 l0_3) else (if a0_2 > a0_1 then (tree_Valid.j0 k true a0_0 a0_1 a0_2 l0_3) else (tree_Valid.j0 k ((l0_3.length : Int) != (wrap64 ((wrap64 (a0_1 - a0_2)) + 1))) a0_0 a0_1 a0_2 l0_3))))) = some r := by rw [if_pos rfl] at H; exact H
   clear H
   have H := H1
   clear H1
   by_cases c6 : a0_1 < 0
   ·rw [if_pos c6] at H
    have c6b0 : decide (a0_1 < 0) = true := decide_eq_true c6
    clear c6
    (first | rw [c6b0] | (simp only [i64_w, i32_w]; rw [c6b0]) | skip)
    have H' := Aside0.mk H
    clear H
    have hcz7_0 : w3.cell? ⟨g153, 0, none⟩ = some (.int .i64 a0_0) := bq_ B153 0
    have hcz7_1 : w3.cell? ⟨g153, 1, none⟩ = some (.int .i64 a0_1) := bq_ B153 1
    have hcz7_2 : w3.cell? ⟨g153, 2, none⟩ = some (.int .i64 a0_2) := bq_ B153 2
    have hcz7_3 : w3.cell? ⟨g153, 3, none⟩ = some (.slice A0_3 l0_3.length c0_3) := bq_ B153 3
    have hfz7_0 := blk_frozen B153.out 0
    have hfz7_1 := blk_frozen B153.out 1
    have hfz7_2 := blk_frozen B153.out 2
    have hfz7_3 := blk_frozen B153.out 3
    go_wp2_with (first | ((with_reducible refine gate_callee (f := 38) rfl ?_); refine goesL_ (some 7) rfl rfl Tryd.func38 (by kernel_rfl) rfl #[.int .i64 a0_0] rfl (by (try simp only [List.map_toArray, List.map_cons, List.map_nil]); first | done | rfl | (go_simp; done)) ?_; (with_reducible refine (field_Valid.calls a0_0 true _ A4.out).mono ?_); rintro e w' ⟨rfl, ⟨nd, rfl⟩⟩; refine ⟨_, rfl, ?_⟩))
    go_meet
    case rel => exact ⟨_, (true), (by first | rfl | (simp; done) | (simp [*]; done) | (simp; rfl) | (simp; decide +kernel)), H', ⟨by first | omega | exact Nat.le_refl _⟩, ⟨by exact B153.out⟩, ⟨by repeat (first | (with_reducible first | exact HB.out | apply below_alloc | apply pw_below_drewN | apply below_drew1 | refine below_set ?_ GE153.out) | exact HB.out)⟩⟩
   ·rw [if_neg c6] at H
    have c6b0 : decide (a0_1 < 0) = false := decide_eq_false c6
    clear c6
    (first | rw [c6b0] | (simp only [i64_w, i32_w]; rw [c6b0]) | skip)
    by_cases c8 : a0_1 > 18
    ·rw [if_pos c8] at H
     have c8b0 : decide (18 < a0_1) = true := decide_eq_true c8
     clear c8
     have H' := Aside0.mk H
     clear H
     have hcz9_0 : w3.cell? ⟨g153, 0, none⟩ = some (.int .i64 a0_0) := bq_ B153 0
     have hcz9_1 : w3.cell? ⟨g153, 1, none⟩ = some (.int .i64 a0_1) := bq_ B153 1
     have hcz9_2 : w3.cell? ⟨g153, 2, none⟩ = some (.int .i64 a0_2) := bq_ B153 2
     have hcz9_3 : w3.cell? ⟨g153, 3, none⟩ = some (.slice A0_3 l0_3.length c0_3) := bq_ B153 3
     have hfz9_0 := blk_frozen B153.out 0
     have hfz9_1 := blk_frozen B153.out 1
     have hfz9_2 := blk_frozen B153.out 2
     have hfz9_3 := blk_frozen B153.out 3
     go_wp2_with (first | ((with_reducible refine gate_callee (f := 38) rfl ?_); refine goesL_ (some 7) rfl rfl Tryd.func38 (by kernel_rfl) rfl #[.int .i64 a0_0] rfl (by (try simp only [List.map_toArray, List.map_cons, List.map_nil]); first | done | rfl | (go_simp; done)) ?_; (with_reducible refine (field_Valid.calls a0_0 true _ A4.out).mono ?_); rintro e w' ⟨rfl, ⟨nd, rfl⟩⟩; refine ⟨_, rfl, ?_⟩))
     go_meet
     case rel => exact ⟨_, (true), (by first | rfl | (simp; done) | (simp [*]; done) | (simp; rfl) | (simp; decide +kernel)), H', ⟨by first | omega | exact Nat.le_refl _⟩, ⟨by exact B153.out⟩, ⟨by repeat (first | (with_reducible first | exact HB.out | apply below_alloc | apply pw_below_drewN | apply below_drew1 | refine below_set ?_ GE153.out) | exact HB.out)⟩⟩
    ·rw [if_neg c8] at H
     have c8b0 : decide (18 < a0_1) = false := decide_eq_false c8
     clear c8
     by_cases c10 : a0_2 < 0
     ·rw [if_pos c10] at H
      have c10b0 : decide (a0_2 < 0) = true := decide_eq_true c10
      clear c10
      have H' := Aside0.mk H
      clear H
      have hcz11_0 : w3.cell? ⟨g153, 0, none⟩ = some (.int .i64 a0_0) := bq_ B153 0
      have hcz11_1 : w3.cell? ⟨g153, 1, none⟩ = some (.int .i64 a0_1) := bq_ B153 1
      have hcz11_2 : w3.cell? ⟨g153, 2, none⟩ = some (.int .i64 a0_2) := bq_ B153 2
      have hcz11_3 : w3.cell? ⟨g153, 3, none⟩ = some (.slice A0_3 l0_3.length c0_3) := bq_ B153 3
      have hfz11_0 := blk_frozen B153.out 0
      have hfz11_1 := blk_frozen B153.out 1
      have hfz11_2 := blk_frozen B153.out 2
      have hfz11_3 := blk_frozen B153.out 3
      go_wp2_with (first | ((with_reducible refine gate_callee (f := 38) rfl ?_); refine goesL_ (some 7) rfl rfl Tryd.func38 (by kernel_rfl) rfl #[.int .i64 a0_0] rfl (by (try simp only [List.map_toArray, List.map_cons, List.map_nil]); first | done | rfl | (go_simp; done)) ?_; (with_reducible refine (field_Valid.calls a0_0 true _ A4.out).mono ?_); rintro e w' ⟨rfl, ⟨nd, rfl⟩⟩; refine ⟨_, rfl, ?_⟩))
      go_meet
      case rel => exact ⟨_, (true), (by first | rfl | (simp; done) | (simp [*]; done) | (simp; rfl) | (simp; decide +kernel)), H', ⟨by first | omega | exact Nat.le_refl _⟩, ⟨by exact B153.out⟩, ⟨by repeat (first | (with_reducible first | exact HB.out | apply below_alloc | apply pw_below_drewN | apply below_drew1 | refine below_set ?_ GE153.out) | exact HB.out)⟩⟩
     ·rw [if_neg c10] at H
      have c10b0 : decide (a0_2 < 0) = false := decide_eq_false c10
      clear c10
      by_cases c12 : a0_2 > a0_1
      ·rw [if_pos c12] at H
       have c12b0 : decide (a0_1 < a0_2) = true := decide_eq_true c12
       clear c12
       have H' := Aside0.mk H
       clear H
       have hcz13_0 : w3.cell? ⟨g153, 0, none⟩ = some (.int .i64 a0_0) := bq_ B153 0
       have hcz13_1 : w3.cell? ⟨g153, 1, none⟩ = some (.int .i64 a0_1) := bq_ B153 1
       have hcz13_2 : w3.cell? ⟨g153, 2, none⟩ = some (.int .i64 a0_2) := bq_ B153 2
       have hcz13_3 : w3.cell? ⟨g153, 3, none⟩ = some (.slice A0_3 l0_3.length c0_3) := bq_ B153 3
       have hfz13_0 := blk_frozen B153.out 0
       have hfz13_1 := blk_frozen B153.out 1
       have hfz13_2 := blk_frozen B153.out 2
       have hfz13_3 := blk_frozen B153.out 3
       go_wp2_with (first | ((with_reducible refine gate_callee (f := 38) rfl ?_); refine goesL_ (some 7) rfl rfl Tryd.func38 (by kernel_rfl) rfl #[.int .i64 a0_0] rfl (by (try simp only [List.map_toArray, List.map_cons, List.map_nil]); first | done | rfl | (go_simp; done)) ?_; (with_reducible refine (field_Valid.calls a0_0 true _ A4.out).mono ?_); rintro e w' ⟨rfl, ⟨nd, rfl⟩⟩; refine ⟨_, rfl, ?_⟩))
       go_meet
       case rel => exact ⟨_, (true), (by first | rfl | (simp; done) | (simp [*]; done) | (simp; rfl) | (simp; decide +kernel)), H', ⟨by first | omega | exact Nat.le_refl _⟩, ⟨by exact B153.out⟩, ⟨by repeat (first | (with_reducible first | exact HB.out | apply below_alloc | apply pw_below_drewN | apply below_drew1 | refine below_set ?_ GE153.out) | exact HB.out)⟩⟩
      ·rw [if_neg c12] at H
       have c12b0 : decide (a0_1 < a0_2) = false := decide_eq_false c12
       clear c12
       have H' := Aside0.mk H
       clear H
       have hcz14_0 : w3.cell? ⟨g153, 0, none⟩ = some (.int .i64 a0_0) := bq_ B153 0
       have hcz14_1 : w3.cell? ⟨g153, 1, none⟩ = some (.int .i64 a0_1) := bq_ B153 1
       have hcz14_2 : w3.cell? ⟨g153, 2, none⟩ = some (.int .i64 a0_2) := bq_ B153 2
       have hcz14_3 : w3.cell? ⟨g153, 3, none⟩ = some (.slice A0_3 l0_3.length c0_3) := bq_ B153 3
       have hfz14_0 := blk_frozen B153.out 0
       have hfz14_1 := blk_frozen B153.out 1
       have hfz14_2 := blk_frozen B153.out 2
       have hfz14_3 := blk_frozen B153.out 3
       go_wp2_with (first | ((with_reducible refine gate_callee (f := 38) rfl ?_); refine goesL_ (some 7) rfl rfl Tryd.func38 (by kernel_rfl) rfl #[.int .i64 a0_0] rfl (by (try simp only [List.map_toArray, List.map_cons, List.map_nil]); first | done | rfl | (go_simp; done)) ?_; (with_reducible refine (field_Valid.calls a0_0 true _ A4.out).mono ?_); rintro e w' ⟨rfl, ⟨nd, rfl⟩⟩; refine ⟨_, rfl, ?_⟩))
       go_meet
       case rel => exact ⟨_, (((l0_3.length : Int) != (wrap64 ((wrap64 (a0_1 - a0_2)) + 1)))), (by first | rfl | (simp; done) | (simp [*]; done) | (simp; rfl) | (simp; decide +kernel)), H', ⟨by first | omega | exact Nat.le_refl _⟩, ⟨by exact B153.out⟩, ⟨by repeat (first | (with_reducible first | exact HB.out | apply below_alloc | apply pw_below_drewN | apply below_drew1 | refine below_set ?_ GE153.out) | exact HB.out)⟩⟩
  ·replace c5 := Bool.eq_false_iff.mpr c5
   subst c5
   have H1 : (tree_Valid.j0 k true a0_0 a0_1 a0_2 l0_3) = some r := by rw [if_neg (show ¬ (false = true) by decide)] at H; exact H
   clear H
   have H := H1
   clear H1
   have H' := Aside0.mk H
   clear H
   have hcz15_0 : w3.cell? ⟨g153, 0, none⟩ = some (.int .i64 a0_0) := bq_ B153 0
   have hcz15_1 : w3.cell? ⟨g153, 1, none⟩ = some (.int .i64 a0_1) := bq_ B153 1
   have hcz15_2 : w3.cell? ⟨g153, 2, none⟩ = some (.int .i64 a0_2) := bq_ B153 2
   have hcz15_3 : w3.cell? ⟨g153, 3, none⟩ = some (.slice A0_3 l0_3.length c0_3) := bq_ B153 3
   have hfz15_0 := blk_frozen B153.out 0
   have hfz15_1 := blk_frozen B153.out 1
   have hfz15_2 := blk_frozen B153.out 2
   have hfz15_3 := blk_frozen B153.out 3
   go_wp2_with (first | ((with_reducible refine gate_callee (f := 38) rfl ?_); refine goesL_ (some 7) rfl rfl Tryd.func38 (by kernel_rfl) rfl #[.int .i64 a0_0] rfl (by (try simp only [List.map_toArray, List.map_cons, List.map_nil]); first | done | rfl | (go_simp; done)) ?_; (with_reducible refine (field_Valid.calls a0_0 false _ A4.out).mono ?_); rintro e w' ⟨rfl, ⟨nd, rfl⟩⟩; refine ⟨_, rfl, ?_⟩))
   go_meet
   case rel => exact ⟨_, (true), (by first | rfl | (simp; done) | (simp [*]; done) | (simp; rfl) | (simp; decide +kernel)), H', ⟨by first | omega | exact Nat.le_refl _⟩, ⟨by exact B153.out⟩, ⟨by repeat (first | (with_reducible first | exact HB.out | apply below_alloc | apply pw_below_drewN | apply below_drew1 | refine below_set ?_ GE153.out) | exact HB.out)⟩⟩
 case rest =>
  clear HC2
  try clear c1
  try clear p2
  try clear c3
  try clear c5
  try clear c6
  try clear c6b0
  try clear p6
  try clear c8
  try clear c8b0
  try clear c10
  try clear c10b0
  try clear c12
  try clear c12b0
  try clear hcz11_0
  try clear hcz11_1
  try clear hcz11_2
  try clear hcz11_3
  try clear hcz13_0
  try clear hcz13_1
  try clear hcz13_2
  try clear hcz13_3
  try clear hcz14_0
  try clear hcz14_1
  try clear hcz14_2
  try clear hcz14_3
  try clear hcz15_0
  try clear hcz15_1
  try clear hcz15_2
  try clear hcz15_3
  try clear hcz7_0
  try clear hcz7_1
  try clear hcz7_2
  try clear hcz7_3
  try clear hcz9_0
  try clear hcz9_1
  try clear hcz9_2
  try clear hcz9_3
  try clear hfz11_0
  try clear hfz11_1
  try clear hfz11_2
  try clear hfz11_3
  try clear hfz13_0
  try clear hfz13_1
  try clear hfz13_2
  try clear hfz13_3
  try clear hfz14_0
  try clear hfz14_1
  try clear hfz14_2
  try clear hfz14_3
  try clear hfz15_0
  try clear hfz15_1
  try clear hfz15_2
  try clear hfz15_3
  try clear hfz7_0
  try clear hfz7_1
  try clear hfz7_2
  try clear hfz7_3
  try clear hfz9_0
  try clear hfz9_1
  try clear hfz9_2
  try clear hfz9_3
  obtain ⟨kq, x42_1, rfl, HA, HJ1, B153, HB⟩ := hcut
  cases kq with
  | zero => exact absurd HA.out (by simp [tree_Valid.j0])
  | succ kj1 =>
   have H := HA.out
   clear HA
   simp only [tree_Valid.j0] at H
   by_cases c16 : x42_1 = true
   ·subst c16
    have H1 : (some false) = some r := by rw [if_pos rfl] at H; exact H
    clear H
    have H := H1
    clear H1
    obtain rfl := Option.some.inj H
    go_wp2
    go_ret
    exact ⟨by first | rfl | (simp [errW_none, errW_some] <;> rfl) | (simp [*, errW_none, errW_some] <;> rfl), by repeat (first | (with_reducible first | exact HB.out | apply below_alloc | apply pw_below_drewN | apply below_drew1 | refine below_set ?_ GE153.out) | exact HB.out)⟩
   ·replace c16 := Bool.eq_false_iff.mpr c16
    subst c16
    have H1 : (tree_Valid.l0 kj1 l0_3 (l0_3.length : Int) 0 a0_0 a0_1 a0_2 l0_3) = some r := by rw [if_neg (show ¬ (false = true) by decide)] at H; exact H
    clear H
    have H := H1
    clear H1
    have H' := Aside0.mk H
    clear H
    have hcz17_0 : wc.cell? ⟨g153, 0, none⟩ = some (.int .i64 a0_0) := bq_ B153 0
    have hcz17_1 : wc.cell? ⟨g153, 1, none⟩ = some (.int .i64 a0_1) := bq_ B153 1
    have hcz17_2 : wc.cell? ⟨g153, 2, none⟩ = some (.int .i64 a0_2) := bq_ B153 2
    have hcz17_3 : wc.cell? ⟨g153, 3, none⟩ = some (.slice A0_3 l0_3.length c0_3) := bq_ B153 3
    have hfz17_0 := blk_frozen B153.out 0
    have hfz17_1 := blk_frozen B153.out 1
    have hfz17_2 := blk_frozen B153.out 2
    have hfz17_3 := blk_frozen B153.out 3
    go_wp2
    go_loopg [46] kj1 (fun kq v46 w' => ∃ (x46_2 : Int), v46 = .int .i64 x46_2 ∧ Aside0 (tree_Valid.l0 kq l0_3 (l0_3.length : Int) x46_2 a0_0 a0_1 a0_2 l0_3 = some r) ∧ Aside0 (kq ≤ kj1) ∧ Aside0 (w'.heap[g153]? = some (.cells #[.int .i64 a0_0, .int .i64 a0_1, .int .i64 a0_2, (.slice A0_3 l0_3.length c0_3)] 26 (0, 0))) ∧ Aside0 (Below w.heap.size w w'))
    case atStart => exact ⟨(0), (by first | rfl | (simp; done) | (simp [*]; done) | (simp; rfl) | (simp; decide +kernel)), H', ⟨Nat.le_refl _⟩, ⟨by exact B153.out⟩, ⟨by repeat (first | (with_reducible first | exact HB.out | apply below_alloc | apply pw_below_drewN | apply below_drew1 | refine below_set ?_ GE153.out) | exact HB.out)⟩⟩
    case round =>
     clear H'
     try clear c1
     try clear p2
     try clear c3
     try clear c5
     try clear c6
     try clear c6b0
     try clear p6
     try clear c8
     try clear c8b0
     try clear c10
     try clear c10b0
     try clear c12
     try clear c12b0
     try clear c16
     try clear hcz11_0
     try clear hcz11_1
     try clear hcz11_2
     try clear hcz11_3
     try clear hcz13_0
     try clear hcz13_1
     try clear hcz13_2
     try clear hcz13_3
     try clear hcz14_0
     try clear hcz14_1
     try clear hcz14_2
     try clear hcz14_3
     try clear hcz15_0
     try clear hcz15_1
     try clear hcz15_2
     try clear hcz15_3
     try clear hcz17_0
     try clear hcz17_1
     try clear hcz17_2
     try clear hcz17_3
     try clear hcz7_0
     try clear hcz7_1
     try clear hcz7_2
     try clear hcz7_3
     try clear hcz9_0
     try clear hcz9_1
     try clear hcz9_2
     try clear hcz9_3
     try clear hfz11_0
     try clear hfz11_1
     try clear hfz11_2
     try clear hfz11_3
     try clear hfz13_0
     try clear hfz13_1
     try clear hfz13_2
     try clear hfz13_3
     try clear hfz14_0
     try clear hfz14_1
     try clear hfz14_2
     try clear hfz14_3
     try clear hfz15_0
     try clear hfz15_1
     try clear hfz15_2
     try clear hfz15_3
     try clear hfz17_0
     try clear hfz17_1
     try clear hfz17_2
     try clear hfz17_3
     try clear hfz7_0
     try clear hfz7_1
     try clear hfz7_2
     try clear hfz7_3
     try clear hfz9_0
     try clear hfz9_1
     try clear hfz9_2
     try clear hfz9_3
     try clear p2
     try clear p6
     obtain ⟨x46_2, rfl, HA, HK2, B153, HB⟩ := hrel
     cases gk with
     | zero => exact absurd HA.out (by simp [tree_Valid.l0])
     | succ k2 =>
      have H := HA.out
      clear HA
      simp only [tree_Valid.l0] at H
      by_cases c18 : x46_2 < (l0_3.length : Int)
      ·rw [if_pos c18] at H
       have c18b0 : decide (x46_2 < (l0_3.length : Int)) = true := decide_eq_true c18
       clear c18
       by_cases c19 : 0 ≤ x46_2
       ·rw [if_pos c19] at H
        have c19b0 : decide (0 ≤ x46_2) = true := decide_eq_true c19
        clear c19
        by_cases c20 : x46_2 < (l0_3.length : Int)
        ·rw [if_pos c20] at H
         have c20b0 : decide (x46_2 < (l0_3.length : Int)) = true := decide_eq_true c20
         clear c20
         obtain ⟨ji21, hji21⟩ : ∃ j_ : Int, (wrap64 (a0_1 - x46_2)) = j_ := ⟨_, rfl⟩
         replace H : (if 0 ≤ (ji21) then (if ((rd_L3 l0_3 x46_2).length : Int) = (shl .i64 1 (ji21)) then ((tree_proper.f a0_0 (rd_L3 l0_3 x46_2)).bind fun t156 => (if t156 = true then (tree_Valid.l0 k2 l0_3 (l0_3.length : Int) (wrap64 (x46_2 + 1)) a0_0 a0_1 a0_2 l0_3) else (some false))) else (some false)) else (none)) = some r := by first | (rw [hji21] at H; exact H) | (simp only [hji21] at H ⊢; exact H)
         have hji21w : (IntKind.i64.wrap (a0_1 - x46_2)) = ji21 := (i64_w _).trans hji21
         by_cases c22 : 0 ≤ (ji21)
         ·rw [if_pos c22] at H
          have c22b0 := eq_true c22
          have c22b1 : decide (0 ≤ (ji21)) = true := decide_eq_true c22
          clear c22
          obtain ⟨ji23, hji23⟩ : ∃ j_ : Int, (shl .i64 1 (ji21)) = j_ := ⟨_, rfl⟩
          replace H : (if ((rd_L3 l0_3 x46_2).length : Int) = (ji23) then ((tree_proper.f a0_0 (rd_L3 l0_3 x46_2)).bind fun t156 => (if t156 = true then (tree_Valid.l0 k2 l0_3 (l0_3.length : Int) (wrap64 (x46_2 + 1)) a0_0 a0_1 a0_2 l0_3) else (some false))) else (some false)) = some r := by first | (rw [hji23] at H; exact H) | (simp only [hji23] at H ⊢; exact H)
          have hji23_ : (IntKind.i64.wrap (1 * 2 ^ min (ji21).toNat 64)) = ji23 := hji23
          have hji23z : (ji21) ≤ 64 → (IntKind.i64.wrap (1 * 2 ^ (ji21).toNat)) = ji23 := shl_small hji23
          have hji23u : (IntKind.i64.wrap (2 ^ min (ji21).toNat 64)) = ji23 := by have h_ := hji23_; rw [Int.one_mul] at h_; exact h_
          have hji23v : (ji21) ≤ 64 → (IntKind.i64.wrap (2 ^ (ji21).toNat)) = ji23 := fun hle_ => by have h_ := hji23z hle_; rw [Int.one_mul] at h_; exact h_
          have hji23y : (wrap64 (1 * 2 ^ min (ji21).toNat 64)) = ji23 := (i64_w _).symm.trans hji23_
          have hji23x : (ji21) ≤ 64 → (wrap64 (1 * 2 ^ (ji21).toNat)) = ji23 := fun h_ => (i64_w _).symm.trans (hji23z h_)
          by_cases c24 : ((rd_L3 l0_3 x46_2).length : Int) = (ji23)
          ·rw [if_pos c24] at H
           have c24b0 : (((rd_L3 l0_3 x46_2).length : Int) == (ji23)) = true := beq_iff_eq.mpr c24
           have c24b1 : (((rd_L3 l0_3 x46_2).length : Int) != (ji23)) = false := bne_eq_false_iff_eq.mpr c24
           clear c24
           replace H := Option.bind_eq_some_iff.mp H
           obtain ⟨t156, A250, H⟩ := H
           have A25 := Aside0.mk A250
           clear A250
           by_cases c26 : t156 = true
           ·subst c26
            have H1 : (tree_Valid.l0 k2 l0_3 (l0_3.length : Int) (wrap64 (x46_2 + 1)) a0_0 a0_1 a0_2 l0_3) = some r := by rw [if_pos rfl] at H; exact H
            clear H
            have H := H1
            clear H1
            have H' := Aside0.mk H
            clear H
            have p155 : 0 ≤ (x46_2 : Int) := of_decide_eq_true (by first | (with_reducible assumption) | assumption)
            have q155 : x46_2 < (l0_3.length : Int) := of_decide_eq_true (by first | (with_reducible assumption) | assumption)
            obtain ⟨ad155, A155_0, c155_0, e155, hx155_0, hl155_0, hi155_0⟩ := at_L3 HR0_3.out x46_2 p155 q155
            cases e155
            replace hx155_0 := (HB.out.cell (World.block_lt_of_cell? w _ hx155_0)).trans hx155_0
            have HR155_0 := Aside0.mk hi155_0
            have HC155_0 := Aside0.mk hl155_0
            clear hi155_0 hl155_0
            replace p155 := eq_true p155
            replace q155 := eq_true q155
            have hcz27_0 : wr.cell? ⟨g153, 0, none⟩ = some (.int .i64 a0_0) := bq_ B153 0
            have hcz27_1 : wr.cell? ⟨g153, 1, none⟩ = some (.int .i64 a0_1) := bq_ B153 1
            have hcz27_2 : wr.cell? ⟨g153, 2, none⟩ = some (.int .i64 a0_2) := bq_ B153 2
            have hcz27_3 : wr.cell? ⟨g153, 3, none⟩ = some (.slice (some ad155) l0_3.length c0_3) := bq_ B153 3
            have hfz27_0 := blk_frozen B153.out 0
            have hfz27_1 := blk_frozen B153.out 1
            have hfz27_2 := blk_frozen B153.out 2
            have hfz27_3 := blk_frozen B153.out 3
            go_wp2_with (first | (go_at_call 39; (with_reducible refine (tree_proper.calls a0_0 _ _ (rd_L3 l0_3 x46_2) true _ ?side1 ?side2 ?side3 A25.out).mono ?_); (case side1 => repeat (first | exact (Kd.C_below HR155_0.out HB.out) | (with_reducible refine Kd.C_alloc ?_ _) | (with_reducible refine Kd.C_drewN ?_ _) | (with_reducible refine Kd.C_drew ?_))); (case side2 => exact HC155_0.out); (case side3 => repeat (first | exact (GL.below HRG.out HB.out) | (with_reducible refine GL.alloc ?_ _) | (with_reducible refine GL.drewN ?_ _) | (with_reducible refine GL.drew ?_))); rintro e w28 ⟨rfl, hb⟩; have n0_ := Aside0.mk (blk_below (g := g153) (o := .cells #[.int .i64 a0_0, .int .i64 a0_1, .int .i64 a0_2, .slice (some ad155) l0_3.length c0_3] 26 (0, 0)) (by exact B153.out) hb); have n1_ := Aside0.mk (below_step (by repeat (first | (with_reducible first | exact HB.out | apply below_alloc | apply pw_below_drewN | apply below_drew1 | refine below_set ?_ GE153.out) | exact HB.out)) hb); clear B153; clear HB; have B153 := n0_; have HB := n1_; clear n0_ n1_; (try clear hb); (try clear hb2); (try clear hk); (try clear hi)))
            go_roundg k2
            case measure => have := HJ1.out; have := HK2.out; omega
            case rel => exact ⟨(wrap64 (x46_2 + 1)), (by first | rfl | (simp; done) | (simp [*]; done) | (simp; rfl) | (simp; decide +kernel)), H', ⟨by have := HJ1.out; have := HK2.out; omega⟩, ⟨by exact B153.out⟩, ⟨by repeat (first | (with_reducible first | exact HB.out | apply below_alloc | apply pw_below_drewN | apply below_drew1 | refine below_set ?_ GE153.out) | exact HB.out)⟩⟩
           ·replace c26 := Bool.eq_false_iff.mpr c26
            subst c26
            have H1 : (some false) = some r := by rw [if_neg (show ¬ (false = true) by decide)] at H; exact H
            clear H
            have H := H1
            clear H1
            obtain rfl := Option.some.inj H
            have p155 : 0 ≤ (x46_2 : Int) := of_decide_eq_true (by first | (with_reducible assumption) | assumption)
            have q155 : x46_2 < (l0_3.length : Int) := of_decide_eq_true (by first | (with_reducible assumption) | assumption)
            obtain ⟨ad155, A155_0, c155_0, e155, hx155_0, hl155_0, hi155_0⟩ := at_L3 HR0_3.out x46_2 p155 q155
            cases e155
            replace hx155_0 := (HB.out.cell (World.block_lt_of_cell? w _ hx155_0)).trans hx155_0
            have HR155_0 := Aside0.mk hi155_0
            have HC155_0 := Aside0.mk hl155_0
            clear hi155_0 hl155_0
            replace p155 := eq_true p155
            replace q155 := eq_true q155
            have hcz29_0 : wr.cell? ⟨g153, 0, none⟩ = some (.int .i64 a0_0) := bq_ B153 0
            have hcz29_1 : wr.cell? ⟨g153, 1, none⟩ = some (.int .i64 a0_1) := bq_ B153 1
            have hcz29_2 : wr.cell? ⟨g153, 2, none⟩ = some (.int .i64 a0_2) := bq_ B153 2
            have hcz29_3 : wr.cell? ⟨g153, 3, none⟩ = some (.slice (some ad155) l0_3.length c0_3) := bq_ B153 3
            have hfz29_0 := blk_frozen B153.out 0
            have hfz29_1 := blk_frozen B153.out 1
            have hfz29_2 := blk_frozen B153.out 2
            have hfz29_3 := blk_frozen B153.out 3
            go_wp2_with (first | (go_at_call 39; (with_reducible refine (tree_proper.calls a0_0 _ _ (rd_L3 l0_3 x46_2) false _ ?side1 ?side2 ?side3 A25.out).mono ?_); (case side1 => repeat (first | exact (Kd.C_below HR155_0.out HB.out) | (with_reducible refine Kd.C_alloc ?_ _) | (with_reducible refine Kd.C_drewN ?_ _) | (with_reducible refine Kd.C_drew ?_))); (case side2 => exact HC155_0.out); (case side3 => repeat (first | exact (GL.below HRG.out HB.out) | (with_reducible refine GL.alloc ?_ _) | (with_reducible refine GL.drewN ?_ _) | (with_reducible refine GL.drew ?_))); rintro e w30 ⟨rfl, hb⟩; have n0_ := Aside0.mk (blk_below (g := g153) (o := .cells #[.int .i64 a0_0, .int .i64 a0_1, .int .i64 a0_2, .slice (some ad155) l0_3.length c0_3] 26 (0, 0)) (by exact B153.out) hb); have n1_ := Aside0.mk (below_step (by repeat (first | (with_reducible first | exact HB.out | apply below_alloc | apply pw_below_drewN | apply below_drew1 | refine below_set ?_ GE153.out) | exact HB.out)) hb); clear B153; clear HB; have B153 := n0_; have HB := n1_; clear n0_ n1_; (try clear hb); (try clear hb2); (try clear hk); (try clear hi)))
            go_ret
            exact ⟨by first | rfl | (simp [errW_none, errW_some] <;> rfl) | (simp only [← hji21, ← hji23]; first | rfl | (simp [errW_none, errW_some] <;> rfl)) | (simp [*, errW_none, errW_some] <;> rfl), by repeat (first | (with_reducible first | exact HB.out | apply below_alloc | apply pw_below_drewN | apply below_drew1 | refine below_set ?_ GE153.out) | exact HB.out)⟩
          ·rw [if_neg c24] at H
           have c24b0 : (((rd_L3 l0_3 x46_2).length : Int) == (ji23)) = false := beq_eq_false_iff_ne.mpr c24
           have c24b1 : (((rd_L3 l0_3 x46_2).length : Int) != (ji23)) = true := bne_iff_ne.mpr c24
           obtain rfl := Option.some.inj H
           have p155 : 0 ≤ (x46_2 : Int) := of_decide_eq_true (by first | (with_reducible assumption) | assumption)
           have q155 : x46_2 < (l0_3.length : Int) := of_decide_eq_true (by first | (with_reducible assumption) | assumption)
           obtain ⟨ad155, A155_0, c155_0, e155, hx155_0, hl155_0, hi155_0⟩ := at_L3 HR0_3.out x46_2 p155 q155
           cases e155
           replace hx155_0 := (HB.out.cell (World.block_lt_of_cell? w _ hx155_0)).trans hx155_0
           have HR155_0 := Aside0.mk hi155_0
           have HC155_0 := Aside0.mk hl155_0
           clear hi155_0 hl155_0
           replace p155 := eq_true p155
           replace q155 := eq_true q155
           have hcz31_0 : wr.cell? ⟨g153, 0, none⟩ = some (.int .i64 a0_0) := bq_ B153 0
           have hcz31_1 : wr.cell? ⟨g153, 1, none⟩ = some (.int .i64 a0_1) := bq_ B153 1
           have hcz31_2 : wr.cell? ⟨g153, 2, none⟩ = some (.int .i64 a0_2) := bq_ B153 2
           have hcz31_3 : wr.cell? ⟨g153, 3, none⟩ = some (.slice (some ad155) l0_3.length c0_3) := bq_ B153 3
           have hfz31_0 := blk_frozen B153.out 0
           have hfz31_1 := blk_frozen B153.out 1
           have hfz31_2 := blk_frozen B153.out 2
           have hfz31_3 := blk_frozen B153.out 3
           go_wp2
           go_ret
           exact ⟨by first | rfl | (simp [errW_none, errW_some] <;> rfl) | (simp only [← hji21, ← hji23]; first | rfl | (simp [errW_none, errW_some] <;> rfl)) | (simp [*, errW_none, errW_some] <;> rfl), by repeat (first | (with_reducible first | exact HB.out | apply below_alloc | apply pw_below_drewN | apply below_drew1 | refine below_set ?_ GE153.out) | exact HB.out)⟩
         ·rw [if_neg c22] at H
          exact absurd H (by simp)
        ·rw [if_neg c20] at H
         exact absurd H (by simp)
       ·rw [if_neg c19] at H
        exact absurd H (by simp)
      ·rw [if_neg c18] at H
       have c18b0 : decide (x46_2 < (l0_3.length : Int)) = false := decide_eq_false c18
       clear c18
       obtain rfl := Option.some.inj H
       go_wp2
       go_ret
       exact ⟨by first | rfl | (simp [errW_none, errW_some] <;> rfl) | (simp [*, errW_none, errW_some] <;> rfl), by repeat (first | (with_reducible first | exact HB.out | apply below_alloc | apply pw_below_drewN | apply below_drew1 | refine below_set ?_ GE153.out) | exact HB.out)⟩

end Go.Proofs.YtpnpmeogffodgaaDoor.Q
end
section
namespace Go.Proofs.YtpnpmeogffodgaaDoor.Q
open Go.RowKit Go.Proofs.YtpnpmeogffodgaaDoorW.PrintWords Go.Proofs.YtpnpmeogffodgaaDoorW.PrintLast Go.Proofs.YtpnpmeogffodgaaDoorW.PrintMore
attribute [local go_sem] max2_int min2_int max_two min_two max_three min_three max_four min_four run_store_fnV run_store_fnc run_store_nfn   -- for this text's walks alone
set_option linter.unusedVariables false
set_option linter.unusedSimpArgs false

/-! ### tree_place: function 46 -/
def tree_place.f (k : Nat) (a0_0 : Int) (a0_1 : Int) (a0_2 : Int) (l0_3 : List (List (S36))) (a1 : Int) : Option (Int) := (tree_Valid.f k a0_0 a0_1 a0_2 l0_3).bind fun t164 => (if t164 = true then (if a1 < 0 then (some 2) else (if 0 < (l0_3.length : Int) then (if a1 ≥ ((rd_L3 l0_3 0).length : Int) then (some 2) else (some 0)) else (none))) else (some 1))
theorem tree_place.mono : ∀ a0 a1 a2 a3 a4 k, LeO (tree_place.f k a0 a1 a2 a3 a4) (tree_place.f (k + 1) a0 a1 a2 a3 a4) := by
  intro a0 a1 a2 a3 a4 k
  unfold tree_place.f
  repeat' first
      | (with_reducible exact tree_Valid.mono _ _ _ _ _)
      | (with_reducible exact LeO.refl _)
      | (with_reducible exact LeO.none _)
      | (with_reducible refine LeO.ite ?_ ?_)
      | (with_reducible refine LeO.bind ?_ (fun _ => ?_))
      | exact tree_Valid.mono _ _ _ _ _
      | exact LeO.none _
      | refine LeO.ite ?_ ?_
      | refine LeO.bind ?_ (fun _ => ?_)
set_option maxHeartbeats 8000000 in
set_option maxRecDepth 100000 in
theorem tree_place.calls (k : Nat) (a0_0 : Int) (a0_1 : Int) (a0_2 : Int) (A0_3 : Option Addr) (c0_3 : Nat) (l0_3 : List (List (S36))) (a1 : Int) (r : Int) (w : World) (hr0_3 : Kd.C (Kd.slice 36 k36) w A0_3 l0_3.length l0_3) (hc0_3 : l0_3.length ≤ c0_3) (hrG : GL w) (h : tree_place.f k a0_0 a0_1 a0_2 l0_3 a1 = some r) :
  Calls Tryd.prog 46 #[.agg #[.int .i64 a0_0, .int .i64 a0_1, .int .i64 a0_2, .slice A0_3 l0_3.length c0_3], .int .i64 a1] w fun e w' => e = .returned (.int .i64 r) ∧ Below w.heap.size w w' := by
 have hu26 := Tryd.underlying26
 have HRG := Aside0.mk hrG
 clear hrG
 have HR0_3 := Aside0.mk hr0_3
 have HC0_3 := Aside0.mk hc0_3
 clear hr0_3 hc0_3
 have HB := Aside0.mk (Below.refl w.heap.size w)
 have H : ((tree_Valid.f k a0_0 a0_1 a0_2 l0_3).bind fun t164 => (if t164 = true then (if a1 < 0 then (some 2) else (if 0 < (l0_3.length : Int) then (if a1 ≥ ((rd_L3 l0_3 0).length : Int) then (some 2) else (some 0)) else (none))) else (some 1))) = some r := h
 clear h
 replace H := Option.bind_eq_some_iff.mp H
 obtain ⟨t164, A30, H⟩ := H
 have A3 := Aside0.mk A30
 clear A30
 by_cases c4 : t164 = true
 ·subst c4
  have H1 : (if a1 < 0 then (some 2) else (if 0 < (l0_3.length : Int) then (if a1 ≥ ((rd_L3 l0_3 0).length : Int) then (some 2) else (some 0)) else (none))) = some r := by rw [if_pos rfl] at H; exact H
  clear H
  have H := H1
  clear H1
  by_cases c5 : a1 < 0
  ·rw [if_pos c5] at H
   have c5b0 : decide (a1 < 0) = true := decide_eq_true c5
   clear c5
   obtain rfl := Option.some.inj H
   go_enter Tryd.func46, Tryd.ntmps46
   go_wp2_with (first | ((with_reducible refine gate_dst (N := 2) rfl ?_); (try (refine gate_guard (by rfl) ?_; dsimp only)); refine box_event ?hg (N := 2) ?hd (cs := #[.int .i64 a0_0, .int .i64 a0_1, .int .i64 a0_2, .slice A0_3 l0_3.length c0_3]) (t := 26) ?hr ?_; (case hd => rfl); (case hg => rfl); (case hr => first | (go_simp; done) | (go_simp; rfl)); intro g163 hg w6 hbox hb; have n0_ := Aside0.mk (below_step (by repeat (first | (with_reducible first | exact HB.out | apply below_alloc | apply pw_below_drewN | apply below_drew1) | exact HB.out)) hb); have n1_ := Aside0.mk (hbox); have n2_ := Aside0.mk ((by rw [hg]; exact (below_size (by repeat (first | (with_reducible first | exact HB.out | apply below_alloc | apply pw_below_drewN | apply below_drew1) | exact HB.out))) : w.heap.size ≤ g163)); have n3_ := Aside0.mk ((by rw [hg]; exact (below_size (by repeat (first | (with_reducible first | exact HB.out | apply below_alloc | apply pw_below_drewN | apply below_drew1) | exact HB.out))) : w.heap.size ≤ g163)); clear HB; have HB := n0_; have B163 := n1_; have GW163 := n2_; have GE163 := n3_; clear n0_ n1_ n2_ n3_; clear hb hbox hg; have hcz7_0 : w6.cell? ⟨g163, 0, none⟩ = some (.int .i64 a0_0) := bq_ B163 0; have hcz7_1 : w6.cell? ⟨g163, 1, none⟩ = some (.int .i64 a0_1) := bq_ B163 1; have hcz7_2 : w6.cell? ⟨g163, 2, none⟩ = some (.int .i64 a0_2) := bq_ B163 2; have hcz7_3 : w6.cell? ⟨g163, 3, none⟩ = some (.slice A0_3 l0_3.length c0_3) := bq_ B163 3; have hfz7_0 := blk_frozen B163.out 0; have hfz7_1 := blk_frozen B163.out 1; have hfz7_2 := blk_frozen B163.out 2; have hfz7_3 := blk_frozen B163.out 3) | ((with_reducible refine gate_callee (f := 16) rfl ?_); refine goesL_ (some 7) rfl rfl Tryd.func16 (by kernel_rfl) rfl #[.agg #[.int .i64 a0_0, .int .i64 a0_1, .int .i64 a0_2, .slice A0_3 l0_3.length c0_3]] rfl (by (try simp only [List.map_toArray, List.map_cons, List.map_nil]); first | done | rfl | (go_simp; done)) ?_; (with_reducible refine (tree_Valid.calls k a0_0 a0_1 a0_2 _ _ l0_3 true _ ?side1 ?side2 ?side3 A3.out).mono ?_); (case side1 => repeat (first | exact (Kd.C_below HR0_3.out HB.out) | (with_reducible refine Kd.C_alloc ?_ _) | (with_reducible refine Kd.C_drewN ?_ _) | (with_reducible refine Kd.C_drew ?_))); (case side2 => exact HC0_3.out); (case side3 => repeat (first | exact (GL.below HRG.out HB.out) | (with_reducible refine GL.alloc ?_ _) | (with_reducible refine GL.drewN ?_ _) | (with_reducible refine GL.drew ?_))); rintro e w8 ⟨rfl, hb⟩; refine ⟨_, rfl, ?_⟩; have n0_ := Aside0.mk (blk_below (g := g163) (o := .cells #[.int .i64 a0_0, .int .i64 a0_1, .int .i64 a0_2, .slice A0_3 l0_3.length c0_3] 26 (0, 0)) (by exact B163.out) hb); have n1_ := Aside0.mk (below_step (by repeat (first | (with_reducible first | exact HB.out | apply below_alloc | apply pw_below_drewN | apply below_drew1 | refine below_set ?_ GE163.out) | exact HB.out)) hb); clear B163; clear HB; have B163 := n0_; have HB := n1_; clear n0_ n1_; (try clear hb); (try clear hb2); (try clear hk); (try clear hi)))
   go_ret
   exact ⟨by first | rfl | (simp [errW_none, errW_some] <;> rfl) | (simp [*, errW_none, errW_some] <;> rfl), by repeat (first | (with_reducible first | exact HB.out | apply below_alloc | apply pw_below_drewN | apply below_drew1 | refine below_set ?_ GE163.out) | exact HB.out)⟩
  ·rw [if_neg c5] at H
   have c5b0 : decide (a1 < 0) = false := decide_eq_false c5
   clear c5
   by_cases c9 : 0 < (l0_3.length : Int)
   ·rw [if_pos c9] at H
    have c9b0 : decide (0 < (l0_3.length : Int)) = true := decide_eq_true c9
    have c9b1 : decide (0 < l0_3.length) = true := decide_eq_true (by omega)
    clear c9
    by_cases c10 : a1 ≥ ((rd_L3 l0_3 0).length : Int)
    ·rw [if_pos c10] at H
     have c10b0 : decide (((rd_L3 l0_3 0).length : Int) ≤ a1) = true := decide_eq_true c10
     clear c10
     obtain rfl := Option.some.inj H
     go_enter Tryd.func46, Tryd.ntmps46
     go_wp2_with (first | ((with_reducible refine gate_dst (N := 2) rfl ?_); (try (refine gate_guard (by rfl) ?_; dsimp only)); refine box_event ?hg (N := 2) ?hd (cs := #[.int .i64 a0_0, .int .i64 a0_1, .int .i64 a0_2, .slice A0_3 l0_3.length c0_3]) (t := 26) ?hr ?_; (case hd => rfl); (case hg => rfl); (case hr => first | (go_simp; done) | (go_simp; rfl)); intro g163 hg w11 hbox hb; have n0_ := Aside0.mk (below_step (by repeat (first | (with_reducible first | exact HB.out | apply below_alloc | apply pw_below_drewN | apply below_drew1) | exact HB.out)) hb); have n1_ := Aside0.mk (hbox); have n2_ := Aside0.mk ((by rw [hg]; exact (below_size (by repeat (first | (with_reducible first | exact HB.out | apply below_alloc | apply pw_below_drewN | apply below_drew1) | exact HB.out))) : w.heap.size ≤ g163)); have n3_ := Aside0.mk ((by rw [hg]; exact (below_size (by repeat (first | (with_reducible first | exact HB.out | apply below_alloc | apply pw_below_drewN | apply below_drew1) | exact HB.out))) : w.heap.size ≤ g163)); clear HB; have HB := n0_; have B163 := n1_; have GW163 := n2_; have GE163 := n3_; clear n0_ n1_ n2_ n3_; clear hb hbox hg; have hcz12_0 : w11.cell? ⟨g163, 0, none⟩ = some (.int .i64 a0_0) := bq_ B163 0; have hcz12_1 : w11.cell? ⟨g163, 1, none⟩ = some (.int .i64 a0_1) := bq_ B163 1; have hcz12_2 : w11.cell? ⟨g163, 2, none⟩ = some (.int .i64 a0_2) := bq_ B163 2; have hcz12_3 : w11.cell? ⟨g163, 3, none⟩ = some (.slice A0_3 l0_3.length c0_3) := bq_ B163 3; have hfz12_0 := blk_frozen B163.out 0; have hfz12_1 := blk_frozen B163.out 1; have hfz12_2 := blk_frozen B163.out 2; have hfz12_3 := blk_frozen B163.out 3) | ((with_reducible refine gate_callee (f := 16) rfl ?_); refine goesL_ (some 7) rfl rfl Tryd.func16 (by kernel_rfl) rfl #[.agg #[.int .i64 a0_0, .int .i64 a0_1, .int .i64 a0_2, .slice A0_3 l0_3.length c0_3]] rfl (by (try simp only [List.map_toArray, List.map_cons, List.map_nil]); first | done | rfl | (go_simp; done)) ?_; (with_reducible refine (tree_Valid.calls k a0_0 a0_1 a0_2 _ _ l0_3 true _ ?side1 ?side2 ?side3 A3.out).mono ?_); (case side1 => repeat (first | exact (Kd.C_below HR0_3.out HB.out) | (with_reducible refine Kd.C_alloc ?_ _) | (with_reducible refine Kd.C_drewN ?_ _) | (with_reducible refine Kd.C_drew ?_))); (case side2 => exact HC0_3.out); (case side3 => repeat (first | exact (GL.below HRG.out HB.out) | (with_reducible refine GL.alloc ?_ _) | (with_reducible refine GL.drewN ?_ _) | (with_reducible refine GL.drew ?_))); rintro e w13 ⟨rfl, hb⟩; refine ⟨_, rfl, ?_⟩; have n0_ := Aside0.mk (blk_below (g := g163) (o := .cells #[.int .i64 a0_0, .int .i64 a0_1, .int .i64 a0_2, .slice A0_3 l0_3.length c0_3] 26 (0, 0)) (by exact B163.out) hb); have n1_ := Aside0.mk (below_step (by repeat (first | (with_reducible first | exact HB.out | apply below_alloc | apply pw_below_drewN | apply below_drew1 | refine below_set ?_ GE163.out) | exact HB.out)) hb); clear B163; clear HB; have B163 := n0_; have HB := n1_; clear n0_ n1_; (try clear hb); (try clear hb2); (try clear hk); (try clear hi); have hcz14_0 : w13.cell? ⟨g163, 0, none⟩ = some (.int .i64 a0_0) := bq_ B163 0; have hcz14_1 : w13.cell? ⟨g163, 1, none⟩ = some (.int .i64 a0_1) := bq_ B163 1; have hcz14_2 : w13.cell? ⟨g163, 2, none⟩ = some (.int .i64 a0_2) := bq_ B163 2; have hcz14_3 : w13.cell? ⟨g163, 3, none⟩ = some (.slice A0_3 l0_3.length c0_3) := bq_ B163 3; have hfz14_0 := blk_frozen B163.out 0; have hfz14_1 := blk_frozen B163.out 1; have hfz14_2 := blk_frozen B163.out 2; have hfz14_3 := blk_frozen B163.out 3; have p165 : 0 ≤ (0 : Int) := (by omega); have q165 : 0 < (l0_3.length : Int) := of_decide_eq_true (by first | (with_reducible assumption) | assumption); obtain ⟨ad165, A165_0, c165_0, e165, hx165_0, hl165_0, hi165_0⟩ := at_L3 HR0_3.out 0 p165 q165; cases e165; have qi165 : (0 < l0_3.length) = True := eq_true (by omega); (try rw [show ((0 : Int)).toNat = 0 from rfl] at hx165_0); (try rw [Addr.add_zero'] at hx165_0); replace hx165_0 := (HB.out.cell (World.block_lt_of_cell? w _ hx165_0)).trans hx165_0; have HR165_0 := Aside0.mk hi165_0; have HC165_0 := Aside0.mk hl165_0; clear hi165_0 hl165_0; replace p165 := eq_true p165; replace q165 := eq_true q165))
     go_ret
     exact ⟨by first | rfl | (simp [errW_none, errW_some] <;> rfl) | (simp [*, errW_none, errW_some] <;> rfl), by repeat (first | (with_reducible first | exact HB.out | apply below_alloc | apply pw_below_drewN | apply below_drew1 | refine below_set ?_ GE163.out) | exact HB.out)⟩
    ·rw [if_neg c10] at H
     have c10b0 : decide (((rd_L3 l0_3 0).length : Int) ≤ a1) = false := decide_eq_false c10
     clear c10
     obtain rfl := Option.some.inj H
     go_enter Tryd.func46, Tryd.ntmps46
     go_wp2_with (first | ((with_reducible refine gate_dst (N := 2) rfl ?_); (try (refine gate_guard (by rfl) ?_; dsimp only)); refine box_event ?hg (N := 2) ?hd (cs := #[.int .i64 a0_0, .int .i64 a0_1, .int .i64 a0_2, .slice A0_3 l0_3.length c0_3]) (t := 26) ?hr ?_; (case hd => rfl); (case hg => rfl); (case hr => first | (go_simp; done) | (go_simp; rfl)); intro g163 hg w15 hbox hb; have n0_ := Aside0.mk (below_step (by repeat (first | (with_reducible first | exact HB.out | apply below_alloc | apply pw_below_drewN | apply below_drew1) | exact HB.out)) hb); have n1_ := Aside0.mk (hbox); have n2_ := Aside0.mk ((by rw [hg]; exact (below_size (by repeat (first | (with_reducible first | exact HB.out | apply below_alloc | apply pw_below_drewN | apply below_drew1) | exact HB.out))) : w.heap.size ≤ g163)); have n3_ := Aside0.mk ((by rw [hg]; exact (below_size (by repeat (first | (with_reducible first | exact HB.out | apply below_alloc | apply pw_below_drewN | apply below_drew1) | exact HB.out))) : w.heap.size ≤ g163)); clear HB; have HB := n0_; have B163 := n1_; have GW163 := n2_; have GE163 := n3_; clear n0_ n1_ n2_ n3_; clear hb hbox hg; have hcz16_0 : w15.cell? ⟨g163, 0, none⟩ = some (.int .i64 a0_0) := bq_ B163 0; have hcz16_1 : w15.cell? ⟨g163, 1, none⟩ = some (.int .i64 a0_1) := bq_ B163 1; have hcz16_2 : w15.cell? ⟨g163, 2, none⟩ = some (.int .i64 a0_2) := bq_ B163 2; have hcz16_3 : w15.cell? ⟨g163, 3, none⟩ = some (.slice A0_3 l0_3.length c0_3) := bq_ B163 3; have hfz16_0 := blk_frozen B163.out 0; have hfz16_1 := blk_frozen B163.out 1; have hfz16_2 := blk_frozen B163.out 2; have hfz16_3 := blk_frozen B163.out 3) | ((with_reducible refine gate_callee (f := 16) rfl ?_); refine goesL_ (some 7) rfl rfl Tryd.func16 (by kernel_rfl) rfl #[.agg #[.int .i64 a0_0, .int .i64 a0_1, .int .i64 a0_2, .slice A0_3 l0_3.length c0_3]] rfl (by (try simp only [List.map_toArray, List.map_cons, List.map_nil]); first | done | rfl | (go_simp; done)) ?_; (with_reducible refine (tree_Valid.calls k a0_0 a0_1 a0_2 _ _ l0_3 true _ ?side1 ?side2 ?side3 A3.out).mono ?_); (case side1 => repeat (first | exact (Kd.C_below HR0_3.out HB.out) | (with_reducible refine Kd.C_alloc ?_ _) | (with_reducible refine Kd.C_drewN ?_ _) | (with_reducible refine Kd.C_drew ?_))); (case side2 => exact HC0_3.out); (case side3 => repeat (first | exact (GL.below HRG.out HB.out) | (with_reducible refine GL.alloc ?_ _) | (with_reducible refine GL.drewN ?_ _) | (with_reducible refine GL.drew ?_))); rintro e w17 ⟨rfl, hb⟩; refine ⟨_, rfl, ?_⟩; have n0_ := Aside0.mk (blk_below (g := g163) (o := .cells #[.int .i64 a0_0, .int .i64 a0_1, .int .i64 a0_2, .slice A0_3 l0_3.length c0_3] 26 (0, 0)) (by exact B163.out) hb); have n1_ := Aside0.mk (below_step (by repeat (first | (with_reducible first | exact HB.out | apply below_alloc | apply pw_below_drewN | apply below_drew1 | refine below_set ?_ GE163.out) | exact HB.out)) hb); clear B163; clear HB; have B163 := n0_; have HB := n1_; clear n0_ n1_; (try clear hb); (try clear hb2); (try clear hk); (try clear hi); have hcz18_0 : w17.cell? ⟨g163, 0, none⟩ = some (.int .i64 a0_0) := bq_ B163 0; have hcz18_1 : w17.cell? ⟨g163, 1, none⟩ = some (.int .i64 a0_1) := bq_ B163 1; have hcz18_2 : w17.cell? ⟨g163, 2, none⟩ = some (.int .i64 a0_2) := bq_ B163 2; have hcz18_3 : w17.cell? ⟨g163, 3, none⟩ = some (.slice A0_3 l0_3.length c0_3) := bq_ B163 3; have hfz18_0 := blk_frozen B163.out 0; have hfz18_1 := blk_frozen B163.out 1; have hfz18_2 := blk_frozen B163.out 2; have hfz18_3 := blk_frozen B163.out 3; have p165 : 0 ≤ (0 : Int) := (by omega); have q165 : 0 < (l0_3.length : Int) := of_decide_eq_true (by first | (with_reducible assumption) | assumption); obtain ⟨ad165, A165_0, c165_0, e165, hx165_0, hl165_0, hi165_0⟩ := at_L3 HR0_3.out 0 p165 q165; cases e165; have qi165 : (0 < l0_3.length) = True := eq_true (by omega); (try rw [show ((0 : Int)).toNat = 0 from rfl] at hx165_0); (try rw [Addr.add_zero'] at hx165_0); replace hx165_0 := (HB.out.cell (World.block_lt_of_cell? w _ hx165_0)).trans hx165_0; have HR165_0 := Aside0.mk hi165_0; have HC165_0 := Aside0.mk hl165_0; clear hi165_0 hl165_0; replace p165 := eq_true p165; replace q165 := eq_true q165))
     go_ret
     exact ⟨by first | rfl | (simp [errW_none, errW_some] <;> rfl) | (simp [*, errW_none, errW_some] <;> rfl), by repeat (first | (with_reducible first | exact HB.out | apply below_alloc | apply pw_below_drewN | apply below_drew1 | refine below_set ?_ GE163.out) | exact HB.out)⟩
   ·rw [if_neg c9] at H
    exact absurd H (by simp)
 ·replace c4 := Bool.eq_false_iff.mpr c4
  subst c4
  have H1 : (some 1) = some r := by rw [if_neg (show ¬ (false = true) by decide)] at H; exact H
  clear H
  have H := H1
  clear H1
  obtain rfl := Option.some.inj H
  go_enter Tryd.func46, Tryd.ntmps46
  go_wp2_with (first | ((with_reducible refine gate_dst (N := 2) rfl ?_); (try (refine gate_guard (by rfl) ?_; dsimp only)); refine box_event ?hg (N := 2) ?hd (cs := #[.int .i64 a0_0, .int .i64 a0_1, .int .i64 a0_2, .slice A0_3 l0_3.length c0_3]) (t := 26) ?hr ?_; (case hd => rfl); (case hg => rfl); (case hr => first | (go_simp; done) | (go_simp; rfl)); intro g163 hg w19 hbox hb; have n0_ := Aside0.mk (below_step (by repeat (first | (with_reducible first | exact HB.out | apply below_alloc | apply pw_below_drewN | apply below_drew1) | exact HB.out)) hb); have n1_ := Aside0.mk (hbox); have n2_ := Aside0.mk ((by rw [hg]; exact (below_size (by repeat (first | (with_reducible first | exact HB.out | apply below_alloc | apply pw_below_drewN | apply below_drew1) | exact HB.out))) : w.heap.size ≤ g163)); have n3_ := Aside0.mk ((by rw [hg]; exact (below_size (by repeat (first | (with_reducible first | exact HB.out | apply below_alloc | apply pw_below_drewN | apply below_drew1) | exact HB.out))) : w.heap.size ≤ g163)); clear HB; have HB := n0_; have B163 := n1_; have GW163 := n2_; have GE163 := n3_; clear n0_ n1_ n2_ n3_; clear hb hbox hg; have hcz20_0 : w19.cell? ⟨g163, 0, none⟩ = some (.int .i64 a0_0) := bq_ B163 0; have hcz20_1 : w19.cell? ⟨g163, 1, none⟩ = some (.int .i64 a0_1) := bq_ B163 1; have hcz20_2 : w19.cell? ⟨g163, 2, none⟩ = some (.int .i64 a0_2) := bq_ B163 2; have hcz20_3 : w19.cell? ⟨g163, 3, none⟩ = some (.slice A0_3 l0_3.length c0_3) := bq_ B163 3; have hfz20_0 := blk_frozen B163.out 0; have hfz20_1 := blk_frozen B163.out 1; have hfz20_2 := blk_frozen B163.out 2; have hfz20_3 := blk_frozen B163.out 3) | ((with_reducible refine gate_callee (f := 16) rfl ?_); refine goesL_ (some 7) rfl rfl Tryd.func16 (by kernel_rfl) rfl #[.agg #[.int .i64 a0_0, .int .i64 a0_1, .int .i64 a0_2, .slice A0_3 l0_3.length c0_3]] rfl (by (try simp only [List.map_toArray, List.map_cons, List.map_nil]); first | done | rfl | (go_simp; done)) ?_; (with_reducible refine (tree_Valid.calls k a0_0 a0_1 a0_2 _ _ l0_3 false _ ?side1 ?side2 ?side3 A3.out).mono ?_); (case side1 => repeat (first | exact (Kd.C_below HR0_3.out HB.out) | (with_reducible refine Kd.C_alloc ?_ _) | (with_reducible refine Kd.C_drewN ?_ _) | (with_reducible refine Kd.C_drew ?_))); (case side2 => exact HC0_3.out); (case side3 => repeat (first | exact (GL.below HRG.out HB.out) | (with_reducible refine GL.alloc ?_ _) | (with_reducible refine GL.drewN ?_ _) | (with_reducible refine GL.drew ?_))); rintro e w21 ⟨rfl, hb⟩; refine ⟨_, rfl, ?_⟩; have n0_ := Aside0.mk (blk_below (g := g163) (o := .cells #[.int .i64 a0_0, .int .i64 a0_1, .int .i64 a0_2, .slice A0_3 l0_3.length c0_3] 26 (0, 0)) (by exact B163.out) hb); have n1_ := Aside0.mk (below_step (by repeat (first | (with_reducible first | exact HB.out | apply below_alloc | apply pw_below_drewN | apply below_drew1 | refine below_set ?_ GE163.out) | exact HB.out)) hb); clear B163; clear HB; have B163 := n0_; have HB := n1_; clear n0_ n1_; (try clear hb); (try clear hb2); (try clear hk); (try clear hi)))
  go_ret
  exact ⟨by first | rfl | (simp [errW_none, errW_some] <;> rfl) | (simp [*, errW_none, errW_some] <;> rfl), by repeat (first | (with_reducible first | exact HB.out | apply below_alloc | apply pw_below_drewN | apply below_drew1 | refine below_set ?_ GE163.out) | exact HB.out)⟩

end Go.Proofs.YtpnpmeogffodgaaDoor.Q
end
section
namespace Go.Proofs.YtpnpmeogffodgaaDoor.Q
open Go.RowKit Go.Proofs.YtpnpmeogffodgaaDoorW.PrintWords Go.Proofs.YtpnpmeogffodgaaDoorW.PrintLast Go.Proofs.YtpnpmeogffodgaaDoorW.PrintMore
attribute [local go_sem] max2_int min2_int max_two min_two max_three min_three max_four min_four run_store_fnV run_store_fnc run_store_nfn   -- for this text's walks alone
set_option linter.unusedVariables false
set_option linter.unusedSimpArgs false

/-! ### tree_Path: function 23 -/
def tree_Path.l0 : Nat → Int → List (S36) → List (List (S36)) → Int → Int → Option ((List (S36)) × Int)
  | 0, _, _, _, _, _ => none
  | k + 1, x1, x7, x22, x23, x24 => if x24 < x23 then (if 0 ≤ x24 then (if x24 < (x22.length : Int) then (if 0 ≤ (Go.bits .xor .i64 x1 1) then (if (Go.bits .xor .i64 x1 1) < ((rd_L3 x22 x24).length : Int) then (if x7.length < 8796093022208 then (tree_Path.l0 k (x1 / 2) (x7 ++ [(⟨(rd_T36 (rd_L3 x22 x24) (Go.bits .xor .i64 x1 1)).f0, (rd_T36 (rd_L3 x22 x24) (Go.bits .xor .i64 x1 1)).f1⟩ : S36)]) x22 x23 (wrap64 (x24 + 1))) else (none)) else (none)) else (none)) else (none)) else (none)) else (some (x7, 0))
def tree_Path.f (k : Nat) (a0_0 : Int) (a0_1 : Int) (a0_2 : Int) (l0_3 : List (List (S36))) (a1 : Int) : Option ((List (S36)) × Int) := (tree_place.f k a0_0 a0_1 a0_2 l0_3 a1).bind fun t167 => (if t167 = 0 then (if 0 ≤ (wrap64 ((l0_3.length : Int) - 1)) then (if (wrap64 ((l0_3.length : Int) - 1)) ≤ (l0_3.length : Int) then ((some (l0_3.take ((wrap64 ((l0_3.length : Int) - 1)) : Int).toNat : List (List (S36)))).bind fun y168 => (tree_Path.l0 k a1 ([] : List (S36)) y168 (y168.length : Int) 0)) else (none)) else (none)) else (some (([] : List (S36)), t167)))
theorem tree_Path.mono_l : ∀ k, (∀ y0 y1 y2 y3 y4, LeO (tree_Path.l0 k y0 y1 y2 y3 y4) (tree_Path.l0 (k + 1) y0 y1 y2 y3 y4))
  | 0 => fun _ _ _ _ _ r h => by simp [tree_Path.l0] at h
  | k + 1 => by
    have ih0 := tree_Path.mono_l k
    · intro y0 y1 y2 y3 y4
      unfold tree_Path.l0
      repeat' first
      | (with_reducible exact ih0 _ _ _ _ _)
      | (with_reducible exact tree_place.mono _ _ _ _ _ _)
      | (with_reducible exact LeO.refl _)
      | (with_reducible exact LeO.none _)
      | (with_reducible refine LeO.ite ?_ ?_)
      | (with_reducible refine LeO.bind ?_ (fun _ => ?_))
      | exact ih0 _ _ _ _ _
      | exact tree_place.mono _ _ _ _ _ _
      | exact LeO.none _
      | refine LeO.ite ?_ ?_
      | refine LeO.bind ?_ (fun _ => ?_)
theorem tree_Path.mono : ∀ a0 a1 a2 a3 a4 k, LeO (tree_Path.f k a0 a1 a2 a3 a4) (tree_Path.f (k + 1) a0 a1 a2 a3 a4) := by
  intro a0 a1 a2 a3 a4 k
  have ih0 := tree_Path.mono_l k
  unfold tree_Path.f
  repeat' first
      | (with_reducible exact ih0 _ _ _ _ _)
      | (with_reducible exact tree_place.mono _ _ _ _ _ _)
      | (with_reducible exact LeO.refl _)
      | (with_reducible exact LeO.none _)
      | (with_reducible refine LeO.ite ?_ ?_)
      | (with_reducible refine LeO.bind ?_ (fun _ => ?_))
      | exact ih0 _ _ _ _ _
      | exact tree_place.mono _ _ _ _ _ _
      | exact LeO.none _
      | refine LeO.ite ?_ ?_
      | refine LeO.bind ?_ (fun _ => ?_)
set_option maxHeartbeats 8000000 in
set_option maxRecDepth 100000 in
theorem tree_Path.calls (k : Nat) (a0_0 : Int) (a0_1 : Int) (a0_2 : Int) (A0_3 : Option Addr) (c0_3 : Nat) (l0_3 : List (List (S36))) (a1 : Int) (r1 : List (S36)) (r2 : Int) (w : World) (hr0_3 : Kd.C (Kd.slice 36 k36) w A0_3 l0_3.length l0_3) (hc0_3 : l0_3.length ≤ c0_3) (hrG : GL w) (h : tree_Path.f k a0_0 a0_1 a0_2 l0_3 a1 = some (r1, r2)) :
  Calls Tryd.prog 23 #[.agg #[.int .i64 a0_0, .int .i64 a0_1, .int .i64 a0_2, .slice A0_3 l0_3.length c0_3], .int .i64 a1] w fun e w' => ∃ v0_ : Value, e = .returned (.tuple #[v0_, .int .i64 r2]) ∧ Kd.R k36 36 w' w.heap.size (fun _ => True) v0_ r1 ∧ Below w.heap.size w w' := by
 have hu26 := Tryd.underlying26
 have hu36 := Tryd.underlying36
 have HRG := Aside0.mk hrG
 clear hrG
 have HR0_3 := Aside0.mk hr0_3
 have HC0_3 := Aside0.mk hc0_3
 clear hr0_3 hc0_3
 have HB := Aside0.mk (Below.refl w.heap.size w)
 have H : ((tree_place.f k a0_0 a0_1 a0_2 l0_3 a1).bind fun t167 => (if t167 = 0 then (if 0 ≤ (wrap64 ((l0_3.length : Int) - 1)) then (if (wrap64 ((l0_3.length : Int) - 1)) ≤ (l0_3.length : Int) then ((some (l0_3.take ((wrap64 ((l0_3.length : Int) - 1)) : Int).toNat : List (List (S36)))).bind fun y168 => (tree_Path.l0 k a1 ([] : List (S36)) y168 (y168.length : Int) 0)) else (none)) else (none)) else (some (([] : List (S36)), t167)))) = some (r1, r2) := h
 clear h
 replace H := Option.bind_eq_some_iff.mp H
 obtain ⟨t167, A30, H⟩ := H
 have A3 := Aside0.mk A30
 clear A30
 by_cases c4 : t167 = 0
 ·rw [if_pos c4] at H
  have c4b0 : (t167 == 0) = true := beq_iff_eq.mpr c4
  have c4b1 : (t167 != 0) = false := bne_eq_false_iff_eq.mpr c4
  clear c4
  obtain ⟨ji5, hji5⟩ : ∃ j_ : Int, (wrap64 ((l0_3.length : Int) - 1)) = j_ := ⟨_, rfl⟩
  replace H : (if 0 ≤ (ji5) then (if (ji5) ≤ (l0_3.length : Int) then ((some (l0_3.take ((ji5) : Int).toNat : List (List (S36)))).bind fun y168 => (tree_Path.l0 k a1 ([] : List (S36)) y168 (y168.length : Int) 0)) else (none)) else (none)) = some (r1, r2) := by first | (rw [hji5] at H; exact H) | (simp only [hji5] at H ⊢; exact H)
  (try rw [hji5] at A3)
  have hji5w : (IntKind.i64.wrap ((l0_3.length : Int) - 1)) = ji5 := (i64_w _).trans hji5
  by_cases c6 : 0 ≤ (ji5)
  ·rw [if_pos c6] at H
   have c6b0 := eq_true c6
   have c6b1 : decide (0 ≤ (ji5)) = true := decide_eq_true c6
   clear c6
   by_cases c7 : (ji5) ≤ (l0_3.length : Int)
   ·rw [if_pos c7] at H
    have c7b0 := eq_true c7
    have c7b1 : decide ((ji5) ≤ (l0_3.length : Int)) = true := decide_eq_true c7
    clear c7
    obtain ⟨y168, hy168⟩ : ∃ y_ : List (List (S36)), y_ = (l0_3.take ((ji5) : Int).toNat) := ⟨_, rfl⟩
    replace H : (tree_Path.l0 k a1 ([] : List (S36)) y168 (y168.length : Int) 0) = some (r1, r2) := by first | (rw [hy168]; with_reducible exact H) | (have H2_ := (Option.bind_some _ _).symm.trans H; rw [hy168]; with_reducible exact H2_) | (have H2_ := (Option.bind_some _ _).symm.trans H; with_reducible exact H2_) | with_reducible exact H | (rw [hy168]; exact H) | exact H
    have Ny168 := Aside0.mk hy168
    clear hy168
    have H' := Aside0.mk H
    clear H
    go_enter Tryd.func23, Tryd.ntmps23
    go_wp2_with (first | ((with_reducible refine gate_dst (N := 2) rfl ?_); refine box_event ?hg (N := 2) ?hd (cs := #[.int .i64 a0_0, .int .i64 a0_1, .int .i64 a0_2, .slice A0_3 l0_3.length c0_3]) (t := 26) ?hr ?_; (case hd => rfl); (case hg => rfl); (case hr => first | (go_simp; done) | (go_simp; rfl)); intro g166 hg w8 hbox hb; have n0_ := Aside0.mk (below_step (by repeat (first | (with_reducible first | exact HB.out | apply below_alloc | apply pw_below_drewN | apply below_drew1) | exact HB.out)) hb); have n1_ := Aside0.mk (hbox); have n2_ := Aside0.mk ((by rw [hg]; exact (below_size (by repeat (first | (with_reducible first | exact HB.out | apply below_alloc | apply pw_below_drewN | apply below_drew1) | exact HB.out))) : w.heap.size ≤ g166)); have n3_ := Aside0.mk ((by rw [hg]; exact (below_size (by repeat (first | (with_reducible first | exact HB.out | apply below_alloc | apply pw_below_drewN | apply below_drew1) | exact HB.out))) : w.heap.size ≤ g166)); clear HB; have HB := n0_; have B166 := n1_; have GW166 := n2_; have GE166 := n3_; clear n0_ n1_ n2_ n3_; clear hb hbox hg; have hcz9_0 : w8.cell? ⟨g166, 0, none⟩ = some (.int .i64 a0_0) := bq_ B166 0; have hcz9_1 : w8.cell? ⟨g166, 1, none⟩ = some (.int .i64 a0_1) := bq_ B166 1; have hcz9_2 : w8.cell? ⟨g166, 2, none⟩ = some (.int .i64 a0_2) := bq_ B166 2; have hcz9_3 : w8.cell? ⟨g166, 3, none⟩ = some (.slice A0_3 l0_3.length c0_3) := bq_ B166 3; have hfz9_0 := blk_frozen B166.out 0; have hfz9_1 := blk_frozen B166.out 1; have hfz9_2 := blk_frozen B166.out 2; have hfz9_3 := blk_frozen B166.out 3) | ((with_reducible refine gate_callee (f := 46) rfl ?_); refine goesL_ (some 12) rfl rfl Tryd.func46 (by kernel_rfl) rfl #[.agg #[.int .i64 a0_0, .int .i64 a0_1, .int .i64 a0_2, .slice A0_3 l0_3.length c0_3], .int .i64 a1] rfl (by (try simp only [List.map_toArray, List.map_cons, List.map_nil]); first | done | rfl | (go_simp; done)) ?_; (with_reducible refine (tree_place.calls k a0_0 a0_1 a0_2 _ _ l0_3 a1 t167 _ ?side1 ?side2 ?side3 A3.out).mono ?_); (case side1 => repeat (first | exact (Kd.C_below HR0_3.out HB.out) | (with_reducible refine Kd.C_alloc ?_ _) | (with_reducible refine Kd.C_drewN ?_ _) | (with_reducible refine Kd.C_drew ?_))); (case side2 => exact HC0_3.out); (case side3 => repeat (first | exact (GL.below HRG.out HB.out) | (with_reducible refine GL.alloc ?_ _) | (with_reducible refine GL.drewN ?_ _) | (with_reducible refine GL.drew ?_))); rintro e w10 ⟨rfl, hb⟩; refine ⟨_, rfl, ?_⟩; have n0_ := Aside0.mk (blk_below (g := g166) (o := .cells #[.int .i64 a0_0, .int .i64 a0_1, .int .i64 a0_2, .slice A0_3 l0_3.length c0_3] 26 (0, 0)) (by exact B166.out) hb); have n1_ := Aside0.mk (below_step (by repeat (first | (with_reducible first | exact HB.out | apply below_alloc | apply pw_below_drewN | apply below_drew1 | refine below_set ?_ GE166.out) | exact HB.out)) hb); clear B166; clear HB; have B166 := n0_; have HB := n1_; clear n0_ n1_; (try clear hb); (try clear hb2); (try clear hk); (try clear hi); have hcz11_0 : w10.cell? ⟨g166, 0, none⟩ = some (.int .i64 a0_0) := bq_ B166 0; have hcz11_1 : w10.cell? ⟨g166, 1, none⟩ = some (.int .i64 a0_1) := bq_ B166 1; have hcz11_2 : w10.cell? ⟨g166, 2, none⟩ = some (.int .i64 a0_2) := bq_ B166 2; have hcz11_3 : w10.cell? ⟨g166, 3, none⟩ = some (.slice A0_3 l0_3.length c0_3) := bq_ B166 3; have hfz11_0 := blk_frozen B166.out 0; have hfz11_1 := blk_frozen B166.out 1; have hfz11_2 := blk_frozen B166.out 2; have hfz11_3 := blk_frozen B166.out 3; have q12 : ((ji5) : Int) ≤ ((l0_3.length : Int) : Int) := of_decide_eq_true (by first | (with_reducible assumption) | assumption); obtain ⟨i012, hi012, _, hsz12, _⟩ := info_parts info22; have hroom12 : l0_3.length ≤ c0_3 := HC0_3.out; have hC12 : Kd.C (Kd.slice 36 k36) _ A0_3 l0_3.length l0_3 := HR0_3.out; have hcut12 := cut_to (P := Tryd.prog) 24 22 .i64 Tryd.underlying24 hi012 A0_3 l0_3.length c0_3 (ji5) (of_decide_eq_true (by first | (with_reducible assumption) | assumption)) q12 hroom12; have hr12 := Kd.C_take (m := ((ji5) : Int).toNat) hC12 (by omega); have hy12 : y168.length = ((ji5) : Int).toNat := (by rw [Ny168.out, List.length_take]; omega); rw [← Ny168.out] at hr12; rw [← hy12] at hcut12; have HR171 := Aside0.mk hr12; have HC171 := Aside0.mk (show y168.length ≤ c0_3 from by omega); clear hr12 hC12 hroom12 hi012 hsz12; have KY12 := Aside0.mk hy12; clear hy12; replace q12 := eq_true q12))
    go_loopg [1, 7, 24] k (fun kq v1 v7 v24 w' => ∃ (x1_1 : Int) (x7_1 : List (S36)) (x24_1 : Int), v1 = .int .i64 x1_1 ∧ v24 = .int .i64 x24_1 ∧ Aside0 (tree_Path.l0 kq x1_1 x7_1 y168 (y168.length : Int) x24_1 = some (r1, r2)) ∧ Aside0 (kq ≤ k) ∧ Aside0 (Kd.R k36 36 w' w.heap.size (fun _ => True) v7 x7_1) ∧ Aside0 (w'.heap[g166]? = some (.cells #[.int .i64 a0_0, .int .i64 a0_1, .int .i64 a0_2, (.slice A0_3 l0_3.length c0_3)] 26 (0, 0))) ∧ Aside0 (Below w.heap.size w w'))
    case atStart => exact ⟨(a1), (([] : List (S36))), (0), (by first | rfl | (simp; done) | (simp [*]; done) | (simp; rfl) | (simp; decide +kernel)), (by first | rfl | (simp; done) | (simp [*]; done) | (simp; rfl) | (simp; decide +kernel)), H', ⟨Nat.le_refl _⟩, ⟨by first | exact Kd.R_nil _ _ _ _ _ | exact Kd.N_nil _ _ _ _ _ | exact Kd.V_nil _ _ _ _ _ | exact Kd.Q_nil _ _ _ _ _ | exact Kd.S_nil _ _ _ _ _⟩, ⟨by exact B166.out⟩, ⟨by repeat (first | (with_reducible first | exact HB.out | apply below_alloc | apply pw_below_drewN | apply below_drew1 | refine below_set ?_ GE166.out) | exact HB.out)⟩⟩
    case round =>
     clear H'
     try clear q1
     try clear c2
     try clear p2
     try clear c4
     try clear c4b0
     try clear c4b1
     try clear c6
     try clear c6b0
     try clear c6b1
     try clear p6
     try clear c7
     try clear c7b0
     try clear c7b1
     try clear q12
     try clear hcz11_0
     try clear hcz11_1
     try clear hcz11_2
     try clear hcz11_3
     try clear hcz9_0
     try clear hcz9_1
     try clear hcz9_2
     try clear hcz9_3
     try clear hfz11_0
     try clear hfz11_1
     try clear hfz11_2
     try clear hfz11_3
     try clear hfz9_0
     try clear hfz9_1
     try clear hfz9_2
     try clear hfz9_3
     try clear q12
     obtain ⟨x1_1, x7_1, x24_1, rfl, rfl, HA, HK1, HO_7, B166, HB⟩ := hrel
     cases gk with
     | zero => exact absurd HA.out (by simp [tree_Path.l0])
     | succ k1 =>
      have H := HA.out
      clear HA
      simp only [tree_Path.l0] at H
      by_cases c13 : x24_1 < (y168.length : Int)
      ·rw [if_pos c13] at H
       have c13b0 : decide (x24_1 < (y168.length : Int)) = true := decide_eq_true c13
       clear c13
       by_cases c14 : 0 ≤ x24_1
       ·rw [if_pos c14] at H
        have c14b0 : decide (0 ≤ x24_1) = true := decide_eq_true c14
        clear c14
        by_cases c15 : x24_1 < (y168.length : Int)
        ·rw [if_pos c15] at H
         have c15b0 : decide (x24_1 < (y168.length : Int)) = true := decide_eq_true c15
         clear c15
         by_cases c16 : 0 ≤ (Go.bits .xor .i64 x1_1 1)
         ·rw [if_pos c16] at H
          have c16b0 : decide (0 ≤ (Go.bits .xor .i64 x1_1 1)) = true := decide_eq_true c16
          clear c16
          by_cases c17 : (Go.bits .xor .i64 x1_1 1) < ((rd_L3 y168 x24_1).length : Int)
          ·rw [if_pos c17] at H
           have c17b0 : decide ((Go.bits .xor .i64 x1_1 1) < ((rd_L3 y168 x24_1).length : Int)) = true := decide_eq_true c17
           clear c17
           by_cases c18 : x7_1.length < 8796093022208
           ·rw [if_pos c18] at H
            have LMc18 := Aside0.mk c18
            clear c18
            obtain ⟨y174, hy174⟩ : ∃ y_ : List (S36), y_ = (x7_1 ++ [(⟨(rd_T36 (rd_L3 y168 x24_1) (Go.bits .xor .i64 x1_1 1)).f0, (rd_T36 (rd_L3 y168 x24_1) (Go.bits .xor .i64 x1_1 1)).f1⟩ : S36)]) := ⟨_, rfl⟩
            replace H : (tree_Path.l0 k1 (x1_1 / 2) y174 y168 (y168.length : Int) (wrap64 (x24_1 + 1))) = some (r1, r2) := by first | (rw [hy174]; with_reducible exact H) | (have H2_ := (Option.bind_some _ _).symm.trans H; rw [hy174]; with_reducible exact H2_) | (have H2_ := (Option.bind_some _ _).symm.trans H; with_reducible exact H2_) | with_reducible exact H | (rw [hy174]; exact H) | exact H
            have Ny174 := Aside0.mk hy174
            clear hy174
            have H' := Aside0.mk H
            clear H
            have p172 : 0 ≤ (x24_1 : Int) := of_decide_eq_true (by first | (with_reducible assumption) | assumption)
            have q172 : x24_1 < (y168.length : Int) := of_decide_eq_true (by first | (with_reducible assumption) | assumption)
            obtain ⟨ad172, A172_0, c172_0, e172, hx172_0, hl172_0, hi172_0⟩ := at_L3 HR171.out x24_1 p172 q172
            cases e172
            replace hx172_0 := (HB.out.cell (World.block_lt_of_cell? w _ hx172_0)).trans hx172_0
            have HR172_0 := Aside0.mk hi172_0
            have HC172_0 := Aside0.mk hl172_0
            clear hi172_0 hl172_0
            replace p172 := eq_true p172
            replace q172 := eq_true q172
            have p173 : 0 ≤ ((Go.bits .xor .i64 x1_1 1) : Int) := of_decide_eq_true (by first | (with_reducible assumption) | assumption)
            have q173 : (Go.bits .xor .i64 x1_1 1) < ((rd_L3 y168 x24_1).length : Int) := of_decide_eq_true (by first | (with_reducible assumption) | assumption)
            obtain ⟨ad173, e173, hx173_0, hx173_1⟩ := at_T36 HR172_0.out (Go.bits .xor .i64 x1_1 1) p173 q173
            cases e173
            replace hx173_0 := (HB.out.cell (World.block_lt_of_cell? w _ hx173_0)).trans hx173_0
            replace hx173_1 := (HB.out.cell (World.block_lt_of_cell? w _ hx173_1)).trans hx173_1
            replace p173 := eq_true p173
            replace q173 := eq_true q173
            go_wp2_with (first | ((with_reducible refine gate_builtin (b := .append) (xs := #[.tmp 28, .tmp 34]) rfl ?_); at_builtin; refine Kd.R_append k36 (w0 := w) w.heap.size rfl (.tmp 28) (.tmp 34) 22 36 (.agg #[(.int .u64 0), (.int .u64 0)]) 16 rfl Tryd.underlying22 info36 rfl (by decide) (by omega) u7 x7_1 (⟨(rd_T36 (rd_L3 y168 x24_1) (Go.bits .xor .i64 x1_1 1)).f0, (rd_T36 (rd_L3 y168 x24_1) (Go.bits .xor .i64 x1_1 1)).f1⟩ : S36) [.int .u64 ((rd_T36 (rd_L3 y168 x24_1) (Go.bits .xor .i64 x1_1 1)).f0), .int .u64 ((rd_T36 (rd_L3 y168 x24_1) (Go.bits .xor .i64 x1_1 1)).f1)] (fun _ => True) (fun _ => False) rfl rfl ?aP (fun _ hk => hk.elim) ?aF ?aO ?aB ?aS ?aL ?_; (case aP => exact k36_mkM _ _ _ (⟨(rd_T36 (rd_L3 y168 x24_1) (Go.bits .xor .i64 x1_1 1)).f0, (rd_T36 (rd_L3 y168 x24_1) (Go.bits .xor .i64 x1_1 1)).f1⟩ : S36)); (case aB => exact (by repeat (first | (with_reducible first | exact HB.out | apply below_alloc | apply pw_below_drewN | apply below_drew1 | refine below_set ?_ GE166.out) | exact HB.out))); (case aF => exact (fun _ _ => trivial)); (case aO => exact (by (with_reducible repeat (first | apply Kd.R_alloc | apply Kd.R_drewN | apply Kd.R_drew)); exact HO_7.out)); (case aS => exact (below_size (by repeat (first | (with_reducible first | exact HB.out | apply below_alloc | apply pw_below_drewN | apply below_drew1 | refine below_set ?_ GE166.out) | exact HB.out)))); (case aL => have := LMc18.out; omega); intro v175 w19 ho hb hg hat; rw [← Ny174.out] at ho; have n0_ := Aside0.mk (blk_grown (g := g166) (o := .cells #[.int .i64 a0_0, .int .i64 a0_1, .int .i64 a0_2, .slice (some ad172) l0_3.length c0_3] 26 (0, 0)) (by exact B166.out) hg (Kd.R_ne HO_7.out B166.out (by decide))); have n1_ := Aside0.mk (hb); have n2_ := Aside0.mk (ho); clear B166; clear HB; clear HO_7; have B166 := n0_; have HB := n1_; have HO176 := n2_; clear n0_ n1_ n2_; clear ho hb hg hat))
            go_roundg k1
            case measure => have := HK1.out; omega
            case rel => exact ⟨(x1_1 / 2), (y174), (wrap64 (x24_1 + 1)), (by first | rfl | (simp; done) | (simp [*]; done) | (simp; rfl) | (simp; decide +kernel)), (by first | rfl | (simp; done) | (simp [*]; done) | (simp; rfl) | (simp; decide +kernel)), H', ⟨by have := HK1.out; omega⟩, ⟨by (with_reducible repeat (first | apply Kd.R_alloc | apply Kd.R_drewN | apply Kd.R_drew)); exact HO176.out⟩, ⟨by exact B166.out⟩, ⟨by repeat (first | (with_reducible first | exact HB.out | apply below_alloc | apply pw_below_drewN | apply below_drew1 | refine below_set ?_ GE166.out) | exact HB.out)⟩⟩
           ·rw [if_neg c18] at H
            exact absurd H (by simp)
          ·rw [if_neg c17] at H
           exact absurd H (by simp)
         ·rw [if_neg c16] at H
          exact absurd H (by simp)
        ·rw [if_neg c15] at H
         exact absurd H (by simp)
       ·rw [if_neg c14] at H
        exact absurd H (by simp)
      ·rw [if_neg c13] at H
       have c13b0 : decide (x24_1 < (y168.length : Int)) = false := decide_eq_false c13
       clear c13
       simp only [Option.some.injEq, Prod.mk.injEq] at H
       obtain ⟨rfl, rfl⟩ := H
       go_wp2
       go_ret2
       exact ⟨_, by first | rfl | (simp [errW_none, errW_some] <;> rfl) | (simp only [← hji5]; first | rfl | (simp [errW_none, errW_some] <;> rfl)) | (simp [*, errW_none, errW_some] <;> rfl), by (with_reducible repeat (first | apply Kd.R_alloc | apply Kd.R_drewN | apply Kd.R_drew)); exact HO_7.out, by repeat (first | (with_reducible first | exact HB.out | apply below_alloc | apply pw_below_drewN | apply below_drew1 | refine below_set ?_ GE166.out) | exact HB.out)⟩
   ·rw [if_neg c7] at H
    exact absurd H (by simp)
  ·rw [if_neg c6] at H
   exact absurd H (by simp)
 ·rw [if_neg c4] at H
  have c4b0 : (t167 == 0) = false := beq_eq_false_iff_ne.mpr c4
  have c4b1 : (t167 != 0) = true := bne_iff_ne.mpr c4
  simp only [Option.some.injEq, Prod.mk.injEq] at H
  obtain ⟨rfl, rfl⟩ := H
  go_enter Tryd.func23, Tryd.ntmps23
  go_wp2_with (first | ((with_reducible refine gate_dst (N := 2) rfl ?_); refine box_event ?hg (N := 2) ?hd (cs := #[.int .i64 a0_0, .int .i64 a0_1, .int .i64 a0_2, .slice A0_3 l0_3.length c0_3]) (t := 26) ?hr ?_; (case hd => rfl); (case hg => rfl); (case hr => first | (go_simp; done) | (go_simp; rfl)); intro g166 hg w20 hbox hb; have n0_ := Aside0.mk (below_step (by repeat (first | (with_reducible first | exact HB.out | apply below_alloc | apply pw_below_drewN | apply below_drew1) | exact HB.out)) hb); have n1_ := Aside0.mk (hbox); have n2_ := Aside0.mk ((by rw [hg]; exact (below_size (by repeat (first | (with_reducible first | exact HB.out | apply below_alloc | apply pw_below_drewN | apply below_drew1) | exact HB.out))) : w.heap.size ≤ g166)); have n3_ := Aside0.mk ((by rw [hg]; exact (below_size (by repeat (first | (with_reducible first | exact HB.out | apply below_alloc | apply pw_below_drewN | apply below_drew1) | exact HB.out))) : w.heap.size ≤ g166)); clear HB; have HB := n0_; have B166 := n1_; have GW166 := n2_; have GE166 := n3_; clear n0_ n1_ n2_ n3_; clear hb hbox hg; have hcz21_0 : w20.cell? ⟨g166, 0, none⟩ = some (.int .i64 a0_0) := bq_ B166 0; have hcz21_1 : w20.cell? ⟨g166, 1, none⟩ = some (.int .i64 a0_1) := bq_ B166 1; have hcz21_2 : w20.cell? ⟨g166, 2, none⟩ = some (.int .i64 a0_2) := bq_ B166 2; have hcz21_3 : w20.cell? ⟨g166, 3, none⟩ = some (.slice A0_3 l0_3.length c0_3) := bq_ B166 3; have hfz21_0 := blk_frozen B166.out 0; have hfz21_1 := blk_frozen B166.out 1; have hfz21_2 := blk_frozen B166.out 2; have hfz21_3 := blk_frozen B166.out 3) | ((with_reducible refine gate_callee (f := 46) rfl ?_); refine goesL_ (some 12) rfl rfl Tryd.func46 (by kernel_rfl) rfl #[.agg #[.int .i64 a0_0, .int .i64 a0_1, .int .i64 a0_2, .slice A0_3 l0_3.length c0_3], .int .i64 a1] rfl (by (try simp only [List.map_toArray, List.map_cons, List.map_nil]); first | done | rfl | (go_simp; done)) ?_; (with_reducible refine (tree_place.calls k a0_0 a0_1 a0_2 _ _ l0_3 a1 t167 _ ?side1 ?side2 ?side3 A3.out).mono ?_); (case side1 => repeat (first | exact (Kd.C_below HR0_3.out HB.out) | (with_reducible refine Kd.C_alloc ?_ _) | (with_reducible refine Kd.C_drewN ?_ _) | (with_reducible refine Kd.C_drew ?_))); (case side2 => exact HC0_3.out); (case side3 => repeat (first | exact (GL.below HRG.out HB.out) | (with_reducible refine GL.alloc ?_ _) | (with_reducible refine GL.drewN ?_ _) | (with_reducible refine GL.drew ?_))); rintro e w22 ⟨rfl, hb⟩; refine ⟨_, rfl, ?_⟩; have n0_ := Aside0.mk (blk_below (g := g166) (o := .cells #[.int .i64 a0_0, .int .i64 a0_1, .int .i64 a0_2, .slice A0_3 l0_3.length c0_3] 26 (0, 0)) (by exact B166.out) hb); have n1_ := Aside0.mk (below_step (by repeat (first | (with_reducible first | exact HB.out | apply below_alloc | apply pw_below_drewN | apply below_drew1 | refine below_set ?_ GE166.out) | exact HB.out)) hb); clear B166; clear HB; have B166 := n0_; have HB := n1_; clear n0_ n1_; (try clear hb); (try clear hb2); (try clear hk); (try clear hi)))
  go_ret2
  exact ⟨_, by first | rfl | (simp [errW_none, errW_some] <;> rfl) | (simp [*, errW_none, errW_some] <;> rfl), by first | exact Kd.R_nil _ _ _ _ _ | exact Kd.N_nil _ _ _ _ _ | exact Kd.V_nil _ _ _ _ _ | exact Kd.Q_nil _ _ _ _ _ | exact Kd.S_nil _ _ _ _ _, by repeat (first | (with_reducible first | exact HB.out | apply below_alloc | apply pw_below_drewN | apply below_drew1 | refine below_set ?_ GE166.out) | exact HB.out)⟩

end Go.Proofs.YtpnpmeogffodgaaDoor.Q
end
section
namespace Go.Proofs.YtpnpmeogffodgaaDoor.Q
open Go.RowKit Go.Proofs.YtpnpmeogffodgaaDoorW.PrintWords Go.Proofs.YtpnpmeogffodgaaDoorW.PrintLast Go.Proofs.YtpnpmeogffodgaaDoorW.PrintMore
attribute [local go_sem] max2_int min2_int max_two min_two max_three min_three max_four min_four run_store_fnV run_store_fnc run_store_nfn   -- for this text's walks alone
set_option linter.unusedVariables false
set_option linter.unusedSimpArgs false

/-! ### tree_opens: function 47 -/
def tree_opens.f (a0 : Int) (a1 : Int) (a2_0 : Int) (a2_1 : Int) (l3 : List (S36)) : Option (Bool) := (field_Valid.f a0).bind fun t178 => (if t178 = true then (if a1 ≥ 0 then (if (l3.length : Int) ≤ 18 then ((tree_proper.f a0 (([(⟨a2_0, a2_1⟩ : S36)] : List (S36)))).bind fun t182 => (if t182 = true then ((tree_proper.f a0 l3).bind fun t183 => (some t183)) else (some false))) else (some false)) else (some false)) else (some false))
set_option maxHeartbeats 8000000 in
set_option maxRecDepth 100000 in
theorem tree_opens.calls (a0 : Int) (a1 : Int) (a2_0 : Int) (a2_1 : Int) (A3 : Option Addr) (c3 : Nat) (l3 : List (S36)) (r : Bool) (w : World) (hr3 : Kd.C k36 w A3 l3.length l3) (hc3 : l3.length ≤ c3) (hrG : GL w) (h : tree_opens.f a0 a1 a2_0 a2_1 l3 = some r) :
  Calls Tryd.prog 47 #[.int .i64 a0, .int .i64 a1, .agg #[.int .u64 a2_0, .int .u64 a2_1], .slice A3 l3.length c3] w fun e w' => e = .returned (.bool r) ∧ Below w.heap.size w w' := by
 have hu36 := Tryd.underlying36
 have HRG := Aside0.mk hrG
 clear hrG
 have HR3 := Aside0.mk hr3
 have HC3 := Aside0.mk hc3
 clear hr3 hc3
 have HB := Aside0.mk (Below.refl w.heap.size w)
 have H : ((field_Valid.f a0).bind fun t178 => (if t178 = true then (if a1 ≥ 0 then (if (l3.length : Int) ≤ 18 then ((tree_proper.f a0 (([(⟨a2_0, a2_1⟩ : S36)] : List (S36)))).bind fun t182 => (if t182 = true then ((tree_proper.f a0 l3).bind fun t183 => (some t183)) else (some false))) else (some false)) else (some false)) else (some false))) = some r := h
 clear h
 replace H := Option.bind_eq_some_iff.mp H
 obtain ⟨t178, A50, H⟩ := H
 have A5 := Aside0.mk A50
 clear A50
 by_cases c6 : t178 = true
 ·subst c6
  have H1 : (if a1 ≥ 0 then (if (l3.length : Int) ≤ 18 then ((tree_proper.f a0 (([(⟨a2_0, a2_1⟩ : S36)] : List (S36)))).bind fun t182 => (if t182 = true then ((tree_proper.f a0 l3).bind fun t183 => (some t183)) else (some false))) else (some false)) else (some false)) = some r := by rw [if_pos rfl] at H; exact H
  clear H
  have H := H1
  clear H1
  by_cases c7 : a1 ≥ 0
  ·rw [if_pos c7] at H
   have c7b0 : decide (0 ≤ a1) = true := decide_eq_true c7
   clear c7
   by_cases c8 : (l3.length : Int) ≤ 18
   ·rw [if_pos c8] at H
    have c8b0 : decide ((l3.length : Int) ≤ 18) = true := decide_eq_true c8
    have c8b1 : decide (l3.length ≤ 18) = true := decide_eq_true (by omega)
    clear c8
    obtain ⟨y179, hy179⟩ : ∃ y_ : List (S36), y_ = (([(⟨a2_0, a2_1⟩ : S36)] : List (S36))) := ⟨_, rfl⟩
    replace H : ((tree_proper.f a0 y179).bind fun t182 => (if t182 = true then ((tree_proper.f a0 l3).bind fun t183 => (some t183)) else (some false))) = some r := by first | (rw [hy179]; with_reducible exact H) | (have H2_ := (Option.bind_some _ _).symm.trans H; rw [hy179]; with_reducible exact H2_) | (have H2_ := (Option.bind_some _ _).symm.trans H; with_reducible exact H2_) | with_reducible exact H | (rw [hy179]; exact H) | exact H
    have Ny179 := Aside0.mk hy179
    clear hy179
    replace H := Option.bind_eq_some_iff.mp H
    obtain ⟨t182, A90, H⟩ := H
    have A9 := Aside0.mk A90
    clear A90
    by_cases c10 : t182 = true
    ·subst c10
     have H1 : ((tree_proper.f a0 l3).bind fun t183 => (some t183)) = some r := by rw [if_pos rfl] at H; exact H
     clear H
     have H := H1
     clear H1
     replace H := Option.bind_eq_some_iff.mp H
     obtain ⟨t183, A110, H⟩ := H
     have A11 := Aside0.mk A110
     clear A110
     obtain rfl := Option.some.inj H
     go_enter Tryd.func47, Tryd.ntmps47
     go_wp2_with (first | ((with_reducible refine gate_dst (N := 6) rfl ?_); (try (refine gate_guard (by rfl) ?_; dsimp only)); refine box_event ?hg (N := 6) ?hd (cs := #[.int .u64 a2_0, .int .u64 a2_1]) (t := 36) ?hr ?_; (case hd => rfl); (case hg => rfl); (case hr => first | (go_simp; done) | (go_simp; rfl)); intro g177 hg w12 hbox hb; have n0_ := Aside0.mk (below_step (by repeat (first | (with_reducible first | exact HB.out | apply below_alloc | apply pw_below_drewN | apply below_drew1) | exact HB.out)) hb); have n1_ := Aside0.mk (hbox); have n2_ := Aside0.mk ((by rw [hg]; exact (below_size (by repeat (first | (with_reducible first | exact HB.out | apply below_alloc | apply pw_below_drewN | apply below_drew1) | exact HB.out))) : w.heap.size ≤ g177)); have n3_ := Aside0.mk ((by rw [hg]; exact (below_size (by repeat (first | (with_reducible first | exact HB.out | apply below_alloc | apply pw_below_drewN | apply below_drew1) | exact HB.out))) : w.heap.size ≤ g177)); clear HB; have HB := n0_; have B177 := n1_; have GW177 := n2_; have GE177 := n3_; clear n0_ n1_ n2_ n3_; clear hb hbox hg) | ((with_reducible refine gate_callee (f := 38) rfl ?_); refine goesL_ (some 10) rfl rfl Tryd.func38 (by kernel_rfl) rfl #[.int .i64 a0] rfl (by (try simp only [List.map_toArray, List.map_cons, List.map_nil]); first | done | rfl | (go_simp; done)) ?_; (with_reducible refine (field_Valid.calls a0 true _ A5.out).mono ?_); rintro e w' ⟨rfl, ⟨nd, rfl⟩⟩; refine ⟨_, rfl, ?_⟩; have hcz13_0 : w12.cell? ⟨g177, 0, none⟩ = some (.int .u64 a2_0) := bq_ B177 0; have hcz13_1 : w12.cell? ⟨g177, 1, none⟩ = some (.int .u64 a2_1) := bq_ B177 1; have hfz13_0 := blk_frozen B177.out 0; have hfz13_1 := blk_frozen B177.out 1) | ((with_reducible refine gate_dst (N := 23) rfl ?_); (try (refine gate_guard (by rfl) ?_; dsimp only)); refine Kd.R_lit k36 _ 36 ?hg (N := 23) ?hd (xs := ([(⟨a2_0, a2_1⟩ : S36)] : List (S36))) (inner := [.int .u64 a2_0, .int .u64 a2_1]) (ok := fun _ => True) (okp := fun _ => True) ?hr ?hp (fun _ hk => hk) trivial (Below.refl _ _) (Nat.le_refl _) (by simp) ?_; (case hd => rfl); (case hg => rfl); (case hr => first | (go_simp; done) | (go_simp; rfl)); (case hp => exact (Reps.c2 (show Kd.M k36 _ _ _ (⟨a2_0, a2_1⟩ : S36) [.int .u64 a2_0, .int .u64 a2_1] from (k36_mkM _ _ _ (⟨a2_0, a2_1⟩ : S36) )) (Reps.none _ _))); intro v180 w14 ho15 hb hg_ hnew_; clear hg_ hnew_; (first | rw [← Ny179.out] at ho15 | (simp only [Int.reduceToNat] at ho15; rw [← Ny179.out] at ho15)); have n0_ := Aside0.mk (Kd.R_lower (Kd.R_newB ho15 (g := g177) (o := .cells #[.int .u64 a2_0, .int .u64 a2_1] 36 (0, 0)) (by exact B177.out)) (below_size (by repeat (first | (with_reducible first | exact HB.out | apply below_alloc | apply pw_below_drewN | apply below_drew1 | refine below_set ?_ GE177.out) | exact HB.out)))); have n1_ := Aside0.mk (blk_below (g := g177) (o := .cells #[.int .u64 a2_0, .int .u64 a2_1] 36 (0, 0)) (by exact B177.out) hb); have n2_ := Aside0.mk (below_step (by repeat (first | (with_reducible first | exact HB.out | apply below_alloc | apply pw_below_drewN | apply below_drew1 | refine below_set ?_ GE177.out) | exact HB.out)) hb); clear B177; clear HB; have HO181 := n0_; have B177 := n1_; have HB := n2_; clear n0_ n1_ n2_; clear hb ho15; obtain ⟨Ao16, co16, eo16⟩ := Kd.R_slice HO181.out; subst eo16) | (go_at_call 39; (with_reducible refine (tree_proper.calls a0 _ _ y179 true _ ?side1 ?side2 ?side3 A9.out).mono ?_); (case side1 => repeat (first | exact (Kd.R_reads' HO181.out).2.2 | (with_reducible refine Kd.C_alloc ?_ _) | (with_reducible refine Kd.C_drewN ?_ _) | (with_reducible refine Kd.C_drew ?_))); (case side2 => exact (Kd.R_reads' HO181.out).2.1); (case side3 => repeat (first | exact (GL.below HRG.out HB.out) | (with_reducible refine GL.alloc ?_ _) | (with_reducible refine GL.drewN ?_ _) | (with_reducible refine GL.drew ?_))); rintro e w17 ⟨rfl, hb⟩; have n0_ := Aside0.mk (Kd.R_below (by (with_reducible repeat (first | apply Kd.R_alloc | apply Kd.R_drewN | apply Kd.R_drew)); exact HO181.out) hb); have n1_ := Aside0.mk (blk_below (g := g177) (o := .cells #[.int .u64 a2_0, .int .u64 a2_1] 36 (0, 0)) (by exact B177.out) hb); have n2_ := Aside0.mk (below_step (by repeat (first | (with_reducible first | exact HB.out | apply below_alloc | apply pw_below_drewN | apply below_drew1 | refine below_set ?_ GE177.out) | exact HB.out)) hb); clear HO181; clear B177; clear HB; have HO181 := n0_; have B177 := n1_; have HB := n2_; clear n0_ n1_ n2_; (try clear hb); (try clear hb2); (try clear hk); (try clear hi)) | (go_at_call 39; (with_reducible refine (tree_proper.calls a0 _ _ l3 t183 _ ?side1 ?side2 ?side3 A11.out).mono ?_); (case side1 => repeat (first | exact (Kd.C_below HR3.out HB.out) | (with_reducible refine Kd.C_alloc ?_ _) | (with_reducible refine Kd.C_drewN ?_ _) | (with_reducible refine Kd.C_drew ?_))); (case side2 => exact HC3.out); (case side3 => repeat (first | exact (GL.below HRG.out HB.out) | (with_reducible refine GL.alloc ?_ _) | (with_reducible refine GL.drewN ?_ _) | (with_reducible refine GL.drew ?_))); rintro e w18 ⟨rfl, hb⟩; have n0_ := Aside0.mk (Kd.R_below (by (with_reducible repeat (first | apply Kd.R_alloc | apply Kd.R_drewN | apply Kd.R_drew)); exact HO181.out) hb); have n1_ := Aside0.mk (blk_below (g := g177) (o := .cells #[.int .u64 a2_0, .int .u64 a2_1] 36 (0, 0)) (by exact B177.out) hb); have n2_ := Aside0.mk (below_step (by repeat (first | (with_reducible first | exact HB.out | apply below_alloc | apply pw_below_drewN | apply below_drew1 | refine below_set ?_ GE177.out) | exact HB.out)) hb); clear HO181; clear B177; clear HB; have HO181 := n0_; have B177 := n1_; have HB := n2_; clear n0_ n1_ n2_; (try clear hb); (try clear hb2); (try clear hk); (try clear hi)))
     go_ret
     exact ⟨by first | rfl | (simp [errW_none, errW_some] <;> rfl) | (simp [*, errW_none, errW_some] <;> rfl), by repeat (first | (with_reducible first | exact HB.out | apply below_alloc | apply pw_below_drewN | apply below_drew1 | refine below_set ?_ GE177.out) | exact HB.out)⟩
    ·replace c10 := Bool.eq_false_iff.mpr c10
     subst c10
     have H1 : (some false) = some r := by rw [if_neg (show ¬ (false = true) by decide)] at H; exact H
     clear H
     have H := H1
     clear H1
     obtain rfl := Option.some.inj H
     go_enter Tryd.func47, Tryd.ntmps47
     go_wp2_with (first | ((with_reducible refine gate_dst (N := 6) rfl ?_); (try (refine gate_guard (by rfl) ?_; dsimp only)); refine box_event ?hg (N := 6) ?hd (cs := #[.int .u64 a2_0, .int .u64 a2_1]) (t := 36) ?hr ?_; (case hd => rfl); (case hg => rfl); (case hr => first | (go_simp; done) | (go_simp; rfl)); intro g177 hg w19 hbox hb; have n0_ := Aside0.mk (below_step (by repeat (first | (with_reducible first | exact HB.out | apply below_alloc | apply pw_below_drewN | apply below_drew1) | exact HB.out)) hb); have n1_ := Aside0.mk (hbox); have n2_ := Aside0.mk ((by rw [hg]; exact (below_size (by repeat (first | (with_reducible first | exact HB.out | apply below_alloc | apply pw_below_drewN | apply below_drew1) | exact HB.out))) : w.heap.size ≤ g177)); have n3_ := Aside0.mk ((by rw [hg]; exact (below_size (by repeat (first | (with_reducible first | exact HB.out | apply below_alloc | apply pw_below_drewN | apply below_drew1) | exact HB.out))) : w.heap.size ≤ g177)); clear HB; have HB := n0_; have B177 := n1_; have GW177 := n2_; have GE177 := n3_; clear n0_ n1_ n2_ n3_; clear hb hbox hg) | ((with_reducible refine gate_callee (f := 38) rfl ?_); refine goesL_ (some 10) rfl rfl Tryd.func38 (by kernel_rfl) rfl #[.int .i64 a0] rfl (by (try simp only [List.map_toArray, List.map_cons, List.map_nil]); first | done | rfl | (go_simp; done)) ?_; (with_reducible refine (field_Valid.calls a0 true _ A5.out).mono ?_); rintro e w' ⟨rfl, ⟨nd, rfl⟩⟩; refine ⟨_, rfl, ?_⟩; have hcz20_0 : w19.cell? ⟨g177, 0, none⟩ = some (.int .u64 a2_0) := bq_ B177 0; have hcz20_1 : w19.cell? ⟨g177, 1, none⟩ = some (.int .u64 a2_1) := bq_ B177 1; have hfz20_0 := blk_frozen B177.out 0; have hfz20_1 := blk_frozen B177.out 1) | ((with_reducible refine gate_dst (N := 23) rfl ?_); (try (refine gate_guard (by rfl) ?_; dsimp only)); refine Kd.R_lit k36 _ 36 ?hg (N := 23) ?hd (xs := ([(⟨a2_0, a2_1⟩ : S36)] : List (S36))) (inner := [.int .u64 a2_0, .int .u64 a2_1]) (ok := fun _ => True) (okp := fun _ => True) ?hr ?hp (fun _ hk => hk) trivial (Below.refl _ _) (Nat.le_refl _) (by simp) ?_; (case hd => rfl); (case hg => rfl); (case hr => first | (go_simp; done) | (go_simp; rfl)); (case hp => exact (Reps.c2 (show Kd.M k36 _ _ _ (⟨a2_0, a2_1⟩ : S36) [.int .u64 a2_0, .int .u64 a2_1] from (k36_mkM _ _ _ (⟨a2_0, a2_1⟩ : S36) )) (Reps.none _ _))); intro v180 w21 ho22 hb hg_ hnew_; clear hg_ hnew_; (first | rw [← Ny179.out] at ho22 | (simp only [Int.reduceToNat] at ho22; rw [← Ny179.out] at ho22)); have n0_ := Aside0.mk (Kd.R_lower (Kd.R_newB ho22 (g := g177) (o := .cells #[.int .u64 a2_0, .int .u64 a2_1] 36 (0, 0)) (by exact B177.out)) (below_size (by repeat (first | (with_reducible first | exact HB.out | apply below_alloc | apply pw_below_drewN | apply below_drew1 | refine below_set ?_ GE177.out) | exact HB.out)))); have n1_ := Aside0.mk (blk_below (g := g177) (o := .cells #[.int .u64 a2_0, .int .u64 a2_1] 36 (0, 0)) (by exact B177.out) hb); have n2_ := Aside0.mk (below_step (by repeat (first | (with_reducible first | exact HB.out | apply below_alloc | apply pw_below_drewN | apply below_drew1 | refine below_set ?_ GE177.out) | exact HB.out)) hb); clear B177; clear HB; have HO181 := n0_; have B177 := n1_; have HB := n2_; clear n0_ n1_ n2_; clear hb ho22; obtain ⟨Ao23, co23, eo23⟩ := Kd.R_slice HO181.out; subst eo23) | (go_at_call 39; (with_reducible refine (tree_proper.calls a0 _ _ y179 false _ ?side1 ?side2 ?side3 A9.out).mono ?_); (case side1 => repeat (first | exact (Kd.R_reads' HO181.out).2.2 | (with_reducible refine Kd.C_alloc ?_ _) | (with_reducible refine Kd.C_drewN ?_ _) | (with_reducible refine Kd.C_drew ?_))); (case side2 => exact (Kd.R_reads' HO181.out).2.1); (case side3 => repeat (first | exact (GL.below HRG.out HB.out) | (with_reducible refine GL.alloc ?_ _) | (with_reducible refine GL.drewN ?_ _) | (with_reducible refine GL.drew ?_))); rintro e w24 ⟨rfl, hb⟩; have n0_ := Aside0.mk (Kd.R_below (by (with_reducible repeat (first | apply Kd.R_alloc | apply Kd.R_drewN | apply Kd.R_drew)); exact HO181.out) hb); have n1_ := Aside0.mk (blk_below (g := g177) (o := .cells #[.int .u64 a2_0, .int .u64 a2_1] 36 (0, 0)) (by exact B177.out) hb); have n2_ := Aside0.mk (below_step (by repeat (first | (with_reducible first | exact HB.out | apply below_alloc | apply pw_below_drewN | apply below_drew1 | refine below_set ?_ GE177.out) | exact HB.out)) hb); clear HO181; clear B177; clear HB; have HO181 := n0_; have B177 := n1_; have HB := n2_; clear n0_ n1_ n2_; (try clear hb); (try clear hb2); (try clear hk); (try clear hi)))
     go_ret
     exact ⟨by first | rfl | (simp [errW_none, errW_some] <;> rfl) | (simp [*, errW_none, errW_some] <;> rfl), by repeat (first | (with_reducible first | exact HB.out | apply below_alloc | apply pw_below_drewN | apply below_drew1 | refine below_set ?_ GE177.out) | exact HB.out)⟩
   ·rw [if_neg c8] at H
    have c8b0 : decide ((l3.length : Int) ≤ 18) = false := decide_eq_false c8
    have c8b1 : decide (l3.length ≤ 18) = false := decide_eq_false (by omega)
    clear c8
    obtain rfl := Option.some.inj H
    go_enter Tryd.func47, Tryd.ntmps47
    go_wp2_with (first | ((with_reducible refine gate_dst (N := 6) rfl ?_); (try (refine gate_guard (by rfl) ?_; dsimp only)); refine box_event ?hg (N := 6) ?hd (cs := #[.int .u64 a2_0, .int .u64 a2_1]) (t := 36) ?hr ?_; (case hd => rfl); (case hg => rfl); (case hr => first | (go_simp; done) | (go_simp; rfl)); intro g177 hg w25 hbox hb; have n0_ := Aside0.mk (below_step (by repeat (first | (with_reducible first | exact HB.out | apply below_alloc | apply pw_below_drewN | apply below_drew1) | exact HB.out)) hb); have n1_ := Aside0.mk (hbox); have n2_ := Aside0.mk ((by rw [hg]; exact (below_size (by repeat (first | (with_reducible first | exact HB.out | apply below_alloc | apply pw_below_drewN | apply below_drew1) | exact HB.out))) : w.heap.size ≤ g177)); have n3_ := Aside0.mk ((by rw [hg]; exact (below_size (by repeat (first | (with_reducible first | exact HB.out | apply below_alloc | apply pw_below_drewN | apply below_drew1) | exact HB.out))) : w.heap.size ≤ g177)); clear HB; have HB := n0_; have B177 := n1_; have GW177 := n2_; have GE177 := n3_; clear n0_ n1_ n2_ n3_; clear hb hbox hg) | ((with_reducible refine gate_callee (f := 38) rfl ?_); refine goesL_ (some 10) rfl rfl Tryd.func38 (by kernel_rfl) rfl #[.int .i64 a0] rfl (by (try simp only [List.map_toArray, List.map_cons, List.map_nil]); first | done | rfl | (go_simp; done)) ?_; (with_reducible refine (field_Valid.calls a0 true _ A5.out).mono ?_); rintro e w' ⟨rfl, ⟨nd, rfl⟩⟩; refine ⟨_, rfl, ?_⟩))
    go_ret
    exact ⟨by first | rfl | (simp [errW_none, errW_some] <;> rfl) | (simp [*, errW_none, errW_some] <;> rfl), by repeat (first | (with_reducible first | exact HB.out | apply below_alloc | apply pw_below_drewN | apply below_drew1 | refine below_set ?_ GE177.out) | exact HB.out)⟩
  ·rw [if_neg c7] at H
   have c7b0 : decide (0 ≤ a1) = false := decide_eq_false c7
   clear c7
   obtain rfl := Option.some.inj H
   go_enter Tryd.func47, Tryd.ntmps47
   go_wp2_with (first | ((with_reducible refine gate_dst (N := 6) rfl ?_); (try (refine gate_guard (by rfl) ?_; dsimp only)); refine box_event ?hg (N := 6) ?hd (cs := #[.int .u64 a2_0, .int .u64 a2_1]) (t := 36) ?hr ?_; (case hd => rfl); (case hg => rfl); (case hr => first | (go_simp; done) | (go_simp; rfl)); intro g177 hg w26 hbox hb; have n0_ := Aside0.mk (below_step (by repeat (first | (with_reducible first | exact HB.out | apply below_alloc | apply pw_below_drewN | apply below_drew1) | exact HB.out)) hb); have n1_ := Aside0.mk (hbox); have n2_ := Aside0.mk ((by rw [hg]; exact (below_size (by repeat (first | (with_reducible first | exact HB.out | apply below_alloc | apply pw_below_drewN | apply below_drew1) | exact HB.out))) : w.heap.size ≤ g177)); have n3_ := Aside0.mk ((by rw [hg]; exact (below_size (by repeat (first | (with_reducible first | exact HB.out | apply below_alloc | apply pw_below_drewN | apply below_drew1) | exact HB.out))) : w.heap.size ≤ g177)); clear HB; have HB := n0_; have B177 := n1_; have GW177 := n2_; have GE177 := n3_; clear n0_ n1_ n2_ n3_; clear hb hbox hg) | ((with_reducible refine gate_callee (f := 38) rfl ?_); refine goesL_ (some 10) rfl rfl Tryd.func38 (by kernel_rfl) rfl #[.int .i64 a0] rfl (by (try simp only [List.map_toArray, List.map_cons, List.map_nil]); first | done | rfl | (go_simp; done)) ?_; (with_reducible refine (field_Valid.calls a0 true _ A5.out).mono ?_); rintro e w' ⟨rfl, ⟨nd, rfl⟩⟩; refine ⟨_, rfl, ?_⟩))
   go_ret
   exact ⟨by first | rfl | (simp [errW_none, errW_some] <;> rfl) | (simp [*, errW_none, errW_some] <;> rfl), by repeat (first | (with_reducible first | exact HB.out | apply below_alloc | apply pw_below_drewN | apply below_drew1 | refine below_set ?_ GE177.out) | exact HB.out)⟩
 ·replace c6 := Bool.eq_false_iff.mpr c6
  subst c6
  have H1 : (some false) = some r := by rw [if_neg (show ¬ (false = true) by decide)] at H; exact H
  clear H
  have H := H1
  clear H1
  obtain rfl := Option.some.inj H
  go_enter Tryd.func47, Tryd.ntmps47
  go_wp2_with (first | ((with_reducible refine gate_dst (N := 6) rfl ?_); (try (refine gate_guard (by rfl) ?_; dsimp only)); refine box_event ?hg (N := 6) ?hd (cs := #[.int .u64 a2_0, .int .u64 a2_1]) (t := 36) ?hr ?_; (case hd => rfl); (case hg => rfl); (case hr => first | (go_simp; done) | (go_simp; rfl)); intro g177 hg w27 hbox hb; have n0_ := Aside0.mk (below_step (by repeat (first | (with_reducible first | exact HB.out | apply below_alloc | apply pw_below_drewN | apply below_drew1) | exact HB.out)) hb); have n1_ := Aside0.mk (hbox); have n2_ := Aside0.mk ((by rw [hg]; exact (below_size (by repeat (first | (with_reducible first | exact HB.out | apply below_alloc | apply pw_below_drewN | apply below_drew1) | exact HB.out))) : w.heap.size ≤ g177)); have n3_ := Aside0.mk ((by rw [hg]; exact (below_size (by repeat (first | (with_reducible first | exact HB.out | apply below_alloc | apply pw_below_drewN | apply below_drew1) | exact HB.out))) : w.heap.size ≤ g177)); clear HB; have HB := n0_; have B177 := n1_; have GW177 := n2_; have GE177 := n3_; clear n0_ n1_ n2_ n3_; clear hb hbox hg) | ((with_reducible refine gate_callee (f := 38) rfl ?_); refine goesL_ (some 10) rfl rfl Tryd.func38 (by kernel_rfl) rfl #[.int .i64 a0] rfl (by (try simp only [List.map_toArray, List.map_cons, List.map_nil]); first | done | rfl | (go_simp; done)) ?_; (with_reducible refine (field_Valid.calls a0 false _ A5.out).mono ?_); rintro e w' ⟨rfl, ⟨nd, rfl⟩⟩; refine ⟨_, rfl, ?_⟩))
  go_ret
  exact ⟨by first | rfl | (simp [errW_none, errW_some] <;> rfl) | (simp [*, errW_none, errW_some] <;> rfl), by repeat (first | (with_reducible first | exact HB.out | apply below_alloc | apply pw_below_drewN | apply below_drew1 | refine below_set ?_ GE177.out) | exact HB.out)⟩

-- NOT PRINTED: function 64 (tree_climber_1)

-- NOT PRINTED: function 51 (tree_climber)

end Go.Proofs.YtpnpmeogffodgaaDoor.Q
end
section
namespace Go.Proofs.YtpnpmeogffodgaaDoor.Q
open Go.RowKit Go.Proofs.YtpnpmeogffodgaaDoorW.PrintWords Go.Proofs.YtpnpmeogffodgaaDoorW.PrintLast Go.Proofs.YtpnpmeogffodgaaDoorW.PrintMore
attribute [local go_sem] max2_int min2_int max_two min_two max_three min_three max_four min_four run_store_fnV run_store_fnc run_store_nfn   -- for this text's walks alone
set_option linter.unusedVariables false
set_option linter.unusedSimpArgs false

-- BY HAND: function 66 (field_Exponent): Derived.Test.YtpnpmeogffodgaaDoorHGl

/-! ### sponge_in: function 54 -/
def sponge_in.f (a0 : Int) : Option (Int × Int × Bool) := (field_P.f a0).bind fun t114 => ((field_Generator.f a0).bind fun t115 => ((field_Exponent.f a0).bind fun t116 => (some (t114, t115, (t116 == 5)))))
set_option maxHeartbeats 8000000 in
set_option maxRecDepth 100000 in
theorem sponge_in.calls (a0 : Int) (r1 : Int) (r2 : Int) (r3 : Bool) (w : World) (hrG : GL w) (h : sponge_in.f a0 = some (r1, r2, r3)) :
    Calls Tryd.prog 54 #[.int .i64 a0] w fun e w' => e = .returned (.agg #[.int .u64 r1, .int .u64 r2, .bool r3]) ∧ Below w.heap.size w w' := by
  have hu78 := Tryd.underlying78
  have HRG := Aside0.mk hrG
  clear hrG
  have HB := Aside0.mk (Below.refl w.heap.size w)
  have H : ((field_P.f a0).bind fun t114 => ((field_Generator.f a0).bind fun t115 => ((field_Exponent.f a0).bind fun t116 => (some (t114, t115, (t116 == 5)))))) = some (r1, r2, r3) := h
  clear h
  replace H := Option.bind_eq_some_iff.mp H
  obtain ⟨t114, A20, H⟩ := H
  replace H : ((field_Generator.f a0).bind fun t115 => ((field_Exponent.f a0).bind fun t116 => (some (t114, t115, (t116 == 5))))) = some (r1, r2, r3) := H
  have A2 := Aside0.mk A20
  clear A20
  replace H := Option.bind_eq_some_iff.mp H
  obtain ⟨t115, A30, H⟩ := H
  replace H : ((field_Exponent.f a0).bind fun t116 => (some (t114, t115, (t116 == 5)))) = some (r1, r2, r3) := H
  have A3 := Aside0.mk A30
  clear A30
  replace H := Option.bind_eq_some_iff.mp H
  obtain ⟨t116, A40, H⟩ := H
  replace H : (some (t114, t115, (t116 == 5))) = some (r1, r2, r3) := H
  have A4 := Aside0.mk A40
  clear A40
  simp only [Option.some.injEq, Prod.mk.injEq] at H
  obtain ⟨rfl, rfl, rfl⟩ := H
  go_enter Tryd.func54, Tryd.ntmps54
  go_wp2_with (first | ((with_reducible refine gate_dst (N := 2) rfl ?_); refine box_event ?hg (N := 2) ?hd (cs := #[.int .u64 0, .int .u64 0, .bool false]) (t := 78) ?hr ?_; (case hd => rfl); (case hg => rfl); (case hr => first | (go_simp; done) | (go_simp; rfl)); intro gb113 hg w5 hbox hb; have n0_ := Aside0.mk (below_step (by repeat (first | (with_reducible first | exact HB.out | apply below_alloc | apply pw_below_drewN | apply below_drew1) | exact HB.out)) hb); have n1_ := Aside0.mk (hbox); have n2_ := Aside0.mk ((by rw [hg]; exact (below_size (by repeat (first | (with_reducible first | exact HB.out | apply below_alloc | apply pw_below_drewN | apply below_drew1) | exact HB.out))) : w.heap.size ≤ gb113)); have n3_ := Aside0.mk ((by rw [hg]; exact (below_size (by repeat (first | (with_reducible first | exact HB.out | apply below_alloc | apply pw_below_drewN | apply below_drew1) | exact HB.out))) : w.heap.size ≤ gb113)); clear HB; have HB := n0_; have BK113 := n1_; have GW113 := n2_; have GE113 := n3_; clear n0_ n1_ n2_ n3_; clear hb hbox hg) | ((with_reducible refine gate_callee (f := 58) rfl ?_); refine goesL_ (some 4) rfl rfl Tryd.func58 (by kernel_rfl) rfl #[.int .i64 a0] rfl (by (try simp only [List.map_toArray, List.map_cons, List.map_nil]); first | done | rfl | (simp only [List.length_drop, List.length_take]; rfl) | (go_simp; done) | (go_simp; rw [Int.tmod_eq_emod_of_nonneg (by omega)]; omega)) ?_; (with_reducible refine (field_P.calls a0 t114 _ ?side1 A2.out).mono ?_); (case side1 => repeat (first | exact (GL.below HRG.out HB.out) | (with_reducible refine GL.alloc ?_ _) | (with_reducible refine GL.drewN ?_ _) | (with_reducible refine GL.drew ?_))); rintro e w6 ⟨rfl, hb⟩; refine ⟨_, rfl, ?_⟩; have n0_ := Aside0.mk (blk_below (g := gb113) (o := .cells #[.int .u64 0, .int .u64 0, .bool false] 78 (0, 0)) (by (with_reducible repeat (first | refine blk_drewN ?_ _ | refine blk_drew ?_ | refine blk_alloc ?_ _)); exact BK113.out) hb); have n1_ := Aside0.mk (below_step (by repeat (first | (with_reducible first | exact HB.out | apply below_alloc | apply pw_below_drewN | apply below_drew1 | refine below_set ?_ GE113.out) | exact HB.out)) hb); clear BK113; clear HB; have BK113 := n0_; have HB := n1_; clear n0_ n1_; (try clear hb); (try clear hb2); (try clear hk); (try clear hi)) | ((with_reducible refine gate_callee (f := 65) rfl ?_); refine goesL_ (some 6) rfl rfl Tryd.func65 (by kernel_rfl) rfl #[.int .i64 a0] rfl (by (try simp only [List.map_toArray, List.map_cons, List.map_nil]); first | done | rfl | (simp only [List.length_drop, List.length_take]; rfl) | (go_simp; done) | (go_simp; rw [Int.tmod_eq_emod_of_nonneg (by omega)]; omega)) ?_; (with_reducible refine (field_Generator.calls a0 t115 _ ?side1 A3.out).mono ?_); (case side1 => repeat (first | exact (GL.below HRG.out HB.out) | (with_reducible refine GL.alloc ?_ _) | (with_reducible refine GL.drewN ?_ _) | (with_reducible refine GL.drew ?_))); rintro e w7 ⟨rfl, hb⟩; refine ⟨_, rfl, ?_⟩; have n0_ := Aside0.mk (blk_below (g := gb113) (o := .cells #[.int .u64 0, .int .u64 0, .bool false] 78 (0, 0)) (by (with_reducible repeat (first | refine blk_drewN ?_ _ | refine blk_drew ?_ | refine blk_alloc ?_ _)); exact BK113.out) hb); have n1_ := Aside0.mk (below_step (by repeat (first | (with_reducible first | exact HB.out | apply below_alloc | apply pw_below_drewN | apply below_drew1 | refine below_set ?_ GE113.out) | exact HB.out)) hb); clear BK113; clear HB; have BK113 := n0_; have HB := n1_; clear n0_ n1_; (try clear hb); (try clear hb2); (try clear hk); (try clear hi)) | ((with_reducible refine gate_callee (f := 66) rfl ?_); refine goesL_ (some 8) rfl rfl Tryd.func66 (by kernel_rfl) rfl #[.int .i64 a0] rfl (by (try simp only [List.map_toArray, List.map_cons, List.map_nil]); first | done | rfl | (simp only [List.length_drop, List.length_take]; rfl) | (go_simp; done) | (go_simp; rw [Int.tmod_eq_emod_of_nonneg (by omega)]; omega)) ?_; (with_reducible refine (field_Exponent.calls a0 t116 _ ?side1 A4.out).mono ?_); (case side1 => repeat (first | exact (GL.below HRG.out HB.out) | (with_reducible refine GL.alloc ?_ _) | (with_reducible refine GL.drewN ?_ _) | (with_reducible refine GL.drew ?_))); rintro e w8 ⟨rfl, hb⟩; refine ⟨_, rfl, ?_⟩; have n0_ := Aside0.mk (blk_below (g := gb113) (o := .cells #[.int .u64 0, .int .u64 0, .bool false] 78 (0, 0)) (by (with_reducible repeat (first | refine blk_drewN ?_ _ | refine blk_drew ?_ | refine blk_alloc ?_ _)); exact BK113.out) hb); have n1_ := Aside0.mk (below_step (by repeat (first | (with_reducible first | exact HB.out | apply below_alloc | apply pw_below_drewN | apply below_drew1 | refine below_set ?_ GE113.out) | exact HB.out)) hb); clear BK113; clear HB; have BK113 := n0_; have HB := n1_; clear n0_ n1_; (try clear hb); (try clear hb2); (try clear hk); (try clear hi); have hcz9_0 : w8.cell? ⟨gb113, 0, none⟩ = some (.int .u64 0) := (blk_cell BK113.out 0).trans rfl; have hcz9_1 : w8.cell? ⟨gb113, 1, none⟩ = some (.int .u64 0) := (blk_cell BK113.out 1).trans rfl; have hcz9_2 : w8.cell? ⟨gb113, 2, none⟩ = some (.bool false) := (blk_cell BK113.out 2).trans rfl; have hfz9_0 := blk_frozen BK113.out 0; have hfz9_1 := blk_frozen BK113.out 1; have hfz9_2 := blk_frozen BK113.out 2))
  refine bodyPost_ret (results_cell_row rfl _ _ gb113 78 #[.int .u64 t114, .int .u64 t115, .bool (t116 == 5)] (0, 0) _ rfl (by (with_reducible repeat (first | refine blk_drewN ?_ _ | refine blk_drew ?_ | refine blk_alloc ?_ _)); refine blk_put (cs := #[.int .u64 t114, .int .u64 t115, .bool false]) ?_ 2 _ rfl; (with_reducible repeat (first | refine blk_drewN ?_ _ | refine blk_drew ?_ | refine blk_alloc ?_ _)); refine blk_put (cs := #[.int .u64 t114, .int .u64 0, .bool false]) ?_ 1 _ rfl; (with_reducible repeat (first | refine blk_drewN ?_ _ | refine blk_drew ?_ | refine blk_alloc ?_ _)); refine blk_put (cs := #[.int .u64 0, .int .u64 0, .bool false]) ?_ 0 _ rfl; (with_reducible repeat (first | refine blk_drewN ?_ _ | refine blk_drew ?_ | refine blk_alloc ?_ _)); exact BK113.out) Tryd.underlying78 rfl (by kernel_rfl)) rfl ?_
  exact ⟨by first | rfl | (simp [errW_none, errW_some] <;> rfl) | (simp [*, errW_none, errW_some] <;> rfl), by repeat (first | (with_reducible first | exact HB.out | apply below_alloc | apply pw_below_drewN | apply below_drew1 | refine below_set ?_ GE113.out) | exact HB.out)⟩

end Go.Proofs.YtpnpmeogffodgaaDoor.Q
end
section
namespace Go.Proofs.YtpnpmeogffodgaaDoor.Q
open Go.RowKit Go.Proofs.YtpnpmeogffodgaaDoorW.PrintWords Go.Proofs.YtpnpmeogffodgaaDoorW.PrintLast Go.Proofs.YtpnpmeogffodgaaDoorW.PrintMore
theorem sel_cell {w : World} {g : Nat} {t : TypeId} {k : IntKind} {cs : Array Value} {l : List Int} {x : Int} (h : w.heap[g]? = some (.cells cs t (0, 0))) (e : cs = (l.map (Value.int k)).toArray) (h0 : 0 ≤ x) (h1 : x < l.length) :
    w.cell? ⟨g, x.toNat, none⟩ = some (.int k (rd l x)) := by
  rw [blk_cell h, e]
  have hx : x.toNat < l.length := by omega
  simp [rd, hx]
/-- A cell of an array behind a store at the place x: this one is cell z. -/
def updv (o : Int) (z : Nat) (x v : Int) : Int := if x = (z : Int) then v else o
def updl : List Int → Nat → Int → Int → List Int
  | [], _, _, _ => []
  | o :: l, z, x, v => updv o z x v :: updl l (z + 1) x v
theorem updl_set : ∀ (l : List Int) (z : Nat) (x v : Int), (z : Int) ≤ x → updl l z x v = l.set (x.toNat - z) v
  | [], _, _, _, _ => rfl
  | o :: l, z, x, v, h => by
    by_cases e : x = (z : Int)
    · subst e
      have : ∀ (l : List Int) (y : Nat), z < y → updl l y (z : Int) v = l := by
        intro l
        induction l with
        | nil => intro y _; rfl
        | cons a l ih =>
          intro y hy
          show updv a y z v :: updl l (y + 1) z v = a :: l
          rw [ih _ (by omega)]
          unfold updv
          rw [if_neg (by omega)]
      show updv o z z v :: updl l (z + 1) z v = _
      rw [this l (z + 1) (by omega)]
      unfold updv
      rw [if_pos rfl]
      simp
    · show updv o z x v :: updl l (z + 1) x v = _
      rw [updl_set l (z + 1) x v (by omega)]
      unfold updv
      rw [if_neg e]
      have : x.toNat - z = (x.toNat - (z + 1)) + 1 := by omega
      rw [this]
      rfl
theorem sel_at {w : World} {g : Nat} {t : TypeId} {k : IntKind} {cs : Array Value} {pre post : List Value} {l : List Int} {x : Int} {o : Nat} (h : w.heap[g]? = some (.cells cs t (0, 0))) (e : cs = (pre ++ l.map (Value.int k) ++ post).toArray) (eo : o = pre.length + x.toNat) (h0 : 0 ≤ x) (h1 : x < l.length) :
    w.cell? ⟨g, o, none⟩ = some (.int k (rd l x)) := by
  rw [blk_cell h, e, eo]
  have hx : x.toNat < l.length := by omega
  simp [rd, hx, List.getElem?_append]
theorem sel_put {w : World} {g : Nat} {t : TypeId} {k : IntKind} {cs cs' : Array Value} {pre post : List Value} {l : List Int} {x v : Int} {o : Nat} (h : w.heap[g]? = some (.cells cs t (0, 0))) (e : cs = (pre ++ l.map (Value.int k) ++ post).toArray) (e' : cs' = (pre ++ (updl l 0 x v).map (Value.int k) ++ post).toArray) (eo : o = pre.length + x.toNat) (h0 : 0 ≤ x) (h1 : x < l.length) :
    (w.setCell ⟨g, o, none⟩ (.int k v)).heap[g]? = some (.cells cs' t (0, 0)) := by
  refine blk_put h o _ ?_
  rw [e, e', eo, updl_set l 0 x v (by simpa using h0)]
  have hx : x.toNat < l.length := by omega
  rw [List.setIfInBounds_toArray, List.append_assoc, List.set_append_right _ _ (by omega), List.append_assoc, Nat.add_sub_cancel_left, List.set_append_left _ _ (by simpa using hx), Nat.sub_zero, ← List.map_set]
end Go.Proofs.YtpnpmeogffodgaaDoor.Q
end
section
namespace Go.Proofs.YtpnpmeogffodgaaDoor.Q
open Go.RowKit Go.Proofs.YtpnpmeogffodgaaDoorW.PrintWords Go.Proofs.YtpnpmeogffodgaaDoorW.PrintLast Go.Proofs.YtpnpmeogffodgaaDoorW.PrintMore
attribute [local go_sem] max2_int min2_int max_two min_two max_three min_three max_four min_four run_store_fnV run_store_fnc run_store_nfn   -- for this text's walks alone
set_option linter.unusedVariables false
set_option linter.unusedSimpArgs false

abbrev z55_0_ : Array Bool := #[false, false, false, false, false, false, false, false]
abbrev z55_1_ : Array Bool := #[true, false, false, false, false, false, false, false]
abbrev z55_2_ : Array Bool := #[true, true, false, false, false, false, false, false]
abbrev z55_3_ : Array Bool := #[true, true, false, true, false, false, false, false]
abbrev z55_4_ : Array Bool := #[true, true, true, true, false, false, false, false]
abbrev z55_5_ : Array Bool := #[true, true, true, true, true, false, false, false]
abbrev z55_6_ : Array Bool := #[true, true, true, true, true, true, false, false]
abbrev z55_7_ : Array Bool := #[true, true, true, true, true, true, true, false]
abbrev z55_8_ : Array Bool := #[true, true, true, true, true, true, true, true]
/-! ### sponge_mixer_reduced: function 55 -/
def sponge_mixer_reduced.l0 : Nat → Int → Int → Int → Bool → Int → Int → Int → Int → Option (Int × Int × Int × Int)
  | 0, _, _, _, _, _, _, _, _ => none
  | k + 1, x6, x118000, x118001, x118002, x119000, x119001, x119002, x119003 => if x6 < 4 then (if 0 ≤ x6 then (if x118000 = 0 then (none) else (sponge_mixer_reduced.l0 k (wrap64 (x6 + 1)) x118000 x118001 x118002 (updv x119000 0 x6 (Int.tmod (rd ([x119000, x119001, x119002, x119003] : List Int) x6) x118000)) (updv x119001 1 x6 (Int.tmod (rd ([x119000, x119001, x119002, x119003] : List Int) x6) x118000)) (updv x119002 2 x6 (Int.tmod (rd ([x119000, x119001, x119002, x119003] : List Int) x6) x118000)) (updv x119003 3 x6 (Int.tmod (rd ([x119000, x119001, x119002, x119003] : List Int) x6) x118000)))) else (none)) else (some (x119000, x119001, x119002, x119003))
def sponge_mixer_reduced.f (k : Nat) (a0_0 : Int) (a0_1 : Int) (a0_2 : Bool) (a1_0 : Int) (a1_1 : Int) (a1_2 : Int) (a1_3 : Int) : Option (Int × Int × Int × Int) := sponge_mixer_reduced.l0 k 0 a0_0 a0_1 a0_2 a1_0 a1_1 a1_2 a1_3
theorem sponge_mixer_reduced.mono_l : ∀ k, (∀ y0 y1 y2 y3 y4 y5 y6 y7, LeO (sponge_mixer_reduced.l0 k y0 y1 y2 y3 y4 y5 y6 y7) (sponge_mixer_reduced.l0 (k + 1) y0 y1 y2 y3 y4 y5 y6 y7))
  | 0 => fun _ _ _ _ _ _ _ _ r h => by simp [sponge_mixer_reduced.l0] at h
  | k + 1 => by
    have ih0 := sponge_mixer_reduced.mono_l k
    · intro y0 y1 y2 y3 y4 y5 y6 y7
      unfold sponge_mixer_reduced.l0
      repeat' first
      | (with_reducible exact ih0 _ _ _ _ _ _ _ _)
      | (with_reducible exact LeO.refl _)
      | (with_reducible exact LeO.none _)
      | (with_reducible refine LeO.ite ?_ ?_)
      | (with_reducible refine LeO.bind ?_ (fun _ => ?_))
      | exact ih0 _ _ _ _ _ _ _ _
      | exact LeO.none _
      | refine LeO.ite ?_ ?_
      | refine LeO.bind ?_ (fun _ => ?_)
theorem sponge_mixer_reduced.mono : ∀ a0 a1 a2 a3 a4 a5 a6 k, LeO (sponge_mixer_reduced.f k a0 a1 a2 a3 a4 a5 a6) (sponge_mixer_reduced.f (k + 1) a0 a1 a2 a3 a4 a5 a6) := by
  intro a0 a1 a2 a3 a4 a5 a6 k
  have ih0 := sponge_mixer_reduced.mono_l k
  unfold sponge_mixer_reduced.f
  repeat' first
      | (with_reducible exact ih0 _ _ _ _ _ _ _ _)
      | (with_reducible exact LeO.refl _)
      | (with_reducible exact LeO.none _)
      | (with_reducible refine LeO.ite ?_ ?_)
      | (with_reducible refine LeO.bind ?_ (fun _ => ?_))
      | exact ih0 _ _ _ _ _ _ _ _
      | exact LeO.none _
      | refine LeO.ite ?_ ?_
      | refine LeO.bind ?_ (fun _ => ?_)
def sponge_mixer_reduced.T4 : Bool × List (List Nat × List Nat) := (true, [([], []), ([0], [0]), ([1], [1]), ([], []), ([3], [3]), ([2, 4], [2, 4]), ([0, 0, 1, 2, 3, 4, 5], [0]), ([6, 5, 0, 1, 2, 3, 4, 5], [5, 6])])
def sponge_mixer_reduced.B4 : List Nat := [0, 1, 3, 0, 8, 31, 63, 127]
theorem sponge_mixer_reduced.tab4 : rtab .any (opsOf Tryd.f55 4) = sponge_mixer_reduced.T4 := by kernel_rfl
theorem sponge_mixer_reduced.bits4 : waitsOk sponge_mixer_reduced.T4.2 sponge_mixer_reduced.B4 = true := by kernel_rfl
set_option maxHeartbeats 8000000 in
set_option maxRecDepth 100000 in
theorem sponge_mixer_reduced.calls (k : Nat) (a0_0 : Int) (a0_1 : Int) (a0_2 : Bool) (a1_0 : Int) (a1_1 : Int) (a1_2 : Int) (a1_3 : Int) (r1 : Int) (r2 : Int) (r3 : Int) (r4 : Int) (w : World) (h : sponge_mixer_reduced.f k a0_0 a0_1 a0_2 a1_0 a1_1 a1_2 a1_3 = some (r1, r2, r3, r4)) :
  Calls Tryd.prog 55 #[.agg #[.int .u64 a0_0, .int .u64 a0_1, .bool a0_2], .agg #[.int .u64 a1_0, .int .u64 a1_1, .int .u64 a1_2, .int .u64 a1_3]] w fun e w' => e = .returned (.agg #[.int .u64 r1, .int .u64 r2, .int .u64 r3, .int .u64 r4]) ∧ Below w.heap.size w w' := by
 have hu78 := Tryd.underlying78
 have hu80 := Tryd.underlying80
 have HB := Aside0.mk (Below.refl w.heap.size w)
 have H : (sponge_mixer_reduced.l0 k 0 a0_0 a0_1 a0_2 a1_0 a1_1 a1_2 a1_3) = some (r1, r2, r3, r4) := h
 clear h
 have H' := Aside0.mk H
 clear H
 go_enter Tryd.func55, Tryd.ntmps55
 go_wp2_with (first | ((with_reducible refine gate_dst (N := 2) rfl ?_); refine box_event ?hg (N := 2) ?hd (cs := #[.int .u64 a0_0, .int .u64 a0_1, .bool a0_2]) (t := 78) ?hr ?_; (case hd => rfl); (case hg => rfl); (case hr => first | (go_simp; done) | (go_simp; rfl)); intro g117 hg w3 hbox hb; have n0_ := Aside0.mk (below_step (by repeat (first | (with_reducible first | exact HB.out | apply below_alloc | apply pw_below_drewN | apply below_drew1) | exact HB.out)) hb); have n1_ := Aside0.mk (hbox); have n2_ := Aside0.mk ((by rw [hg]; exact (below_size (by repeat (first | (with_reducible first | exact HB.out | apply below_alloc | apply pw_below_drewN | apply below_drew1) | exact HB.out))) : w.heap.size ≤ g117)); have n3_ := Aside0.mk ((by rw [hg]; exact (below_size (by repeat (first | (with_reducible first | exact HB.out | apply below_alloc | apply pw_below_drewN | apply below_drew1) | exact HB.out))) : w.heap.size ≤ g117)); clear HB; have HB := n0_; have B117 := n1_; have GW117 := n2_; have GE117 := n3_; clear n0_ n1_ n2_ n3_; clear hb hbox hg) | ((with_reducible refine gate_dst (N := 3) rfl ?_); refine box_event ?hg (N := 3) ?hd (cs := #[.int .u64 a1_0, .int .u64 a1_1, .int .u64 a1_2, .int .u64 a1_3]) (t := 80) ?hr ?_; (case hd => rfl); (case hg => rfl); (case hr => first | (go_simp; done) | (go_simp; rfl)); intro g118 hg w4 hbox hb; have n0_ := Aside0.mk (blk_below (g := g117) (o := .cells #[.int .u64 a0_0, .int .u64 a0_1, .bool a0_2] 78 (0, 0)) (by exact B117.out) hb); have n1_ := Aside0.mk (below_step (by repeat (first | (with_reducible first | exact HB.out | apply below_alloc | apply pw_below_drewN | apply below_drew1 | refine below_set ?_ GE117.out) | exact HB.out)) hb); have n2_ := Aside0.mk (hbox); have n3_ := Aside0.mk ((by rw [hg]; exact (below_size (by repeat (first | (with_reducible first | exact HB.out | apply below_alloc | apply pw_below_drewN | apply below_drew1 | refine below_set ?_ GE117.out) | exact HB.out))) : w.heap.size ≤ g118)); have n4_ := Aside0.mk ((by rw [hg]; exact (below_size (by repeat (first | (with_reducible first | exact HB.out | apply below_alloc | apply pw_below_drewN | apply below_drew1 | refine below_set ?_ GE117.out) | exact HB.out))) : w.heap.size ≤ g118)); have n5_ := Aside0.mk ((by rw [hg]; exact Nat.ne_of_lt (blk_lt (g := g117) (o := .cells #[.int .u64 a0_0, .int .u64 a0_1, .bool a0_2] 78 (0, 0)) (by exact B117.out)) : g117 ≠ g118)); have n6_ := Aside0.mk ((by rw [hg]; exact Nat.ne_of_gt (blk_lt (g := g117) (o := .cells #[.int .u64 a0_0, .int .u64 a0_1, .bool a0_2] 78 (0, 0)) (by exact B117.out)) : g118 ≠ g117)); clear B117; clear HB; have B117 := n0_; have HB := n1_; have B118 := n2_; have GW118 := n3_; have GE118 := n4_; have NB117_118 := n5_; have NB118_117 := n6_; clear n0_ n1_ n2_ n3_ n4_ n5_ n6_; clear hb hbox hg) | ((with_reducible refine gate_dst (N := 4) rfl ?_); refine box_event ?hg (N := 4) ?hd (cs := #[.int .u64 0, .int .u64 0, .int .u64 0, .int .u64 0]) (t := 80) ?hr ?_; (case hd => rfl); (case hg => rfl); (case hr => first | (go_simp; done) | (go_simp; rfl)); intro g119 hg w5 hbox hb; have n0_ := Aside0.mk (blk_below (g := g117) (o := .cells #[.int .u64 a0_0, .int .u64 a0_1, .bool a0_2] 78 (0, 0)) (by exact B117.out) hb); have n1_ := Aside0.mk (blk_below (g := g118) (o := .cells #[.int .u64 a1_0, .int .u64 a1_1, .int .u64 a1_2, .int .u64 a1_3] 80 (0, 0)) (by exact B118.out) hb); have n2_ := Aside0.mk (below_step (by repeat (first | (with_reducible first | exact HB.out | apply below_alloc | apply pw_below_drewN | apply below_drew1 | refine below_set ?_ GE117.out | refine below_set ?_ GE118.out) | exact HB.out)) hb); have n3_ := Aside0.mk (hbox); have n4_ := Aside0.mk ((by rw [hg]; exact (below_size (by repeat (first | (with_reducible first | exact HB.out | apply below_alloc | apply pw_below_drewN | apply below_drew1 | refine below_set ?_ GE117.out | refine below_set ?_ GE118.out) | exact HB.out))) : w.heap.size ≤ g119)); have n5_ := Aside0.mk ((by rw [hg]; exact (below_size (by repeat (first | (with_reducible first | exact HB.out | apply below_alloc | apply pw_below_drewN | apply below_drew1 | refine below_set ?_ GE117.out | refine below_set ?_ GE118.out) | exact HB.out))) : w.heap.size ≤ g119)); have n6_ := Aside0.mk ((by rw [hg]; exact Nat.ne_of_lt (blk_lt (g := g117) (o := .cells #[.int .u64 a0_0, .int .u64 a0_1, .bool a0_2] 78 (0, 0)) (by exact B117.out)) : g117 ≠ g119)); have n7_ := Aside0.mk ((by rw [hg]; exact Nat.ne_of_gt (blk_lt (g := g117) (o := .cells #[.int .u64 a0_0, .int .u64 a0_1, .bool a0_2] 78 (0, 0)) (by exact B117.out)) : g119 ≠ g117)); have n8_ := Aside0.mk ((by rw [hg]; exact Nat.ne_of_lt (blk_lt (g := g118) (o := .cells #[.int .u64 a1_0, .int .u64 a1_1, .int .u64 a1_2, .int .u64 a1_3] 80 (0, 0)) (by exact B118.out)) : g118 ≠ g119)); have n9_ := Aside0.mk ((by rw [hg]; exact Nat.ne_of_gt (blk_lt (g := g118) (o := .cells #[.int .u64 a1_0, .int .u64 a1_1, .int .u64 a1_2, .int .u64 a1_3] 80 (0, 0)) (by exact B118.out)) : g119 ≠ g118)); clear B117; clear B118; clear HB; have B117 := n0_; have B118 := n1_; have HB := n2_; have B119 := n3_; have GW119 := n4_; have GE119 := n5_; have NB117_119 := n6_; have NB119_117 := n7_; have NB118_119 := n8_; have NB119_118 := n9_; clear n0_ n1_ n2_ n3_ n4_ n5_ n6_ n7_ n8_ n9_; clear hb hbox hg))
 go_loopg [6] k (fun kq v6 w' => ∃ (x6_1 : Int) (x119000_1 : Int) (x119001_1 : Int) (x119002_1 : Int) (x119003_1 : Int), v6 = .int .i64 x6_1 ∧ Aside0 (sponge_mixer_reduced.l0 kq x6_1 a0_0 a0_1 a0_2 x119000_1 x119001_1 x119002_1 x119003_1 = some (r1, r2, r3, r4)) ∧ Aside0 (kq ≤ k) ∧ Aside0 (w'.heap[g117]? = some (.cells #[.int .u64 a0_0, .int .u64 a0_1, .bool a0_2] 78 (0, 0))) ∧ Aside0 (w'.heap[g118]? = some (.cells #[.int .u64 x119000_1, .int .u64 x119001_1, .int .u64 x119002_1, .int .u64 x119003_1] 80 (0, 0))) ∧ Aside0 (w'.heap[g119]? = some (.cells #[.int .u64 0, .int .u64 0, .int .u64 0, .int .u64 0] 80 (0, 0))) ∧ Aside0 (Below w.heap.size w w'))
 case atStart => exact ⟨(0), (a1_0), (a1_1), (a1_2), (a1_3), (by first | rfl | (simp; done) | (simp [*]; done) | (simp; rfl) | (simp; decide +kernel)), H', ⟨Nat.le_refl _⟩, ⟨by exact B117.out⟩, ⟨by exact B118.out⟩, ⟨by exact B119.out⟩, ⟨by repeat (first | (with_reducible first | exact HB.out | apply below_alloc | apply pw_below_drewN | apply below_drew1 | refine below_set ?_ GE117.out | refine below_set ?_ GE118.out | refine below_set ?_ GE119.out) | exact HB.out)⟩⟩
 case round =>
  clear H'
  try clear p2
  try clear c5
  obtain ⟨x6_1, x119000_1, x119001_1, x119002_1, x119003_1, rfl, HA, HK1, B117, B118, B119, HB⟩ := hrel
  cases gk with
  | zero => exact absurd HA.out (by simp [sponge_mixer_reduced.l0])
  | succ k1 =>
   have H := HA.out
   clear HA
   simp only [sponge_mixer_reduced.l0] at H
   by_cases c6 : x6_1 < 4
   ·rw [if_pos c6] at H
    have c6b0 : decide (x6_1 < 4) = true := decide_eq_true c6
    clear c6
    by_cases c7 : 0 ≤ x6_1
    ·rw [if_pos c7] at H
     have c7b0 := eq_true c7
     have c7b1 : decide (0 ≤ x6_1) = true := decide_eq_true c7
     clear c7
     by_cases c8 : a0_0 = 0
     ·rw [if_pos c8] at H
      exact absurd H (by simp)
     ·rw [if_neg c8] at H
      have c8b0 : (a0_0 == 0) = false := beq_eq_false_iff_ne.mpr c8
      have c8b1 : (a0_0 != 0) = true := bne_iff_ne.mpr c8
      have H' := Aside0.mk H
      clear H
      try go_wp2
      have n0_ := Aside0.mk (blk_drew B117.out)
      have n1_ := Aside0.mk (blk_drew B118.out)
      have n2_ := Aside0.mk (blk_drew B119.out)
      have n3_ := Aside0.mk (below_drew1 HB.out)
      clear B117
      clear B118
      clear B119
      clear HB
      have B117 := n0_
      have B118 := n1_
      have B119 := n2_
      have HB := n3_
      clear n0_ n1_ n2_ n3_
      have hlt10 : (x6_1 < 4) = True := eq_true (of_decide_eq_true (by first | (with_reducible assumption) | assumption))
      have hge11 : (0 ≤ x6_1) = True := eq_true (of_decide_eq_true (by first | (with_reducible assumption) | assumption))
      have hlt14 : (x6_1 < 4) = True := eq_true (of_decide_eq_true (by first | (with_reducible assumption) | assumption))
      have hge15 : (0 ≤ x6_1) = True := eq_true (of_decide_eq_true (by first | (with_reducible assumption) | assumption))
      refine start_ (n := 8) (S := fun w' => w'.cell? ⟨g117, 0, none⟩ = some (.int .u64 a0_0) ∧ w'.cell? ⟨g117, 1, none⟩ = some (.int .u64 a0_1) ∧ w'.cell? ⟨g117, 2, none⟩ = some (.bool a0_2) ∧ w'.cell? ⟨g118, (x6_1).toNat, none⟩ = some (.int .u64 (rd ([x119000_1, x119001_1, x119002_1, x119003_1] : List Int) x6_1))) (ds := [7]) z55_0_ (by kernel_rfl) rfl rfl ⟨bq_ B117 0, bq_ B117 1, bq_ B117 2, (sel_at (pre := []) (l := ([x119000_1, x119001_1, x119002_1, x119003_1] : List Int)) (post := []) B118.out rfl (by simp) (of_decide_eq_true (by first | (with_reducible assumption) | assumption)) (of_decide_eq_true (by first | (with_reducible assumption) | assumption)))⟩ (fun hL => ?_); refine with_tabW sponge_mixer_reduced.tab4 sponge_mixer_reduced.bits4 (fun T_ W_ => ?_)
      generalize wr.drew = w9 at B117 B118 B119 HB hL ⊢
      refine pure_ (i := 0) (N := some 9) (v := ?_) (a' := ?_) z55_1_ rfl rfl (an_ T_) (fun _ _ _ h => h) (Or.inl ⟨by rfl, ?_⟩) ?_ ?_
      rotate_left; · intro w'; go_simp; with_reducible rfl
      rotate_left; · simp only [Act.put, sa_, sb_, sc_, i64_w, i32_w]; rfl
      refine pure_ (i := 1) (N := some 10) (v := ?_) (a' := ?_) z55_2_ rfl rfl (an_ T_) (fun _ _ _ h => h) (Or.inl ⟨by rfl, ?_⟩) ?_ ?_
      rotate_left; · intro w'; go_simp; with_reducible rfl
      rotate_left; · simp only [Act.put, sa_, sb_, sc_, i64_w, i32_w]; rfl
      refine pure_ (i := 3) (N := some 12) (v := ?_) (a' := ?_) z55_3_ rfl rfl (an_ T_) (fun _ _ _ h => h) (Or.inl ⟨by rfl, ?_⟩) ?_ ?_
      rotate_left; · intro w'; go_simp; with_reducible rfl
      rotate_left; · simp only [Act.put, sa_, sb_, sc_, i64_w, i32_w]; rfl
      refine take_ (i := 2) (N := some 11) (v := ?_) (a' := ?_) z55_4_ rfl rfl (tk_ T_ W_) (fun _ _ _ h => h) (Or.inl ⟨by rfl, ?_⟩) hL ?_ ?_
      rotate_left
      ·rintro w' ⟨s0, s1, s2, s3⟩
       go_simp
       with_reducible rfl
      rotate_left
      ·simp only [Act.put, sa_, sb_, sc_, i64_w, i32_w]
       rfl
      refine take_ (i := 4) (N := some 13) (v := ?_) (a' := ?_) z55_5_ rfl rfl (tk_ T_ W_) (fun _ _ _ h => h) (Or.inl ⟨by rfl, ?_⟩) hL ?_ ?_
      rotate_left
      ·rintro w' ⟨s0, s1, s2, s3⟩
       go_simp
       with_reducible rfl
      rotate_left
      ·simp only [Act.put, sa_, sb_, sc_, i64_w, i32_w]
       rfl
      refine pure_ (i := 5) (N := some 14) (v := ?_) (a' := ?_) z55_6_ rfl rfl (an_ T_) (fun _ _ _ h => h) (Or.inl ⟨by rfl, ?_⟩) ?_ ?_
      rotate_left; · intro w'; go_simp; with_reducible rfl
      rotate_left; · simp only [Act.put, sa_, sb_, sc_, i64_w, i32_w]; rfl
      refine pure_ (i := 6) (N := some 15) (v := ?_) (a' := ?_) z55_7_ rfl rfl (an_ T_) (fun _ _ _ h => h) (Or.inl ⟨by rfl, ?_⟩) ?_ ?_
      rotate_left; · intro w'; go_simp; with_reducible rfl
      rotate_left; · simp only [Act.put, sa_, sb_, sc_, i64_w, i32_w]; rfl
      refine last_ (i := 7) (N := none) z55_8_ rfl rfl (on_ T_) (by decide) (fun K hK => ?_)
      have hsv12 : w9.cell? ⟨g118, (x6_1).toNat, none⟩ = some (.int .u64 (rd ([x119000_1, x119001_1, x119002_1, x119003_1] : List Int) x6_1)) := (sel_at (pre := []) (l := ([x119000_1, x119001_1, x119002_1, x119003_1] : List Int)) (post := []) B118.out rfl (by simp) (of_decide_eq_true (by first | (with_reducible assumption) | assumption)) (of_decide_eq_true (by first | (with_reducible assumption) | assumption)))
      have hfv13 := blk_frozen B118.out ((x6_1).toNat)
      have hns16_0 := NB117_118.out
      have hns16_2 := NB119_118.out
      have hms16_0 := NB118_117.out
      have hms16_2 := NB118_119.out
      refine skip_ (w1 := ?_) (by rfl) rfl ?_ ?_
      rotate_left
      ·go_simp
       rfl
      refine hK.out _ _ ?_
      clear hK K
      refine done_ (done_of T_.out (by kernel_rfl)) ?_
      try go_wp2
      go_roundg k1
      case measure => have := HK1.out; omega
      case rel => exact ⟨(wrap64 (x6_1 + 1)), ((updv x119000_1 0 x6_1 (Int.tmod (rd ([x119000_1, x119001_1, x119002_1, x119003_1] : List Int) x6_1) a0_0))), ((updv x119001_1 1 x6_1 (Int.tmod (rd ([x119000_1, x119001_1, x119002_1, x119003_1] : List Int) x6_1) a0_0))), ((updv x119002_1 2 x6_1 (Int.tmod (rd ([x119000_1, x119001_1, x119002_1, x119003_1] : List Int) x6_1) a0_0))), ((updv x119003_1 3 x6_1 (Int.tmod (rd ([x119000_1, x119001_1, x119002_1, x119003_1] : List Int) x6_1) a0_0))), (by first | rfl | (simp; done) | (simp [*]; done) | (simp; rfl) | (simp; decide +kernel)), H', ⟨by have := HK1.out; omega⟩, ⟨by refine blk_far ?_ NB117_118.out _; exact B117.out⟩, ⟨by refine sel_put (pre := []) (l := ([x119000_1, x119001_1, x119002_1, x119003_1] : List Int)) (post := []) ?_ rfl rfl (by simp) (of_decide_eq_true (by first | (with_reducible assumption) | assumption)) (of_decide_eq_true (by first | (with_reducible assumption) | assumption)); exact B118.out⟩, ⟨by refine blk_far ?_ NB119_118.out _; exact B119.out⟩, ⟨by repeat (first | (with_reducible first | exact HB.out | apply below_alloc | apply pw_below_drewN | apply below_drew1 | refine below_set ?_ GE117.out | refine below_set ?_ GE118.out | refine below_set ?_ GE119.out) | exact HB.out)⟩⟩
    ·rw [if_neg c7] at H
     exact absurd H (by simp)
   ·rw [if_neg c6] at H
    have c6b0 : decide (x6_1 < 4) = false := decide_eq_false c6
    clear c6
    simp only [Option.some.injEq, Prod.mk.injEq] at H
    obtain ⟨rfl, rfl, rfl, rfl⟩ := H
    have hnb17 := NB118_117.out
    have hnc17 := NB117_118.out
    have hnb18 := NB118_119.out
    have hnc18 := NB119_118.out
    have hcz19_0 : wr.cell? ⟨g118, 0, none⟩ = some (.int .u64 x119000_1) := bq_ B118 0
    have hcz19_1 : wr.cell? ⟨g118, 1, none⟩ = some (.int .u64 x119001_1) := bq_ B118 1
    have hcz19_2 : wr.cell? ⟨g118, 2, none⟩ = some (.int .u64 x119002_1) := bq_ B118 2
    have hcz19_3 : wr.cell? ⟨g118, 3, none⟩ = some (.int .u64 x119003_1) := bq_ B118 3
    have hfz19_0 := blk_frozen B118.out 0
    have hfz19_1 := blk_frozen B118.out 1
    have hfz19_2 := blk_frozen B118.out 2
    have hfz19_3 := blk_frozen B118.out 3
    have hnb20 := NB119_117.out
    have hnc20 := NB117_119.out
    have hcz21_0 : wr.cell? ⟨g119, 0, none⟩ = some (.int .u64 0) := bq_ B119 0
    have hcz21_1 : wr.cell? ⟨g119, 1, none⟩ = some (.int .u64 0) := bq_ B119 1
    have hcz21_2 : wr.cell? ⟨g119, 2, none⟩ = some (.int .u64 0) := bq_ B119 2
    have hcz21_3 : wr.cell? ⟨g119, 3, none⟩ = some (.int .u64 0) := bq_ B119 3
    have hfz21_0 := blk_frozen B119.out 0
    have hfz21_1 := blk_frozen B119.out 1
    have hfz21_2 := blk_frozen B119.out 2
    have hfz21_3 := blk_frozen B119.out 3
    go_wp2
    refine bodyPost_ret (results_cell_row rfl _ _ g119 80 #[.int .u64 x119000_1, .int .u64 x119001_1, .int .u64 x119002_1, .int .u64 x119003_1] (0, 0) _ rfl (by refine blk_put (cs := #[.int .u64 x119000_1, .int .u64 x119001_1, .int .u64 x119002_1, .int .u64 0]) ?_ 3 _ rfl; refine blk_put (cs := #[.int .u64 x119000_1, .int .u64 x119001_1, .int .u64 0, .int .u64 0]) ?_ 2 _ rfl; refine blk_put (cs := #[.int .u64 x119000_1, .int .u64 0, .int .u64 0, .int .u64 0]) ?_ 1 _ rfl; refine blk_put (cs := #[.int .u64 0, .int .u64 0, .int .u64 0, .int .u64 0]) ?_ 0 _ rfl; exact B119.out) Tryd.underlying80 rfl (by kernel_rfl)) rfl ?_
    exact ⟨by first | rfl | (simp [errW_none, errW_some] <;> rfl) | (simp [*, errW_none, errW_some] <;> rfl), by repeat (first | (with_reducible first | exact HB.out | apply below_alloc | apply pw_below_drewN | apply below_drew1 | refine below_set ?_ GE117.out | refine below_set ?_ GE118.out | refine below_set ?_ GE119.out) | exact HB.out)⟩

end Go.Proofs.YtpnpmeogffodgaaDoor.Q
end
section
namespace Go.Proofs.YtpnpmeogffodgaaDoor.Q
open Go.RowKit Go.Proofs.YtpnpmeogffodgaaDoorW.PrintWords Go.Proofs.YtpnpmeogffodgaaDoorW.PrintLast Go.Proofs.YtpnpmeogffodgaaDoorW.PrintMore
attribute [local go_sem] max2_int min2_int max_two min_two max_three min_three max_four min_four run_store_fnV run_store_fnc run_store_nfn   -- for this text's walks alone
set_option linter.unusedVariables false
set_option linter.unusedSimpArgs false

/-! ### sponge_mixer_power: function 73 -/
def sponge_mixer_power.f (a0_0 : Int) (a0_1 : Int) (a0_2 : Bool) (a1 : Int) : Option (Int) := if a0_0 = 0 then (none) else (if a0_2 = true then (some (Int.tmod (IntKind.u64.wrap ((Int.tmod (IntKind.u64.wrap ((Int.tmod (IntKind.u64.wrap (a1 * a1)) a0_0) * (Int.tmod (IntKind.u64.wrap (a1 * a1)) a0_0))) a0_0) * a1)) a0_0)) else (some (Int.tmod (IntKind.u64.wrap ((Int.tmod (IntKind.u64.wrap (a1 * a1)) a0_0) * a1)) a0_0)))
set_option maxHeartbeats 8000000 in
set_option maxRecDepth 100000 in
theorem sponge_mixer_power.calls (a0_0 : Int) (a0_1 : Int) (a0_2 : Bool) (a1 : Int) (r : Int) (w : World) (h : sponge_mixer_power.f a0_0 a0_1 a0_2 a1 = some r) :
    Calls Tryd.prog 73 #[.agg #[.int .u64 a0_0, .int .u64 a0_1, .bool a0_2], .int .u64 a1] w fun e w' => e = .returned (.int .u64 r) ∧ Below w.heap.size w w' := by
  have hu78 := Tryd.underlying78
  have HB := Aside0.mk (Below.refl w.heap.size w)
  have H : (if a0_0 = 0 then (none) else (if a0_2 = true then (some (Int.tmod (IntKind.u64.wrap ((Int.tmod (IntKind.u64.wrap ((Int.tmod (IntKind.u64.wrap (a1 * a1)) a0_0) * (Int.tmod (IntKind.u64.wrap (a1 * a1)) a0_0))) a0_0) * a1)) a0_0)) else (some (Int.tmod (IntKind.u64.wrap ((Int.tmod (IntKind.u64.wrap (a1 * a1)) a0_0) * a1)) a0_0)))) = some r := h
  clear h
  by_cases c3 : a0_0 = 0
  · rw [if_pos c3] at H
    exact absurd H (by simp)
  · rw [if_neg c3] at H
    have c3b0 : (a0_0 == 0) = false := beq_eq_false_iff_ne.mpr c3
    have c3b1 : (a0_0 != 0) = true := bne_iff_ne.mpr c3
    by_cases c4 : a0_2 = true
    · subst c4
      have H1 : (some (Int.tmod (IntKind.u64.wrap ((Int.tmod (IntKind.u64.wrap ((Int.tmod (IntKind.u64.wrap (a1 * a1)) a0_0) * (Int.tmod (IntKind.u64.wrap (a1 * a1)) a0_0))) a0_0) * a1)) a0_0)) = some r := by rw [if_pos rfl] at H; exact H
      clear H
      have H := H1
      clear H1
      obtain rfl := Option.some.inj H
      go_enter Tryd.func73, Tryd.ntmps73
      go_wp2_with (first | ((with_reducible refine gate_dst (N := 2) rfl ?_); refine box_event ?hg (N := 2) ?hd (cs := #[.int .u64 a0_0, .int .u64 a0_1, .bool true]) (t := 78) ?hr ?_; (case hd => rfl); (case hg => rfl); (case hr => first | (go_simp; done) | (go_simp; rfl)); intro gb120 hg w5 hbox hb; have n0_ := Aside0.mk (below_step (by repeat (first | (with_reducible first | exact HB.out | apply below_alloc | apply pw_below_drewN | apply below_drew1) | exact HB.out)) hb); have n1_ := Aside0.mk (hbox); have n2_ := Aside0.mk ((by rw [hg]; exact (below_size (by repeat (first | (with_reducible first | exact HB.out | apply below_alloc | apply pw_below_drewN | apply below_drew1) | exact HB.out))) : w.heap.size ≤ gb120)); have n3_ := Aside0.mk ((by rw [hg]; exact (below_size (by repeat (first | (with_reducible first | exact HB.out | apply below_alloc | apply pw_below_drewN | apply below_drew1) | exact HB.out))) : w.heap.size ≤ gb120)); clear HB; have HB := n0_; have BK120 := n1_; have GW120 := n2_; have GE120 := n3_; clear n0_ n1_ n2_ n3_; clear hb hbox hg; have hcz6_0 : w5.cell? ⟨gb120, 0, none⟩ = some (.int .u64 a0_0) := (blk_cell BK120.out 0).trans rfl; have hcz6_1 : w5.cell? ⟨gb120, 1, none⟩ = some (.int .u64 a0_1) := (blk_cell BK120.out 1).trans rfl; have hcz6_2 : w5.cell? ⟨gb120, 2, none⟩ = some (.bool true) := (blk_cell BK120.out 2).trans rfl; have hfz6_0 := blk_frozen BK120.out 0; have hfz6_1 := blk_frozen BK120.out 1; have hfz6_2 := blk_frozen BK120.out 2))
      go_ret
      exact ⟨by first | rfl | (simp [errW_none, errW_some] <;> rfl) | (simp [*, errW_none, errW_some] <;> rfl), by repeat (first | (with_reducible first | exact HB.out | apply below_alloc | apply pw_below_drewN | apply below_drew1 | refine below_set ?_ GE120.out) | exact HB.out)⟩
    · replace c4 := Bool.eq_false_iff.mpr c4
      subst c4
      have H1 : (some (Int.tmod (IntKind.u64.wrap ((Int.tmod (IntKind.u64.wrap (a1 * a1)) a0_0) * a1)) a0_0)) = some r := by rw [if_neg (show ¬ (false = true) by decide)] at H; exact H
      clear H
      have H := H1
      clear H1
      obtain rfl := Option.some.inj H
      go_enter Tryd.func73, Tryd.ntmps73
      go_wp2_with (first | ((with_reducible refine gate_dst (N := 2) rfl ?_); refine box_event ?hg (N := 2) ?hd (cs := #[.int .u64 a0_0, .int .u64 a0_1, .bool false]) (t := 78) ?hr ?_; (case hd => rfl); (case hg => rfl); (case hr => first | (go_simp; done) | (go_simp; rfl)); intro gb120 hg w7 hbox hb; have n0_ := Aside0.mk (below_step (by repeat (first | (with_reducible first | exact HB.out | apply below_alloc | apply pw_below_drewN | apply below_drew1) | exact HB.out)) hb); have n1_ := Aside0.mk (hbox); have n2_ := Aside0.mk ((by rw [hg]; exact (below_size (by repeat (first | (with_reducible first | exact HB.out | apply below_alloc | apply pw_below_drewN | apply below_drew1) | exact HB.out))) : w.heap.size ≤ gb120)); have n3_ := Aside0.mk ((by rw [hg]; exact (below_size (by repeat (first | (with_reducible first | exact HB.out | apply below_alloc | apply pw_below_drewN | apply below_drew1) | exact HB.out))) : w.heap.size ≤ gb120)); clear HB; have HB := n0_; have BK120 := n1_; have GW120 := n2_; have GE120 := n3_; clear n0_ n1_ n2_ n3_; clear hb hbox hg; have hcz8_0 : w7.cell? ⟨gb120, 0, none⟩ = some (.int .u64 a0_0) := (blk_cell BK120.out 0).trans rfl; have hcz8_1 : w7.cell? ⟨gb120, 1, none⟩ = some (.int .u64 a0_1) := (blk_cell BK120.out 1).trans rfl; have hcz8_2 : w7.cell? ⟨gb120, 2, none⟩ = some (.bool false) := (blk_cell BK120.out 2).trans rfl; have hfz8_0 := blk_frozen BK120.out 0; have hfz8_1 := blk_frozen BK120.out 1; have hfz8_2 := blk_frozen BK120.out 2))
      go_ret
      exact ⟨by first | rfl | (simp [errW_none, errW_some] <;> rfl) | (simp [*, errW_none, errW_some] <;> rfl), by repeat (first | (with_reducible first | exact HB.out | apply below_alloc | apply pw_below_drewN | apply below_drew1 | refine below_set ?_ GE120.out) | exact HB.out)⟩

end Go.Proofs.YtpnpmeogffodgaaDoor.Q
end
section
namespace Go.Proofs.YtpnpmeogffodgaaDoor.Q
open Go.RowKit Go.Proofs.YtpnpmeogffodgaaDoorW.PrintWords Go.Proofs.YtpnpmeogffodgaaDoorW.PrintLast Go.Proofs.YtpnpmeogffodgaaDoorW.PrintMore
attribute [local go_sem] max2_int min2_int max_two min_two max_three min_three max_four min_four run_store_fnV run_store_fnc run_store_nfn   -- for this text's walks alone
set_option linter.unusedVariables false
set_option linter.unusedSimpArgs false

abbrev z67_0_ : Array Bool := #[false, false, false, false, false, false, false, false, false, false, false, false, false, false]
abbrev z67_1_ : Array Bool := #[true, false, false, false, false, false, false, false, false, false, false, false, false, false]
abbrev z67_2_ : Array Bool := #[true, false, true, false, false, false, false, false, false, false, false, false, false, false]
abbrev z67_3_ : Array Bool := #[true, false, true, true, false, false, false, false, false, false, false, false, false, false]
abbrev z67_4_ : Array Bool := #[true, false, true, true, false, true, false, false, false, false, false, false, false, false]
abbrev z67_5_ : Array Bool := #[true, false, true, true, false, true, false, false, true, false, false, false, false, false]
abbrev z67_6_ : Array Bool := #[true, true, true, true, false, true, false, false, true, false, false, false, false, false]
abbrev z67_7_ : Array Bool := #[true, true, true, true, true, true, false, false, true, false, false, false, false, false]
abbrev z67_8_ : Array Bool := #[true, true, true, true, true, true, true, false, true, false, false, false, false, false]
abbrev z67_9_ : Array Bool := #[true, true, true, true, true, true, true, true, true, false, false, false, false, false]
abbrev z67_10_ : Array Bool := #[true, true, true, true, true, true, true, true, true, true, false, false, false, false]
abbrev z67_11_ : Array Bool := #[true, true, true, true, true, true, true, true, true, true, true, false, false, false]
abbrev z67_12_ : Array Bool := #[true, true, true, true, true, true, true, true, true, true, true, true, false, false]
abbrev z67_13_ : Array Bool := #[true, true, true, true, true, true, true, true, true, true, true, true, true, false]
abbrev z67_14_ : Array Bool := #[true, true, true, true, true, true, true, true, true, true, true, true, true, true]
abbrev z67_15_ : Array Bool := #[false, false, false, false, false, false, false, false, false, false, false, false, false, false, false, false, false, false, false, false, false, false, false, false, false, false, false, false, false, false, false, false, false, false, false, false, false, false, false, false, false, false, false, false, false, false, false, false]
abbrev z67_16_ : Array Bool := #[true, false, false, false, false, false, false, false, false, false, false, false, false, false, false, false, false, false, false, false, false, false, false, false, false, false, false, false, false, false, false, false, false, false, false, false, false, false, false, false, false, false, false, false, false, false, false, false]
abbrev z67_17_ : Array Bool := #[true, true, false, false, false, false, false, false, false, false, false, false, false, false, false, false, false, false, false, false, false, false, false, false, false, false, false, false, false, false, false, false, false, false, false, false, false, false, false, false, false, false, false, false, false, false, false, false]
abbrev z67_18_ : Array Bool := #[true, true, true, false, false, false, false, false, false, false, false, false, false, false, false, false, false, false, false, false, false, false, false, false, false, false, false, false, false, false, false, false, false, false, false, false, false, false, false, false, false, false, false, false, false, false, false, false]
abbrev z67_19_ : Array Bool := #[true, true, true, false, false, true, false, false, false, false, false, false, false, false, false, false, false, false, false, false, false, false, false, false, false, false, false, false, false, false, false, false, false, false, false, false, false, false, false, false, false, false, false, false, false, false, false, false]
abbrev z67_20_ : Array Bool := #[true, true, true, false, false, true, false, false, false, true, false, false, false, false, false, false, false, false, false, false, false, false, false, false, false, false, false, false, false, false, false, false, false, false, false, false, false, false, false, false, false, false, false, false, false, false, false, false]
abbrev z67_21_ : Array Bool := #[true, true, true, false, false, true, false, false, false, true, false, false, true, false, false, false, false, false, false, false, false, false, false, false, false, false, false, false, false, false, false, false, false, false, false, false, false, false, false, false, false, false, false, false, false, false, false, false]
abbrev z67_22_ : Array Bool := #[true, true, true, false, false, true, false, false, false, true, false, false, true, true, false, false, false, false, false, false, false, false, false, false, false, false, false, false, false, false, false, false, false, false, false, false, false, false, false, false, false, false, false, false, false, false, false, false]
abbrev z67_23_ : Array Bool := #[true, true, true, false, false, true, false, false, false, true, false, false, true, true, false, false, true, false, false, false, false, false, false, false, false, false, false, false, false, false, false, false, false, false, false, false, false, false, false, false, false, false, false, false, false, false, false, false]
abbrev z67_24_ : Array Bool := #[true, true, true, false, false, true, false, false, false, true, false, false, true, true, false, false, true, false, false, false, true, false, false, false, false, false, false, false, false, false, false, false, false, false, false, false, false, false, false, false, false, false, false, false, false, false, false, false]
abbrev z67_25_ : Array Bool := #[true, true, true, false, false, true, false, false, false, true, false, false, true, true, false, false, true, false, false, false, true, false, false, true, false, false, false, false, false, false, false, false, false, false, false, false, false, false, false, false, false, false, false, false, false, false, false, false]
abbrev z67_26_ : Array Bool := #[true, true, true, false, false, true, false, false, false, true, false, false, true, true, false, false, true, false, false, false, true, false, false, true, true, false, false, false, false, false, false, false, false, false, false, false, false, false, false, false, false, false, false, false, false, false, false, false]
abbrev z67_27_ : Array Bool := #[true, true, true, false, false, true, false, false, false, true, false, false, true, true, false, false, true, false, false, false, true, false, false, true, true, false, false, true, false, false, false, false, false, false, false, false, false, false, false, false, false, false, false, false, false, false, false, false]
abbrev z67_28_ : Array Bool := #[true, true, true, false, false, true, false, false, false, true, false, false, true, true, false, false, true, false, false, false, true, false, false, true, true, false, false, true, false, false, false, true, false, false, false, false, false, false, false, false, false, false, false, false, false, false, false, false]
abbrev z67_29_ : Array Bool := #[true, true, true, false, false, true, false, false, false, true, false, false, true, true, false, false, true, false, false, false, true, false, false, true, true, false, false, true, false, false, false, true, false, false, true, false, false, false, false, false, false, false, false, false, false, false, false, false]
abbrev z67_30_ : Array Bool := #[true, true, true, false, false, true, false, false, false, true, false, false, true, true, false, false, true, false, false, false, true, false, false, true, true, false, false, true, false, false, false, true, false, false, true, true, false, false, false, false, false, false, false, false, false, false, false, false]
abbrev z67_31_ : Array Bool := #[true, true, true, false, false, true, false, false, false, true, false, false, true, true, false, false, true, false, false, false, true, false, false, true, true, false, false, true, false, false, false, true, false, false, true, true, false, false, true, false, false, false, false, false, false, false, false, false]
abbrev z67_32_ : Array Bool := #[true, true, true, false, false, true, false, false, false, true, false, false, true, true, false, false, true, false, false, false, true, false, false, true, true, false, false, true, false, false, false, true, false, false, true, true, false, false, true, false, false, false, true, false, false, false, false, false]
abbrev z67_33_ : Array Bool := #[true, true, true, false, false, true, false, false, false, true, false, false, true, true, false, false, true, false, false, false, true, false, false, true, true, false, false, true, false, false, false, true, false, false, true, true, false, false, true, false, false, false, true, false, false, false, true, false]
abbrev z67_34_ : Array Bool := #[true, true, true, true, false, true, false, false, false, true, false, false, true, true, false, false, true, false, false, false, true, false, false, true, true, false, false, true, false, false, false, true, false, false, true, true, false, false, true, false, false, false, true, false, false, false, true, false]
abbrev z67_35_ : Array Bool := #[true, true, true, true, true, true, false, false, false, true, false, false, true, true, false, false, true, false, false, false, true, false, false, true, true, false, false, true, false, false, false, true, false, false, true, true, false, false, true, false, false, false, true, false, false, false, true, false]
abbrev z67_36_ : Array Bool := #[true, true, true, true, true, true, true, false, false, true, false, false, true, true, false, false, true, false, false, false, true, false, false, true, true, false, false, true, false, false, false, true, false, false, true, true, false, false, true, false, false, false, true, false, false, false, true, false]
abbrev z67_37_ : Array Bool := #[true, true, true, true, true, true, true, true, false, true, false, false, true, true, false, false, true, false, false, false, true, false, false, true, true, false, false, true, false, false, false, true, false, false, true, true, false, false, true, false, false, false, true, false, false, false, true, false]
abbrev z67_38_ : Array Bool := #[true, true, true, true, true, true, true, true, true, true, false, false, true, true, false, false, true, false, false, false, true, false, false, true, true, false, false, true, false, false, false, true, false, false, true, true, false, false, true, false, false, false, true, false, false, false, true, false]
abbrev z67_39_ : Array Bool := #[true, true, true, true, true, true, true, true, true, true, true, false, true, true, false, false, true, false, false, false, true, false, false, true, true, false, false, true, false, false, false, true, false, false, true, true, false, false, true, false, false, false, true, false, false, false, true, false]
abbrev z67_40_ : Array Bool := #[true, true, true, true, true, true, true, true, true, true, true, true, true, true, false, false, true, false, false, false, true, false, false, true, true, false, false, true, false, false, false, true, false, false, true, true, false, false, true, false, false, false, true, false, false, false, true, false]
abbrev z67_41_ : Array Bool := #[true, true, true, true, true, true, true, true, true, true, true, true, true, true, true, false, true, false, false, false, true, false, false, true, true, false, false, true, false, false, false, true, false, false, true, true, false, false, true, false, false, false, true, false, false, false, true, false]
abbrev z67_42_ : Array Bool := #[true, true, true, true, true, true, true, true, true, true, true, true, true, true, true, true, true, false, false, false, true, false, false, true, true, false, false, true, false, false, false, true, false, false, true, true, false, false, true, false, false, false, true, false, false, false, true, false]
abbrev z67_43_ : Array Bool := #[true, true, true, true, true, true, true, true, true, true, true, true, true, true, true, true, true, true, false, false, true, false, false, true, true, false, false, true, false, false, false, true, false, false, true, true, false, false, true, false, false, false, true, false, false, false, true, false]
abbrev z67_44_ : Array Bool := #[true, true, true, true, true, true, true, true, true, true, true, true, true, true, true, true, true, true, true, false, true, false, false, true, true, false, false, true, false, false, false, true, false, false, true, true, false, false, true, false, false, false, true, false, false, false, true, false]
abbrev z67_45_ : Array Bool := #[true, true, true, true, true, true, true, true, true, true, true, true, true, true, true, true, true, true, true, true, true, false, false, true, true, false, false, true, false, false, false, true, false, false, true, true, false, false, true, false, false, false, true, false, false, false, true, false]
abbrev z67_46_ : Array Bool := #[true, true, true, true, true, true, true, true, true, true, true, true, true, true, true, true, true, true, true, true, true, true, false, true, true, false, false, true, false, false, false, true, false, false, true, true, false, false, true, false, false, false, true, false, false, false, true, false]
abbrev z67_47_ : Array Bool := #[true, true, true, true, true, true, true, true, true, true, true, true, true, true, true, true, true, true, true, true, true, true, true, true, true, false, false, true, false, false, false, true, false, false, true, true, false, false, true, false, false, false, true, false, false, false, true, false]
abbrev z67_48_ : Array Bool := #[true, true, true, true, true, true, true, true, true, true, true, true, true, true, true, true, true, true, true, true, true, true, true, true, true, true, false, true, false, false, false, true, false, false, true, true, false, false, true, false, false, false, true, false, false, false, true, false]
abbrev z67_49_ : Array Bool := #[true, true, true, true, true, true, true, true, true, true, true, true, true, true, true, true, true, true, true, true, true, true, true, true, true, true, true, true, false, false, false, true, false, false, true, true, false, false, true, false, false, false, true, false, false, false, true, false]
abbrev z67_50_ : Array Bool := #[true, true, true, true, true, true, true, true, true, true, true, true, true, true, true, true, true, true, true, true, true, true, true, true, true, true, true, true, true, false, false, true, false, false, true, true, false, false, true, false, false, false, true, false, false, false, true, false]
abbrev z67_51_ : Array Bool := #[true, true, true, true, true, true, true, true, true, true, true, true, true, true, true, true, true, true, true, true, true, true, true, true, true, true, true, true, true, true, false, true, false, false, true, true, false, false, true, false, false, false, true, false, false, false, true, false]
abbrev z67_52_ : Array Bool := #[true, true, true, true, true, true, true, true, true, true, true, true, true, true, true, true, true, true, true, true, true, true, true, true, true, true, true, true, true, true, true, true, false, false, true, true, false, false, true, false, false, false, true, false, false, false, true, false]
abbrev z67_53_ : Array Bool := #[true, true, true, true, true, true, true, true, true, true, true, true, true, true, true, true, true, true, true, true, true, true, true, true, true, true, true, true, true, true, true, true, true, false, true, true, false, false, true, false, false, false, true, false, false, false, true, false]
abbrev z67_54_ : Array Bool := #[true, true, true, true, true, true, true, true, true, true, true, true, true, true, true, true, true, true, true, true, true, true, true, true, true, true, true, true, true, true, true, true, true, true, true, true, false, false, true, false, false, false, true, false, false, false, true, false]
abbrev z67_55_ : Array Bool := #[true, true, true, true, true, true, true, true, true, true, true, true, true, true, true, true, true, true, true, true, true, true, true, true, true, true, true, true, true, true, true, true, true, true, true, true, true, false, true, false, false, false, true, false, false, false, true, false]
abbrev z67_56_ : Array Bool := #[true, true, true, true, true, true, true, true, true, true, true, true, true, true, true, true, true, true, true, true, true, true, true, true, true, true, true, true, true, true, true, true, true, true, true, true, true, true, true, false, false, false, true, false, false, false, true, false]
abbrev z67_57_ : Array Bool := #[true, true, true, true, true, true, true, true, true, true, true, true, true, true, true, true, true, true, true, true, true, true, true, true, true, true, true, true, true, true, true, true, true, true, true, true, true, true, true, true, false, false, true, false, false, false, true, false]
abbrev z67_58_ : Array Bool := #[true, true, true, true, true, true, true, true, true, true, true, true, true, true, true, true, true, true, true, true, true, true, true, true, true, true, true, true, true, true, true, true, true, true, true, true, true, true, true, true, true, false, true, false, false, false, true, false]
abbrev z67_59_ : Array Bool := #[true, true, true, true, true, true, true, true, true, true, true, true, true, true, true, true, true, true, true, true, true, true, true, true, true, true, true, true, true, true, true, true, true, true, true, true, true, true, true, true, true, true, true, false, false, false, true, false]
abbrev z67_60_ : Array Bool := #[true, true, true, true, true, true, true, true, true, true, true, true, true, true, true, true, true, true, true, true, true, true, true, true, true, true, true, true, true, true, true, true, true, true, true, true, true, true, true, true, true, true, true, true, false, false, true, false]
abbrev z67_61_ : Array Bool := #[true, true, true, true, true, true, true, true, true, true, true, true, true, true, true, true, true, true, true, true, true, true, true, true, true, true, true, true, true, true, true, true, true, true, true, true, true, true, true, true, true, true, true, true, true, false, true, false]
abbrev z67_62_ : Array Bool := #[true, true, true, true, true, true, true, true, true, true, true, true, true, true, true, true, true, true, true, true, true, true, true, true, true, true, true, true, true, true, true, true, true, true, true, true, true, true, true, true, true, true, true, true, true, true, true, false]
abbrev z67_63_ : Array Bool := #[true, true, true, true, true, true, true, true, true, true, true, true, true, true, true, true, true, true, true, true, true, true, true, true, true, true, true, true, true, true, true, true, true, true, true, true, true, true, true, true, true, true, true, true, true, true, true, true]
/-! ### sponge_mixer_round: function 67 -/
def sponge_mixer_round.l0 : Nat → Int → Int → Int → Int → Bool → Int → Int → Int → Int → Option (Int × Int × Int × Int × Int)
  | 0, _, _, _, _, _, _, _, _, _ => none
  | k + 1, x1, x10, x122000, x122001, x122002, x123000, x123001, x123002, x123003 => if x10 < 4 then (if x122000 = 0 then (none) else (if 0 ≤ x10 then ((sponge_mixer_power.f x122000 x122001 x122002 (Int.tmod (IntKind.u64.wrap ((IntKind.u64.wrap ((rd ([x123000, x123001, x123002, x123003] : List Int) x10) + (Int.tmod (IntKind.u64.wrap (x1 * x122001)) x122000))) + 7)) x122000)).bind fun t124 => (sponge_mixer_round.l0 k (Int.tmod (IntKind.u64.wrap (x1 * x122001)) x122000) (wrap64 (x10 + 1)) x122000 x122001 x122002 (updv x123000 0 x10 t124) (updv x123001 1 x10 t124) (updv x123002 2 x10 t124) (updv x123003 3 x10 t124))) else (none))) else (if x122000 = 0 then (none) else (some (x1, Int.tmod (IntKind.u64.wrap ((IntKind.u64.wrap ((IntKind.u64.wrap ((IntKind.u64.wrap ((IntKind.u64.wrap (x123000 + x123001)) + x123002)) + x123003)) + x123000)) + (IntKind.u64.wrap (2 * x123001)))) x122000, Int.tmod (IntKind.u64.wrap ((IntKind.u64.wrap ((IntKind.u64.wrap ((IntKind.u64.wrap ((IntKind.u64.wrap (x123000 + x123001)) + x123002)) + x123003)) + x123001)) + (IntKind.u64.wrap (2 * x123002)))) x122000, Int.tmod (IntKind.u64.wrap ((IntKind.u64.wrap ((IntKind.u64.wrap ((IntKind.u64.wrap ((IntKind.u64.wrap (x123000 + x123001)) + x123002)) + x123003)) + x123002)) + (IntKind.u64.wrap (2 * x123003)))) x122000, Int.tmod (IntKind.u64.wrap ((IntKind.u64.wrap ((IntKind.u64.wrap ((IntKind.u64.wrap ((IntKind.u64.wrap (x123000 + x123001)) + x123002)) + x123003)) + x123003)) + (IntKind.u64.wrap (2 * x123000)))) x122000)))
def sponge_mixer_round.f (k : Nat) (a0_0 : Int) (a0_1 : Int) (a0_2 : Bool) (a1 : Int) (a2_0 : Int) (a2_1 : Int) (a2_2 : Int) (a2_3 : Int) : Option (Int × Int × Int × Int × Int) := sponge_mixer_round.l0 k a1 0 a0_0 a0_1 a0_2 a2_0 a2_1 a2_2 a2_3
theorem sponge_mixer_round.mono_l : ∀ k, (∀ y0 y1 y2 y3 y4 y5 y6 y7 y8, LeO (sponge_mixer_round.l0 k y0 y1 y2 y3 y4 y5 y6 y7 y8) (sponge_mixer_round.l0 (k + 1) y0 y1 y2 y3 y4 y5 y6 y7 y8))
  | 0 => fun _ _ _ _ _ _ _ _ _ r h => by simp [sponge_mixer_round.l0] at h
  | k + 1 => by
    have ih0 := sponge_mixer_round.mono_l k
    · intro y0 y1 y2 y3 y4 y5 y6 y7 y8
      unfold sponge_mixer_round.l0
      repeat' first
      | (with_reducible exact ih0 _ _ _ _ _ _ _ _ _)
      | (with_reducible exact LeO.refl _)
      | (with_reducible exact LeO.none _)
      | (with_reducible refine LeO.ite ?_ ?_)
      | (with_reducible refine LeO.bind ?_ (fun _ => ?_))
      | exact ih0 _ _ _ _ _ _ _ _ _
      | exact LeO.none _
      | refine LeO.ite ?_ ?_
      | refine LeO.bind ?_ (fun _ => ?_)
theorem sponge_mixer_round.mono : ∀ a0 a1 a2 a3 a4 a5 a6 a7 k, LeO (sponge_mixer_round.f k a0 a1 a2 a3 a4 a5 a6 a7) (sponge_mixer_round.f (k + 1) a0 a1 a2 a3 a4 a5 a6 a7) := by
  intro a0 a1 a2 a3 a4 a5 a6 a7 k
  have ih0 := sponge_mixer_round.mono_l k
  unfold sponge_mixer_round.f
  repeat' first
      | (with_reducible exact ih0 _ _ _ _ _ _ _ _ _)
      | (with_reducible exact LeO.refl _)
      | (with_reducible exact LeO.none _)
      | (with_reducible refine LeO.ite ?_ ?_)
      | (with_reducible refine LeO.bind ?_ (fun _ => ?_))
      | exact ih0 _ _ _ _ _ _ _ _ _
      | exact LeO.none _
      | refine LeO.ite ?_ ?_
      | refine LeO.bind ?_ (fun _ => ?_)
def sponge_mixer_round.T5 : Bool × List (List Nat × List Nat) := (true, [([], []), ([], []), ([], []), ([2], [2]), ([3], [3]), ([], []), ([4, 5], [4, 5]), ([6], [6]), ([], []), ([8], [8]), ([7, 9], [7, 9]), ([1, 10], [1, 10]), ([0, 0, 1, 2, 3, 4, 5, 6, 7, 8, 9, 10, 11], [0]), ([12, 11, 11, 0, 1, 2, 3, 4, 5, 6, 7, 8, 9, 10, 11], [11, 12])])
def sponge_mixer_round.B5 : List Nat := [0, 0, 0, 4, 12, 0, 60, 124, 0, 256, 1020, 2046, 4095, 8191]
theorem sponge_mixer_round.tab5 : rtab .any (opsOf Tryd.f67 5) = sponge_mixer_round.T5 := by kernel_rfl
theorem sponge_mixer_round.bits5 : waitsOk sponge_mixer_round.T5.2 sponge_mixer_round.B5 = true := by kernel_rfl
def sponge_mixer_round.T8 : Bool × List (List Nat × List Nat) := (true, [([], []), ([], []), ([], []), ([2], [2]), ([1, 3], [1, 3]), ([], []), ([5], [5]), ([6], [6]), ([4, 7], [4, 7]), ([], []), ([9], [9]), ([8, 10], [8, 10]), ([], []), ([], []), ([13], [13]), ([12, 14], [12, 14]), ([], []), ([16], [16]), ([17], [17]), ([15, 18], [15, 18]), ([], []), ([20], [20]), ([19, 21], [19, 21]), ([], []), ([], []), ([24], [24]), ([23, 25], [23, 25]), ([], []), ([27], [27]), ([28], [28]), ([26, 29], [26, 29]), ([], []), ([31], [31]), ([30, 32], [30, 32]), ([], []), ([], []), ([35], [35]), ([34, 36], [34, 36]), ([], []), ([38], [38]), ([39], [39]), ([37, 40], [37, 40]), ([], []), ([42], [42]), ([41, 43], [41, 43]), ([11, 22, 33, 44], [11, 22, 33, 44]), ([0, 0], [0]), ([45, 46, 0, 1, 2, 3, 4, 5, 6, 7, 8, 9, 10, 11, 12, 13, 14, 15, 16, 17, 18, 19, 20, 21, 22, 23, 24, 25, 26, 27, 28, 29, 30, 31, 32, 33, 34, 35, 36, 37, 38, 39, 40, 41, 42, 43, 44, 45, 46], [45])])
def sponge_mixer_round.B8 : List Nat := [0, 0, 0, 4, 14, 0, 32, 96, 254, 0, 512, 2046, 0, 0, 8192, 28672, 0, 65536, 196608, 520192, 0, 1048576, 4190208, 0, 0, 16777216, 58720256, 0, 134217728, 402653184, 1065353216, 0, 2147483648, 8581545984, 0, 0, 34359738368, 120259084288, 0, 274877906944, 824633720832, 2181843386368, 0, 4398046511104, 17575006175232, 35184372088830, 1, 140737488355327]
theorem sponge_mixer_round.tab8 : rtab .any (opsOf Tryd.f67 8) = sponge_mixer_round.T8 := by kernel_rfl
theorem sponge_mixer_round.bits8 : waitsOk sponge_mixer_round.T8.2 sponge_mixer_round.B8 = true := by kernel_rfl
set_option maxHeartbeats 8000000 in
set_option maxRecDepth 100000 in
theorem sponge_mixer_round.calls (k : Nat) (a0_0 : Int) (a0_1 : Int) (a0_2 : Bool) (a1 : Int) (a2_0 : Int) (a2_1 : Int) (a2_2 : Int) (a2_3 : Int) (r1 : Int) (r2 : Int) (r3 : Int) (r4 : Int) (r5 : Int) (w : World) (h : sponge_mixer_round.f k a0_0 a0_1 a0_2 a1 a2_0 a2_1 a2_2 a2_3 = some (r1, r2, r3, r4, r5)) :
  Calls Tryd.prog 67 #[.agg #[.int .u64 a0_0, .int .u64 a0_1, .bool a0_2], .int .u64 a1, .agg #[.int .u64 a2_0, .int .u64 a2_1, .int .u64 a2_2, .int .u64 a2_3]] w fun e w' => e = .returned (.tuple #[.int .u64 r1, .agg #[.int .u64 r2, .int .u64 r3, .int .u64 r4, .int .u64 r5]]) ∧ Below w.heap.size w w' := by
 have hu78 := Tryd.underlying78
 have hu80 := Tryd.underlying80
 have HB := Aside0.mk (Below.refl w.heap.size w)
 have H : (sponge_mixer_round.l0 k a1 0 a0_0 a0_1 a0_2 a2_0 a2_1 a2_2 a2_3) = some (r1, r2, r3, r4, r5) := h
 clear h
 have H' := Aside0.mk H
 clear H
 go_enter Tryd.func67, Tryd.ntmps67
 go_wp2_with (first | ((with_reducible refine gate_dst (N := 3) rfl ?_); refine box_event ?hg (N := 3) ?hd (cs := #[.int .u64 a0_0, .int .u64 a0_1, .bool a0_2]) (t := 78) ?hr ?_; (case hd => rfl); (case hg => rfl); (case hr => first | (go_simp; done) | (go_simp; rfl)); intro g121 hg w4 hbox hb; have n0_ := Aside0.mk (below_step (by repeat (first | (with_reducible first | exact HB.out | apply below_alloc | apply pw_below_drewN | apply below_drew1) | exact HB.out)) hb); have n1_ := Aside0.mk (hbox); have n2_ := Aside0.mk ((by rw [hg]; exact (below_size (by repeat (first | (with_reducible first | exact HB.out | apply below_alloc | apply pw_below_drewN | apply below_drew1) | exact HB.out))) : w.heap.size ≤ g121)); have n3_ := Aside0.mk ((by rw [hg]; exact (below_size (by repeat (first | (with_reducible first | exact HB.out | apply below_alloc | apply pw_below_drewN | apply below_drew1) | exact HB.out))) : w.heap.size ≤ g121)); clear HB; have HB := n0_; have B121 := n1_; have GW121 := n2_; have GE121 := n3_; clear n0_ n1_ n2_ n3_; clear hb hbox hg) | ((with_reducible refine gate_dst (N := 5) rfl ?_); refine box_event ?hg (N := 5) ?hd (cs := #[.int .u64 a2_0, .int .u64 a2_1, .int .u64 a2_2, .int .u64 a2_3]) (t := 80) ?hr ?_; (case hd => rfl); (case hg => rfl); (case hr => first | (go_simp; done) | (go_simp; rfl)); intro g122 hg w5 hbox hb; have n0_ := Aside0.mk (blk_below (g := g121) (o := .cells #[.int .u64 a0_0, .int .u64 a0_1, .bool a0_2] 78 (0, 0)) (by exact B121.out) hb); have n1_ := Aside0.mk (below_step (by repeat (first | (with_reducible first | exact HB.out | apply below_alloc | apply pw_below_drewN | apply below_drew1 | refine below_set ?_ GE121.out) | exact HB.out)) hb); have n2_ := Aside0.mk (hbox); have n3_ := Aside0.mk ((by rw [hg]; exact (below_size (by repeat (first | (with_reducible first | exact HB.out | apply below_alloc | apply pw_below_drewN | apply below_drew1 | refine below_set ?_ GE121.out) | exact HB.out))) : w.heap.size ≤ g122)); have n4_ := Aside0.mk ((by rw [hg]; exact (below_size (by repeat (first | (with_reducible first | exact HB.out | apply below_alloc | apply pw_below_drewN | apply below_drew1 | refine below_set ?_ GE121.out) | exact HB.out))) : w.heap.size ≤ g122)); have n5_ := Aside0.mk ((by rw [hg]; exact Nat.ne_of_lt (blk_lt (g := g121) (o := .cells #[.int .u64 a0_0, .int .u64 a0_1, .bool a0_2] 78 (0, 0)) (by exact B121.out)) : g121 ≠ g122)); have n6_ := Aside0.mk ((by rw [hg]; exact Nat.ne_of_gt (blk_lt (g := g121) (o := .cells #[.int .u64 a0_0, .int .u64 a0_1, .bool a0_2] 78 (0, 0)) (by exact B121.out)) : g122 ≠ g121)); clear B121; clear HB; have B121 := n0_; have HB := n1_; have B122 := n2_; have GW122 := n3_; have GE122 := n4_; have NB121_122 := n5_; have NB122_121 := n6_; clear n0_ n1_ n2_ n3_ n4_ n5_ n6_; clear hb hbox hg) | ((with_reducible refine gate_dst (N := 7) rfl ?_); refine box_event ?hg (N := 7) ?hd (cs := #[.int .u64 0, .int .u64 0, .int .u64 0, .int .u64 0]) (t := 80) ?hr ?_; (case hd => rfl); (case hg => rfl); (case hr => first | (go_simp; done) | (go_simp; rfl)); intro g123 hg w6 hbox hb; have n0_ := Aside0.mk (blk_below (g := g121) (o := .cells #[.int .u64 a0_0, .int .u64 a0_1, .bool a0_2] 78 (0, 0)) (by exact B121.out) hb); have n1_ := Aside0.mk (blk_below (g := g122) (o := .cells #[.int .u64 a2_0, .int .u64 a2_1, .int .u64 a2_2, .int .u64 a2_3] 80 (0, 0)) (by exact B122.out) hb); have n2_ := Aside0.mk (below_step (by repeat (first | (with_reducible first | exact HB.out | apply below_alloc | apply pw_below_drewN | apply below_drew1 | refine below_set ?_ GE121.out | refine below_set ?_ GE122.out) | exact HB.out)) hb); have n3_ := Aside0.mk (hbox); have n4_ := Aside0.mk ((by rw [hg]; exact (below_size (by repeat (first | (with_reducible first | exact HB.out | apply below_alloc | apply pw_below_drewN | apply below_drew1 | refine below_set ?_ GE121.out | refine below_set ?_ GE122.out) | exact HB.out))) : w.heap.size ≤ g123)); have n5_ := Aside0.mk ((by rw [hg]; exact (below_size (by repeat (first | (with_reducible first | exact HB.out | apply below_alloc | apply pw_below_drewN | apply below_drew1 | refine below_set ?_ GE121.out | refine below_set ?_ GE122.out) | exact HB.out))) : w.heap.size ≤ g123)); have n6_ := Aside0.mk ((by rw [hg]; exact Nat.ne_of_lt (blk_lt (g := g121) (o := .cells #[.int .u64 a0_0, .int .u64 a0_1, .bool a0_2] 78 (0, 0)) (by exact B121.out)) : g121 ≠ g123)); have n7_ := Aside0.mk ((by rw [hg]; exact Nat.ne_of_gt (blk_lt (g := g121) (o := .cells #[.int .u64 a0_0, .int .u64 a0_1, .bool a0_2] 78 (0, 0)) (by exact B121.out)) : g123 ≠ g121)); have n8_ := Aside0.mk ((by rw [hg]; exact Nat.ne_of_lt (blk_lt (g := g122) (o := .cells #[.int .u64 a2_0, .int .u64 a2_1, .int .u64 a2_2, .int .u64 a2_3] 80 (0, 0)) (by exact B122.out)) : g122 ≠ g123)); have n9_ := Aside0.mk ((by rw [hg]; exact Nat.ne_of_gt (blk_lt (g := g122) (o := .cells #[.int .u64 a2_0, .int .u64 a2_1, .int .u64 a2_2, .int .u64 a2_3] 80 (0, 0)) (by exact B122.out)) : g123 ≠ g122)); clear B121; clear B122; clear HB; have B121 := n0_; have B122 := n1_; have HB := n2_; have B123 := n3_; have GW123 := n4_; have GE123 := n5_; have NB121_123 := n6_; have NB123_121 := n7_; have NB122_123 := n8_; have NB123_122 := n9_; clear n0_ n1_ n2_ n3_ n4_ n5_ n6_ n7_ n8_ n9_; clear hb hbox hg))
 go_loopg [1, 10] k (fun kq v1 v10 w' => ∃ (x1_1 : Int) (x10_1 : Int) (x123000_1 : Int) (x123001_1 : Int) (x123002_1 : Int) (x123003_1 : Int), v1 = .int .u64 x1_1 ∧ v10 = .int .i64 x10_1 ∧ Aside0 (sponge_mixer_round.l0 kq x1_1 x10_1 a0_0 a0_1 a0_2 x123000_1 x123001_1 x123002_1 x123003_1 = some (r1, r2, r3, r4, r5)) ∧ Aside0 (kq ≤ k) ∧ Aside0 (w'.heap[g121]? = some (.cells #[.int .u64 a0_0, .int .u64 a0_1, .bool a0_2] 78 (0, 0))) ∧ Aside0 (w'.heap[g122]? = some (.cells #[.int .u64 x123000_1, .int .u64 x123001_1, .int .u64 x123002_1, .int .u64 x123003_1] 80 (0, 0))) ∧ Aside0 (w'.heap[g123]? = some (.cells #[.int .u64 0, .int .u64 0, .int .u64 0, .int .u64 0] 80 (0, 0))) ∧ Aside0 (Below w.heap.size w w'))
 case atStart => exact ⟨(a1), (0), (a2_0), (a2_1), (a2_2), (a2_3), (by first | rfl | (simp; done) | (simp [*]; done) | (simp; rfl) | (simp; decide +kernel)), (by first | rfl | (simp; done) | (simp [*]; done) | (simp; rfl) | (simp; decide +kernel)), H', ⟨Nat.le_refl _⟩, ⟨by exact B121.out⟩, ⟨by exact B122.out⟩, ⟨by exact B123.out⟩, ⟨by repeat (first | (with_reducible first | exact HB.out | apply below_alloc | apply pw_below_drewN | apply below_drew1 | refine below_set ?_ GE121.out | refine below_set ?_ GE122.out | refine below_set ?_ GE123.out) | exact HB.out)⟩⟩
 case round =>
  clear H'
  try clear p2
  try clear c6
  obtain ⟨x1_1, x10_1, x123000_1, x123001_1, x123002_1, x123003_1, rfl, rfl, HA, HK1, B121, B122, B123, HB⟩ := hrel
  cases gk with
  | zero => exact absurd HA.out (by simp [sponge_mixer_round.l0])
  | succ k1 =>
   have H := HA.out
   clear HA
   simp only [sponge_mixer_round.l0] at H
   by_cases c7 : x10_1 < 4
   ·rw [if_pos c7] at H
    have c7b0 : decide (x10_1 < 4) = true := decide_eq_true c7
    clear c7
    by_cases c8 : a0_0 = 0
    ·rw [if_pos c8] at H
     exact absurd H (by simp)
    ·rw [if_neg c8] at H
     have c8b0 : (a0_0 == 0) = false := beq_eq_false_iff_ne.mpr c8
     have c8b1 : (a0_0 != 0) = true := bne_iff_ne.mpr c8
     by_cases c9 : 0 ≤ x10_1
     ·rw [if_pos c9] at H
      have c9b0 := eq_true c9
      have c9b1 : decide (0 ≤ x10_1) = true := decide_eq_true c9
      clear c9
      replace H := Option.bind_eq_some_iff.mp H
      obtain ⟨t124, A100, H⟩ := H
      have A10 := Aside0.mk A100
      clear A100
      have H' := Aside0.mk H
      clear H
      have hnb11 := NB121_122.out
      have hnc11 := NB122_121.out
      have hnb12 := NB121_123.out
      have hnc12 := NB123_121.out
      have hcz13_0 : wr.cell? ⟨g121, 0, none⟩ = some (.int .u64 a0_0) := bq_ B121 0
      have hcz13_1 : wr.cell? ⟨g121, 1, none⟩ = some (.int .u64 a0_1) := bq_ B121 1
      have hcz13_2 : wr.cell? ⟨g121, 2, none⟩ = some (.bool a0_2) := bq_ B121 2
      have hfz13_0 := blk_frozen B121.out 0
      have hfz13_1 := blk_frozen B121.out 1
      have hfz13_2 := blk_frozen B121.out 2
      try go_wp2
      have n0_ := Aside0.mk (blk_drew B121.out)
      have n1_ := Aside0.mk (blk_drew B122.out)
      have n2_ := Aside0.mk (blk_drew B123.out)
      have n3_ := Aside0.mk (below_drew1 HB.out)
      clear B121
      clear B122
      clear B123
      clear HB
      have B121 := n0_
      have B122 := n1_
      have B123 := n2_
      have HB := n3_
      clear n0_ n1_ n2_ n3_
      have hlt15 : (x10_1 < 4) = True := eq_true (of_decide_eq_true (by first | (with_reducible assumption) | assumption))
      have hge16 : (0 ≤ x10_1) = True := eq_true (of_decide_eq_true (by first | (with_reducible assumption) | assumption))
      have hlt20 : (x10_1 < 4) = True := eq_true (of_decide_eq_true (by first | (with_reducible assumption) | assumption))
      have hge21 : (0 ≤ x10_1) = True := eq_true (of_decide_eq_true (by first | (with_reducible assumption) | assumption))
      refine start_ (n := 14) (S := fun w' => w'.cell? ⟨g121, 0, none⟩ = some (.int .u64 a0_0) ∧ w'.cell? ⟨g121, 1, none⟩ = some (.int .u64 a0_1) ∧ w'.cell? ⟨g121, 2, none⟩ = some (.bool a0_2) ∧ w'.cell? ⟨g122, (x10_1).toNat, none⟩ = some (.int .u64 (rd ([x123000_1, x123001_1, x123002_1, x123003_1] : List Int) x10_1))) (ds := [13]) z67_0_ (by kernel_rfl) rfl rfl ⟨bq_ B121 0, bq_ B121 1, bq_ B121 2, (sel_at (pre := []) (l := ([x123000_1, x123001_1, x123002_1, x123003_1] : List Int)) (post := []) B122.out rfl (by simp) (of_decide_eq_true (by first | (with_reducible assumption) | assumption)) (of_decide_eq_true (by first | (with_reducible assumption) | assumption)))⟩ (fun hL => ?_); refine with_tabW sponge_mixer_round.tab5 sponge_mixer_round.bits5 (fun T_ W_ => ?_)
      generalize wr.drew = w14 at B121 B122 B123 HB hL ⊢
      refine pure_ (i := 0) (N := some 20) (v := ?_) (a' := ?_) z67_1_ rfl rfl (an_ T_) (fun _ _ _ h => h) (Or.inl ⟨by rfl, ?_⟩) ?_ ?_
      rotate_left; · intro w'; go_simp; with_reducible rfl
      rotate_left; · simp only [Act.put, sa_, sb_, sc_, i64_w, i32_w]; rfl
      refine pure_ (i := 2) (N := some 22) (v := ?_) (a' := ?_) z67_2_ rfl rfl (an_ T_) (fun _ _ _ h => h) (Or.inl ⟨by rfl, ?_⟩) ?_ ?_
      rotate_left; · intro w'; go_simp; with_reducible rfl
      rotate_left; · simp only [Act.put, sa_, sb_, sc_, i64_w, i32_w]; rfl
      refine pure_ (i := 3) (N := some 23) (v := ?_) (a' := ?_) z67_3_ rfl rfl (an_ T_) (fun _ _ _ h => h) (Or.inl ⟨by rfl, ?_⟩) ?_ ?_
      rotate_left; · intro w'; go_simp; with_reducible rfl
      rotate_left; · simp only [Act.put, sa_, sb_, sc_, i64_w, i32_w]; rfl
      refine pure_ (i := 5) (N := some 25) (v := ?_) (a' := ?_) z67_4_ rfl rfl (an_ T_) (fun _ _ _ h => h) (Or.inl ⟨by rfl, ?_⟩) ?_ ?_
      rotate_left; · intro w'; go_simp; with_reducible rfl
      rotate_left; · simp only [Act.put, sa_, sb_, sc_, i64_w, i32_w]; rfl
      refine pure_ (i := 8) (N := some 28) (v := ?_) (a' := ?_) z67_5_ rfl rfl (an_ T_) (fun _ _ _ h => h) (Or.inl ⟨by rfl, ?_⟩) ?_ ?_
      rotate_left; · intro w'; go_simp; with_reducible rfl
      rotate_left; · simp only [Act.put, sa_, sb_, sc_, i64_w, i32_w]; rfl
      refine take_ (i := 1) (N := some 21) (v := ?_) (a' := ?_) z67_6_ rfl rfl (tk_ T_ W_) (fun _ _ _ h => h) (Or.inl ⟨by rfl, ?_⟩) hL ?_ ?_
      rotate_left
      ·rintro w' ⟨s0, s1, s2, s3⟩
       go_simp
       with_reducible rfl
      rotate_left
      ·simp only [Act.put, sa_, sb_, sc_, i64_w, i32_w]
       rfl
      refine take_ (i := 4) (N := some 24) (v := ?_) (a' := ?_) z67_7_ rfl rfl (tk_ T_ W_) (fun _ _ _ h => h) (Or.inl ⟨by rfl, ?_⟩) hL ?_ ?_
      rotate_left
      ·rintro w' ⟨s0, s1, s2, s3⟩
       go_simp
       with_reducible rfl
      rotate_left
      ·simp only [Act.put, sa_, sb_, sc_, i64_w, i32_w]
       rfl
      refine pure_ (i := 6) (N := some 26) (v := ?_) (a' := ?_) z67_8_ rfl rfl (an_ T_) (fun _ _ _ h => h) (Or.inl ⟨by rfl, ?_⟩) ?_ ?_
      rotate_left; · intro w'; go_simp; with_reducible rfl
      rotate_left; · simp only [Act.put, sa_, sb_, sc_, i64_w, i32_w]; rfl
      refine pure_ (i := 7) (N := some 27) (v := ?_) (a' := ?_) z67_9_ rfl rfl (an_ T_) (fun _ _ _ h => h) (Or.inl ⟨by rfl, ?_⟩) ?_ ?_
      rotate_left; · intro w'; go_simp; with_reducible rfl
      rotate_left; · simp only [Act.put, sa_, sb_, sc_, i64_w, i32_w]; rfl
      refine take_ (i := 9) (N := some 29) (v := ?_) (a' := ?_) z67_10_ rfl rfl (tk_ T_ W_) (fun _ _ _ h => h) (Or.inl ⟨by rfl, ?_⟩) hL ?_ ?_
      rotate_left
      ·rintro w' ⟨s0, s1, s2, s3⟩
       go_simp
       with_reducible rfl
      rotate_left
      ·simp only [Act.put, sa_, sb_, sc_, i64_w, i32_w]
       rfl
      refine pure_ (i := 10) (N := some 30) (v := ?_) (a' := ?_) z67_11_ rfl rfl (an_ T_) (fun _ _ _ h => h) (Or.inl ⟨by rfl, ?_⟩) ?_ ?_
      rotate_left; · intro w'; go_simp; with_reducible rfl
      rotate_left; · simp only [Act.put, sa_, sb_, sc_, i64_w, i32_w]; rfl
      refine one_ (i := 11) (N := some 31) z67_12_ rfl rfl (on_ T_) (by decide) (fun K hK => ?_)
      refine goes_ Tryd.func73 (by kernel_rfl) rfl #[.agg #[.int .u64 a0_0, .int .u64 a0_1, .bool a0_2], .int .u64 (Int.tmod (IntKind.u64.wrap ((IntKind.u64.wrap ((rd ([x123000_1, x123001_1, x123002_1, x123003_1] : List Int) x10_1) + (Int.tmod (IntKind.u64.wrap (x1_1 * a0_1)) a0_0))) + 7)) a0_0)] (by rfl) rfl rfl (by (try simp only [List.map_toArray, List.map_cons, List.map_nil]); first | done | rfl | (go_simp; done)) ?_
      with_reducible refine (sponge_mixer_power.calls a0_0 a0_1 a0_2 (Int.tmod (IntKind.u64.wrap ((IntKind.u64.wrap ((rd ([x123000_1, x123001_1, x123002_1, x123003_1] : List Int) x10_1) + (Int.tmod (IntKind.u64.wrap (x1_1 * a0_1)) a0_0))) + 7)) a0_0) t124 _ A10.out).mono ?_
      rintro e w17 ⟨rfl, hb⟩
      refine ⟨_, rfl, ?_⟩
      have n0_ := Aside0.mk (blk_below (g := g121) (o := .cells #[.int .u64 a0_0, .int .u64 a0_1, .bool a0_2] 78 (0, 0)) (by exact B121.out) hb)
      have n1_ := Aside0.mk (blk_below (g := g122) (o := .cells #[.int .u64 x123000_1, .int .u64 x123001_1, .int .u64 x123002_1, .int .u64 x123003_1] 80 (0, 0)) (by exact B122.out) hb)
      have n2_ := Aside0.mk (blk_below (g := g123) (o := .cells #[.int .u64 0, .int .u64 0, .int .u64 0, .int .u64 0] 80 (0, 0)) (by exact B123.out) hb)
      have n3_ := Aside0.mk (below_step (by repeat (first | (with_reducible first | exact HB.out | apply below_alloc | apply pw_below_drewN | apply below_drew1 | refine below_set ?_ GE121.out | refine below_set ?_ GE122.out | refine below_set ?_ GE123.out) | exact HB.out)) hb)
      clear B121
      clear B122
      clear B123
      clear HB
      have B121 := n0_
      have B122 := n1_
      have B123 := n2_
      have HB := n3_
      clear n0_ n1_ n2_ n3_
      (try clear hb)
      (try clear hb2)
      (try clear hk)
      (try clear hi)
      refine hK.out _ _ ⟨bq_ B121 0, bq_ B121 1, bq_ B121 2, (sel_at (pre := []) (l := ([x123000_1, x123001_1, x123002_1, x123003_1] : List Int)) (post := []) B122.out rfl (by simp) (of_decide_eq_true (by first | (with_reducible assumption) | assumption)) (of_decide_eq_true (by first | (with_reducible assumption) | assumption)))⟩ (fun hL => ?_)
      clear hK K
      refine norm_ (a' := ?_) ?_ ?_
      rotate_left
      ·show Act.put _ (some 31) _ = _
       simp only [Act.put, sa_, sb_, sc_, i64_w, i32_w]
       rfl
      refine pure_ (i := 12) (N := some 32) (v := ?_) (a' := ?_) z67_13_ rfl rfl (an_ T_) (fun _ _ _ h => h) (Or.inl ⟨by rfl, ?_⟩) ?_ ?_
      rotate_left; · intro w'; go_simp; with_reducible rfl
      rotate_left; · simp only [Act.put, sa_, sb_, sc_, i64_w, i32_w]; rfl
      refine last_ (i := 13) (N := none) z67_14_ rfl rfl (on_ T_) (by decide) (fun K hK => ?_)
      have hsv18 : w17.cell? ⟨g122, (x10_1).toNat, none⟩ = some (.int .u64 (rd ([x123000_1, x123001_1, x123002_1, x123003_1] : List Int) x10_1)) := (sel_at (pre := []) (l := ([x123000_1, x123001_1, x123002_1, x123003_1] : List Int)) (post := []) B122.out rfl (by simp) (of_decide_eq_true (by first | (with_reducible assumption) | assumption)) (of_decide_eq_true (by first | (with_reducible assumption) | assumption)))
      have hfv19 := blk_frozen B122.out ((x10_1).toNat)
      have hns22_0 := NB121_122.out
      have hns22_2 := NB123_122.out
      have hms22_0 := NB122_121.out
      have hms22_2 := NB122_123.out
      refine skip_ (w1 := ?_) (by rfl) rfl ?_ ?_
      rotate_left
      ·go_simp
       rfl
      refine hK.out _ _ ?_
      clear hK K
      refine done_ (done_of T_.out (by kernel_rfl)) ?_
      try go_wp2
      go_roundg k1
      case measure => have := HK1.out; omega
      case rel => exact ⟨(Int.tmod (IntKind.u64.wrap (x1_1 * a0_1)) a0_0), (wrap64 (x10_1 + 1)), ((updv x123000_1 0 x10_1 t124)), ((updv x123001_1 1 x10_1 t124)), ((updv x123002_1 2 x10_1 t124)), ((updv x123003_1 3 x10_1 t124)), (by first | rfl | (simp; done) | (simp [*]; done) | (simp; rfl) | (simp; decide +kernel)), (by first | rfl | (simp; done) | (simp [*]; done) | (simp; rfl) | (simp; decide +kernel)), H', ⟨by have := HK1.out; omega⟩, ⟨by refine blk_far ?_ NB121_122.out _; exact B121.out⟩, ⟨by refine sel_put (pre := []) (l := ([x123000_1, x123001_1, x123002_1, x123003_1] : List Int)) (post := []) ?_ rfl rfl (by simp) (of_decide_eq_true (by first | (with_reducible assumption) | assumption)) (of_decide_eq_true (by first | (with_reducible assumption) | assumption)); exact B122.out⟩, ⟨by refine blk_far ?_ NB123_122.out _; exact B123.out⟩, ⟨by repeat (first | (with_reducible first | exact HB.out | apply below_alloc | apply pw_below_drewN | apply below_drew1 | refine below_set ?_ GE121.out | refine below_set ?_ GE122.out | refine below_set ?_ GE123.out) | exact HB.out)⟩⟩
     ·rw [if_neg c9] at H
      exact absurd H (by simp)
   ·rw [if_neg c7] at H
    have c7b0 : decide (x10_1 < 4) = false := decide_eq_false c7
    clear c7
    by_cases c23 : a0_0 = 0
    ·rw [if_pos c23] at H
     exact absurd H (by simp)
    ·rw [if_neg c23] at H
     have c23b0 : (a0_0 == 0) = false := beq_eq_false_iff_ne.mpr c23
     have c23b1 : (a0_0 != 0) = true := bne_iff_ne.mpr c23
     simp only [Option.some.injEq, Prod.mk.injEq] at H
     obtain ⟨rfl, rfl, rfl, rfl, rfl⟩ := H
     have hnb24 := NB122_121.out
     have hnc24 := NB121_122.out
     have hnb25 := NB122_123.out
     have hnc25 := NB123_122.out
     have hcz26_0 : wr.cell? ⟨g122, 0, none⟩ = some (.int .u64 x123000_1) := bq_ B122 0
     have hcz26_1 : wr.cell? ⟨g122, 1, none⟩ = some (.int .u64 x123001_1) := bq_ B122 1
     have hcz26_2 : wr.cell? ⟨g122, 2, none⟩ = some (.int .u64 x123002_1) := bq_ B122 2
     have hcz26_3 : wr.cell? ⟨g122, 3, none⟩ = some (.int .u64 x123003_1) := bq_ B122 3
     have hfz26_0 := blk_frozen B122.out 0
     have hfz26_1 := blk_frozen B122.out 1
     have hfz26_2 := blk_frozen B122.out 2
     have hfz26_3 := blk_frozen B122.out 3
     try go_wp2
     have n0_ := Aside0.mk (blk_drew B121.out)
     have n1_ := Aside0.mk (blk_drew B122.out)
     have n2_ := Aside0.mk (blk_drew B123.out)
     have n3_ := Aside0.mk (below_drew1 HB.out)
     clear B121
     clear B122
     clear B123
     clear HB
     have B121 := n0_
     have B122 := n1_
     have B123 := n2_
     have HB := n3_
     clear n0_ n1_ n2_ n3_
     refine start_ (n := 48) (S := fun w' => w'.cell? ⟨g122, 0, none⟩ = some (.int .u64 x123000_1) ∧ w'.cell? ⟨g122, 1, none⟩ = some (.int .u64 x123001_1) ∧ w'.cell? ⟨g122, 2, none⟩ = some (.int .u64 x123002_1) ∧ w'.cell? ⟨g122, 3, none⟩ = some (.int .u64 x123003_1) ∧ w'.cell? ⟨g121, 0, none⟩ = some (.int .u64 a0_0) ∧ w'.cell? ⟨g121, 1, none⟩ = some (.int .u64 a0_1) ∧ w'.cell? ⟨g121, 2, none⟩ = some (.bool a0_2)) (ds := []) z67_15_ (by kernel_rfl) rfl rfl ⟨bq_ B122 0, bq_ B122 1, bq_ B122 2, bq_ B122 3, bq_ B121 0, bq_ B121 1, bq_ B121 2⟩ (fun hL => ?_); refine with_tabW sponge_mixer_round.tab8 sponge_mixer_round.bits8 (fun T_ W_ => ?_)
     generalize wr.drew = w27 at B121 B122 B123 HB hL ⊢
     refine pure_ (i := 0) (N := some 45) (v := ?_) (a' := ?_) z67_16_ rfl rfl (an_ T_) (fun _ _ _ h => h) (Or.inl ⟨by rfl, ?_⟩) ?_ ?_
     rotate_left; · intro w'; go_simp; with_reducible rfl
     rotate_left; · simp only [Act.put, sa_, sb_, sc_, i64_w, i32_w]; rfl
     refine pure_ (i := 1) (N := some 46) (v := ?_) (a' := ?_) z67_17_ rfl rfl (an_ T_) (fun _ _ _ h => h) (Or.inl ⟨by rfl, ?_⟩) ?_ ?_
     rotate_left; · intro w'; go_simp; with_reducible rfl
     rotate_left; · simp only [Act.put, sa_, sb_, sc_, i64_w, i32_w]; rfl
     refine pure_ (i := 2) (N := some 47) (v := ?_) (a' := ?_) z67_18_ rfl rfl (an_ T_) (fun _ _ _ h => h) (Or.inl ⟨by rfl, ?_⟩) ?_ ?_
     rotate_left; · intro w'; go_simp; with_reducible rfl
     rotate_left; · simp only [Act.put, sa_, sb_, sc_, i64_w, i32_w]; rfl
     refine pure_ (i := 5) (N := some 50) (v := ?_) (a' := ?_) z67_19_ rfl rfl (an_ T_) (fun _ _ _ h => h) (Or.inl ⟨by rfl, ?_⟩) ?_ ?_
     rotate_left; · intro w'; go_simp; with_reducible rfl
     rotate_left; · simp only [Act.put, sa_, sb_, sc_, i64_w, i32_w]; rfl
     refine pure_ (i := 9) (N := some 54) (v := ?_) (a' := ?_) z67_20_ rfl rfl (an_ T_) (fun _ _ _ h => h) (Or.inl ⟨by rfl, ?_⟩) ?_ ?_
     rotate_left; · intro w'; go_simp; with_reducible rfl
     rotate_left; · simp only [Act.put, sa_, sb_, sc_, i64_w, i32_w]; rfl
     refine pure_ (i := 12) (N := some 57) (v := ?_) (a' := ?_) z67_21_ rfl rfl (an_ T_) (fun _ _ _ h => h) (Or.inl ⟨by rfl, ?_⟩) ?_ ?_
     rotate_left; · intro w'; go_simp; with_reducible rfl
     rotate_left; · simp only [Act.put, sa_, sb_, sc_, i64_w, i32_w]; rfl
     refine pure_ (i := 13) (N := some 58) (v := ?_) (a' := ?_) z67_22_ rfl rfl (an_ T_) (fun _ _ _ h => h) (Or.inl ⟨by rfl, ?_⟩) ?_ ?_
     rotate_left; · intro w'; go_simp; with_reducible rfl
     rotate_left; · simp only [Act.put, sa_, sb_, sc_, i64_w, i32_w]; rfl
     refine pure_ (i := 16) (N := some 61) (v := ?_) (a' := ?_) z67_23_ rfl rfl (an_ T_) (fun _ _ _ h => h) (Or.inl ⟨by rfl, ?_⟩) ?_ ?_
     rotate_left; · intro w'; go_simp; with_reducible rfl
     rotate_left; · simp only [Act.put, sa_, sb_, sc_, i64_w, i32_w]; rfl
     refine pure_ (i := 20) (N := some 65) (v := ?_) (a' := ?_) z67_24_ rfl rfl (an_ T_) (fun _ _ _ h => h) (Or.inl ⟨by rfl, ?_⟩) ?_ ?_
     rotate_left; · intro w'; go_simp; with_reducible rfl
     rotate_left; · simp only [Act.put, sa_, sb_, sc_, i64_w, i32_w]; rfl
     refine pure_ (i := 23) (N := some 68) (v := ?_) (a' := ?_) z67_25_ rfl rfl (an_ T_) (fun _ _ _ h => h) (Or.inl ⟨by rfl, ?_⟩) ?_ ?_
     rotate_left; · intro w'; go_simp; with_reducible rfl
     rotate_left; · simp only [Act.put, sa_, sb_, sc_, i64_w, i32_w]; rfl
     refine pure_ (i := 24) (N := some 69) (v := ?_) (a' := ?_) z67_26_ rfl rfl (an_ T_) (fun _ _ _ h => h) (Or.inl ⟨by rfl, ?_⟩) ?_ ?_
     rotate_left; · intro w'; go_simp; with_reducible rfl
     rotate_left; · simp only [Act.put, sa_, sb_, sc_, i64_w, i32_w]; rfl
     refine pure_ (i := 27) (N := some 72) (v := ?_) (a' := ?_) z67_27_ rfl rfl (an_ T_) (fun _ _ _ h => h) (Or.inl ⟨by rfl, ?_⟩) ?_ ?_
     rotate_left; · intro w'; go_simp; with_reducible rfl
     rotate_left; · simp only [Act.put, sa_, sb_, sc_, i64_w, i32_w]; rfl
     refine pure_ (i := 31) (N := some 76) (v := ?_) (a' := ?_) z67_28_ rfl rfl (an_ T_) (fun _ _ _ h => h) (Or.inl ⟨by rfl, ?_⟩) ?_ ?_
     rotate_left; · intro w'; go_simp; with_reducible rfl
     rotate_left; · simp only [Act.put, sa_, sb_, sc_, i64_w, i32_w]; rfl
     refine pure_ (i := 34) (N := some 79) (v := ?_) (a' := ?_) z67_29_ rfl rfl (an_ T_) (fun _ _ _ h => h) (Or.inl ⟨by rfl, ?_⟩) ?_ ?_
     rotate_left; · intro w'; go_simp; with_reducible rfl
     rotate_left; · simp only [Act.put, sa_, sb_, sc_, i64_w, i32_w]; rfl
     refine pure_ (i := 35) (N := some 80) (v := ?_) (a' := ?_) z67_30_ rfl rfl (an_ T_) (fun _ _ _ h => h) (Or.inl ⟨by rfl, ?_⟩) ?_ ?_
     rotate_left; · intro w'; go_simp; with_reducible rfl
     rotate_left; · simp only [Act.put, sa_, sb_, sc_, i64_w, i32_w]; rfl
     refine pure_ (i := 38) (N := some 83) (v := ?_) (a' := ?_) z67_31_ rfl rfl (an_ T_) (fun _ _ _ h => h) (Or.inl ⟨by rfl, ?_⟩) ?_ ?_
     rotate_left; · intro w'; go_simp; with_reducible rfl
     rotate_left; · simp only [Act.put, sa_, sb_, sc_, i64_w, i32_w]; rfl
     refine pure_ (i := 42) (N := some 87) (v := ?_) (a' := ?_) z67_32_ rfl rfl (an_ T_) (fun _ _ _ h => h) (Or.inl ⟨by rfl, ?_⟩) ?_ ?_
     rotate_left; · intro w'; go_simp; with_reducible rfl
     rotate_left; · simp only [Act.put, sa_, sb_, sc_, i64_w, i32_w]; rfl
     refine pure_ (i := 46) (N := some 6) (v := ?_) (a' := ?_) z67_33_ rfl rfl (an_ T_) (fun _ _ _ h => h) (Or.inl ⟨by rfl, ?_⟩) ?_ ?_
     rotate_left; · intro w'; go_simp; with_reducible rfl
     rotate_left; · simp only [Act.put, sa_, sb_, sc_, i64_w, i32_w]; rfl
     refine take_ (i := 3) (N := some 48) (v := ?_) (a' := ?_) z67_34_ rfl rfl (tk_ T_ W_) (fun _ _ _ h => h) (Or.inl ⟨by rfl, ?_⟩) hL ?_ ?_
     rotate_left
     ·rintro w' ⟨s0, s1, s2, s3, s4, s5, s6⟩
      go_simp
      with_reducible rfl
     rotate_left
     ·simp only [Act.put, sa_, sb_, sc_, i64_w, i32_w]
      rfl
     refine pure_ (i := 4) (N := some 49) (v := ?_) (a' := ?_) z67_35_ rfl rfl (an_ T_) (fun _ _ _ h => h) (Or.inl ⟨by rfl, ?_⟩) ?_ ?_
     rotate_left; · intro w'; go_simp; with_reducible rfl
     rotate_left; · simp only [Act.put, sa_, sb_, sc_, i64_w, i32_w]; rfl
     refine take_ (i := 6) (N := some 51) (v := ?_) (a' := ?_) z67_36_ rfl rfl (tk_ T_ W_) (fun _ _ _ h => h) (Or.inl ⟨by rfl, ?_⟩) hL ?_ ?_
     rotate_left
     ·rintro w' ⟨s0, s1, s2, s3, s4, s5, s6⟩
      go_simp
      with_reducible rfl
     rotate_left
     ·simp only [Act.put, sa_, sb_, sc_, i64_w, i32_w]
      rfl
     refine pure_ (i := 7) (N := some 52) (v := ?_) (a' := ?_) z67_37_ rfl rfl (an_ T_) (fun _ _ _ h => h) (Or.inl ⟨by rfl, ?_⟩) ?_ ?_
     rotate_left; · intro w'; go_simp; with_reducible rfl
     rotate_left; · simp only [Act.put, sa_, sb_, sc_, i64_w, i32_w]; rfl
     refine pure_ (i := 8) (N := some 53) (v := ?_) (a' := ?_) z67_38_ rfl rfl (an_ T_) (fun _ _ _ h => h) (Or.inl ⟨by rfl, ?_⟩) ?_ ?_
     rotate_left; · intro w'; go_simp; with_reducible rfl
     rotate_left; · simp only [Act.put, sa_, sb_, sc_, i64_w, i32_w]; rfl
     refine take_ (i := 10) (N := some 55) (v := ?_) (a' := ?_) z67_39_ rfl rfl (tk_ T_ W_) (fun _ _ _ h => h) (Or.inl ⟨by rfl, ?_⟩) hL ?_ ?_
     rotate_left
     ·rintro w' ⟨s0, s1, s2, s3, s4, s5, s6⟩
      go_simp
      with_reducible rfl
     rotate_left
     ·simp only [Act.put, sa_, sb_, sc_, i64_w, i32_w]
      rfl
     refine pure_ (i := 11) (N := some 56) (v := ?_) (a' := ?_) z67_40_ rfl rfl (an_ T_) (fun _ _ _ h => h) (Or.inl ⟨by rfl, ?_⟩) ?_ ?_
     rotate_left; · intro w'; go_simp; with_reducible rfl
     rotate_left; · simp only [Act.put, sa_, sb_, sc_, i64_w, i32_w]; rfl
     refine take_ (i := 14) (N := some 59) (v := ?_) (a' := ?_) z67_41_ rfl rfl (tk_ T_ W_) (fun _ _ _ h => h) (Or.inl ⟨by rfl, ?_⟩) hL ?_ ?_
     rotate_left
     ·rintro w' ⟨s0, s1, s2, s3, s4, s5, s6⟩
      go_simp
      with_reducible rfl
     rotate_left
     ·simp only [Act.put, sa_, sb_, sc_, i64_w, i32_w]
      rfl
     refine pure_ (i := 15) (N := some 60) (v := ?_) (a' := ?_) z67_42_ rfl rfl (an_ T_) (fun _ _ _ h => h) (Or.inl ⟨by rfl, ?_⟩) ?_ ?_
     rotate_left; · intro w'; go_simp; with_reducible rfl
     rotate_left; · simp only [Act.put, sa_, sb_, sc_, i64_w, i32_w]; rfl
     refine take_ (i := 17) (N := some 62) (v := ?_) (a' := ?_) z67_43_ rfl rfl (tk_ T_ W_) (fun _ _ _ h => h) (Or.inl ⟨by rfl, ?_⟩) hL ?_ ?_
     rotate_left
     ·rintro w' ⟨s0, s1, s2, s3, s4, s5, s6⟩
      go_simp
      with_reducible rfl
     rotate_left
     ·simp only [Act.put, sa_, sb_, sc_, i64_w, i32_w]
      rfl
     refine pure_ (i := 18) (N := some 63) (v := ?_) (a' := ?_) z67_44_ rfl rfl (an_ T_) (fun _ _ _ h => h) (Or.inl ⟨by rfl, ?_⟩) ?_ ?_
     rotate_left; · intro w'; go_simp; with_reducible rfl
     rotate_left; · simp only [Act.put, sa_, sb_, sc_, i64_w, i32_w]; rfl
     refine pure_ (i := 19) (N := some 64) (v := ?_) (a' := ?_) z67_45_ rfl rfl (an_ T_) (fun _ _ _ h => h) (Or.inl ⟨by rfl, ?_⟩) ?_ ?_
     rotate_left; · intro w'; go_simp; with_reducible rfl
     rotate_left; · simp only [Act.put, sa_, sb_, sc_, i64_w, i32_w]; rfl
     refine take_ (i := 21) (N := some 66) (v := ?_) (a' := ?_) z67_46_ rfl rfl (tk_ T_ W_) (fun _ _ _ h => h) (Or.inl ⟨by rfl, ?_⟩) hL ?_ ?_
     rotate_left
     ·rintro w' ⟨s0, s1, s2, s3, s4, s5, s6⟩
      go_simp
      with_reducible rfl
     rotate_left
     ·simp only [Act.put, sa_, sb_, sc_, i64_w, i32_w]
      rfl
     refine pure_ (i := 22) (N := some 67) (v := ?_) (a' := ?_) z67_47_ rfl rfl (an_ T_) (fun _ _ _ h => h) (Or.inl ⟨by rfl, ?_⟩) ?_ ?_
     rotate_left; · intro w'; go_simp; with_reducible rfl
     rotate_left; · simp only [Act.put, sa_, sb_, sc_, i64_w, i32_w]; rfl
     refine take_ (i := 25) (N := some 70) (v := ?_) (a' := ?_) z67_48_ rfl rfl (tk_ T_ W_) (fun _ _ _ h => h) (Or.inl ⟨by rfl, ?_⟩) hL ?_ ?_
     rotate_left
     ·rintro w' ⟨s0, s1, s2, s3, s4, s5, s6⟩
      go_simp
      with_reducible rfl
     rotate_left
     ·simp only [Act.put, sa_, sb_, sc_, i64_w, i32_w]
      rfl
     refine pure_ (i := 26) (N := some 71) (v := ?_) (a' := ?_) z67_49_ rfl rfl (an_ T_) (fun _ _ _ h => h) (Or.inl ⟨by rfl, ?_⟩) ?_ ?_
     rotate_left; · intro w'; go_simp; with_reducible rfl
     rotate_left; · simp only [Act.put, sa_, sb_, sc_, i64_w, i32_w]; rfl
     refine take_ (i := 28) (N := some 73) (v := ?_) (a' := ?_) z67_50_ rfl rfl (tk_ T_ W_) (fun _ _ _ h => h) (Or.inl ⟨by rfl, ?_⟩) hL ?_ ?_
     rotate_left
     ·rintro w' ⟨s0, s1, s2, s3, s4, s5, s6⟩
      go_simp
      with_reducible rfl
     rotate_left
     ·simp only [Act.put, sa_, sb_, sc_, i64_w, i32_w]
      rfl
     refine pure_ (i := 29) (N := some 74) (v := ?_) (a' := ?_) z67_51_ rfl rfl (an_ T_) (fun _ _ _ h => h) (Or.inl ⟨by rfl, ?_⟩) ?_ ?_
     rotate_left; · intro w'; go_simp; with_reducible rfl
     rotate_left; · simp only [Act.put, sa_, sb_, sc_, i64_w, i32_w]; rfl
     refine pure_ (i := 30) (N := some 75) (v := ?_) (a' := ?_) z67_52_ rfl rfl (an_ T_) (fun _ _ _ h => h) (Or.inl ⟨by rfl, ?_⟩) ?_ ?_
     rotate_left; · intro w'; go_simp; with_reducible rfl
     rotate_left; · simp only [Act.put, sa_, sb_, sc_, i64_w, i32_w]; rfl
     refine take_ (i := 32) (N := some 77) (v := ?_) (a' := ?_) z67_53_ rfl rfl (tk_ T_ W_) (fun _ _ _ h => h) (Or.inl ⟨by rfl, ?_⟩) hL ?_ ?_
     rotate_left
     ·rintro w' ⟨s0, s1, s2, s3, s4, s5, s6⟩
      go_simp
      with_reducible rfl
     rotate_left
     ·simp only [Act.put, sa_, sb_, sc_, i64_w, i32_w]
      rfl
     refine pure_ (i := 33) (N := some 78) (v := ?_) (a' := ?_) z67_54_ rfl rfl (an_ T_) (fun _ _ _ h => h) (Or.inl ⟨by rfl, ?_⟩) ?_ ?_
     rotate_left; · intro w'; go_simp; with_reducible rfl
     rotate_left; · simp only [Act.put, sa_, sb_, sc_, i64_w, i32_w]; rfl
     refine take_ (i := 36) (N := some 81) (v := ?_) (a' := ?_) z67_55_ rfl rfl (tk_ T_ W_) (fun _ _ _ h => h) (Or.inl ⟨by rfl, ?_⟩) hL ?_ ?_
     rotate_left
     ·rintro w' ⟨s0, s1, s2, s3, s4, s5, s6⟩
      go_simp
      with_reducible rfl
     rotate_left
     ·simp only [Act.put, sa_, sb_, sc_, i64_w, i32_w]
      rfl
     refine pure_ (i := 37) (N := some 82) (v := ?_) (a' := ?_) z67_56_ rfl rfl (an_ T_) (fun _ _ _ h => h) (Or.inl ⟨by rfl, ?_⟩) ?_ ?_
     rotate_left; · intro w'; go_simp; with_reducible rfl
     rotate_left; · simp only [Act.put, sa_, sb_, sc_, i64_w, i32_w]; rfl
     refine take_ (i := 39) (N := some 84) (v := ?_) (a' := ?_) z67_57_ rfl rfl (tk_ T_ W_) (fun _ _ _ h => h) (Or.inl ⟨by rfl, ?_⟩) hL ?_ ?_
     rotate_left
     ·rintro w' ⟨s0, s1, s2, s3, s4, s5, s6⟩
      go_simp
      with_reducible rfl
     rotate_left
     ·simp only [Act.put, sa_, sb_, sc_, i64_w, i32_w]
      rfl
     refine pure_ (i := 40) (N := some 85) (v := ?_) (a' := ?_) z67_58_ rfl rfl (an_ T_) (fun _ _ _ h => h) (Or.inl ⟨by rfl, ?_⟩) ?_ ?_
     rotate_left; · intro w'; go_simp; with_reducible rfl
     rotate_left; · simp only [Act.put, sa_, sb_, sc_, i64_w, i32_w]; rfl
     refine pure_ (i := 41) (N := some 86) (v := ?_) (a' := ?_) z67_59_ rfl rfl (an_ T_) (fun _ _ _ h => h) (Or.inl ⟨by rfl, ?_⟩) ?_ ?_
     rotate_left; · intro w'; go_simp; with_reducible rfl
     rotate_left; · simp only [Act.put, sa_, sb_, sc_, i64_w, i32_w]; rfl
     refine take_ (i := 43) (N := some 88) (v := ?_) (a' := ?_) z67_60_ rfl rfl (tk_ T_ W_) (fun _ _ _ h => h) (Or.inl ⟨by rfl, ?_⟩) hL ?_ ?_
     rotate_left
     ·rintro w' ⟨s0, s1, s2, s3, s4, s5, s6⟩
      go_simp
      with_reducible rfl
     rotate_left
     ·simp only [Act.put, sa_, sb_, sc_, i64_w, i32_w]
      rfl
     refine pure_ (i := 44) (N := some 89) (v := ?_) (a' := ?_) z67_61_ rfl rfl (an_ T_) (fun _ _ _ h => h) (Or.inl ⟨by rfl, ?_⟩) ?_ ?_
     rotate_left; · intro w'; go_simp; with_reducible rfl
     rotate_left; · simp only [Act.put, sa_, sb_, sc_, i64_w, i32_w]; rfl
     refine pure_ (i := 45) (N := some 90) (v := ?_) (a' := ?_) z67_62_ rfl rfl (an_ T_) (fun _ _ _ h => h) (Or.inl ⟨by rfl, ?_⟩) ?_ ?_
     rotate_left; · intro w'; go_simp; with_reducible rfl
     rotate_left; · simp only [Act.put, sa_, sb_, sc_, i64_w, i32_w]; rfl
     refine one_ (i := 47) (N := none) z67_63_ rfl rfl (on_ T_) (by decide) (fun K hK => ?_)
     have hs28 : w27.cell? ⟨g123, 0, none⟩ = some (.int .u64 0) := bq_ B123 0
     have hfs28 := blk_frozen B123.out 0
     have hns28_0 := NB121_123.out
     have hns28_1 := NB122_123.out
     have hms28_0 := NB123_121.out
     have hms28_1 := NB123_122.out
     have hs29 : w27.cell? ⟨g123, 1, none⟩ = some (.int .u64 0) := bq_ B123 1
     have hfs29 := blk_frozen B123.out 1
     have hns29_0 := NB121_123.out
     have hns29_1 := NB122_123.out
     have hms29_0 := NB123_121.out
     have hms29_1 := NB123_122.out
     have hs30 : w27.cell? ⟨g123, 2, none⟩ = some (.int .u64 0) := bq_ B123 2
     have hfs30 := blk_frozen B123.out 2
     have hns30_0 := NB121_123.out
     have hns30_1 := NB122_123.out
     have hms30_0 := NB123_121.out
     have hms30_1 := NB123_122.out
     have hs31 : w27.cell? ⟨g123, 3, none⟩ = some (.int .u64 0) := bq_ B123 3
     have hfs31 := blk_frozen B123.out 3
     have hns31_0 := NB121_123.out
     have hns31_1 := NB122_123.out
     have hms31_0 := NB123_121.out
     have hms31_1 := NB123_122.out
     refine skip_ (w1 := ?_) (by rfl) rfl ?_ ?_
     rotate_left
     ·go_simp
      rfl
     refine hK.out _ _ ⟨((cell_far (p := ⟨g123, _, none⟩) NB122_123.out _).trans (((cell_far (p := ⟨g123, _, none⟩) NB122_123.out _).trans (((cell_far (p := ⟨g123, _, none⟩) NB122_123.out _).trans (((cell_far (p := ⟨g123, _, none⟩) NB122_123.out _).trans (hL.1)))))))), ((cell_far (p := ⟨g123, _, none⟩) NB122_123.out _).trans (((cell_far (p := ⟨g123, _, none⟩) NB122_123.out _).trans (((cell_far (p := ⟨g123, _, none⟩) NB122_123.out _).trans (((cell_far (p := ⟨g123, _, none⟩) NB122_123.out _).trans (hL.2.1)))))))), ((cell_far (p := ⟨g123, _, none⟩) NB122_123.out _).trans (((cell_far (p := ⟨g123, _, none⟩) NB122_123.out _).trans (((cell_far (p := ⟨g123, _, none⟩) NB122_123.out _).trans (((cell_far (p := ⟨g123, _, none⟩) NB122_123.out _).trans (hL.2.2.1)))))))), ((cell_far (p := ⟨g123, _, none⟩) NB122_123.out _).trans (((cell_far (p := ⟨g123, _, none⟩) NB122_123.out _).trans (((cell_far (p := ⟨g123, _, none⟩) NB122_123.out _).trans (((cell_far (p := ⟨g123, _, none⟩) NB122_123.out _).trans (hL.2.2.2.1)))))))), ((cell_far (p := ⟨g123, _, none⟩) NB121_123.out _).trans (((cell_far (p := ⟨g123, _, none⟩) NB121_123.out _).trans (((cell_far (p := ⟨g123, _, none⟩) NB121_123.out _).trans (((cell_far (p := ⟨g123, _, none⟩) NB121_123.out _).trans (hL.2.2.2.2.1)))))))), ((cell_far (p := ⟨g123, _, none⟩) NB121_123.out _).trans (((cell_far (p := ⟨g123, _, none⟩) NB121_123.out _).trans (((cell_far (p := ⟨g123, _, none⟩) NB121_123.out _).trans (((cell_far (p := ⟨g123, _, none⟩) NB121_123.out _).trans (hL.2.2.2.2.2.1)))))))), ((cell_far (p := ⟨g123, _, none⟩) NB121_123.out _).trans (((cell_far (p := ⟨g123, _, none⟩) NB121_123.out _).trans (((cell_far (p := ⟨g123, _, none⟩) NB121_123.out _).trans (((cell_far (p := ⟨g123, _, none⟩) NB121_123.out _).trans (hL.2.2.2.2.2.2))))))))⟩ (fun hL => ?_)
     clear hK K
     refine done_ (done_of T_.out (by kernel_rfl)) ?_
     try go_wp2
     refine bodyPost_ret (results_tc rfl _ _ g123 80 #[.int .u64 (Int.tmod (IntKind.u64.wrap ((IntKind.u64.wrap ((IntKind.u64.wrap ((IntKind.u64.wrap ((IntKind.u64.wrap (x123000_1 + x123001_1)) + x123002_1)) + x123003_1)) + x123000_1)) + (IntKind.u64.wrap (2 * x123001_1)))) a0_0), .int .u64 (Int.tmod (IntKind.u64.wrap ((IntKind.u64.wrap ((IntKind.u64.wrap ((IntKind.u64.wrap ((IntKind.u64.wrap (x123000_1 + x123001_1)) + x123002_1)) + x123003_1)) + x123001_1)) + (IntKind.u64.wrap (2 * x123002_1)))) a0_0), .int .u64 (Int.tmod (IntKind.u64.wrap ((IntKind.u64.wrap ((IntKind.u64.wrap ((IntKind.u64.wrap ((IntKind.u64.wrap (x123000_1 + x123001_1)) + x123002_1)) + x123003_1)) + x123002_1)) + (IntKind.u64.wrap (2 * x123003_1)))) a0_0), .int .u64 (Int.tmod (IntKind.u64.wrap ((IntKind.u64.wrap ((IntKind.u64.wrap ((IntKind.u64.wrap ((IntKind.u64.wrap (x123000_1 + x123001_1)) + x123002_1)) + x123003_1)) + x123003_1)) + (IntKind.u64.wrap (2 * x123000_1)))) a0_0)] (0, 0) _ rfl (by refine blk_put (cs := #[.int .u64 (Int.tmod (IntKind.u64.wrap ((IntKind.u64.wrap ((IntKind.u64.wrap ((IntKind.u64.wrap ((IntKind.u64.wrap (x123000_1 + x123001_1)) + x123002_1)) + x123003_1)) + x123000_1)) + (IntKind.u64.wrap (2 * x123001_1)))) a0_0), .int .u64 (Int.tmod (IntKind.u64.wrap ((IntKind.u64.wrap ((IntKind.u64.wrap ((IntKind.u64.wrap ((IntKind.u64.wrap (x123000_1 + x123001_1)) + x123002_1)) + x123003_1)) + x123001_1)) + (IntKind.u64.wrap (2 * x123002_1)))) a0_0), .int .u64 (Int.tmod (IntKind.u64.wrap ((IntKind.u64.wrap ((IntKind.u64.wrap ((IntKind.u64.wrap ((IntKind.u64.wrap (x123000_1 + x123001_1)) + x123002_1)) + x123003_1)) + x123002_1)) + (IntKind.u64.wrap (2 * x123003_1)))) a0_0), .int .u64 0]) ?_ 3 _ rfl; refine blk_put (cs := #[.int .u64 (Int.tmod (IntKind.u64.wrap ((IntKind.u64.wrap ((IntKind.u64.wrap ((IntKind.u64.wrap ((IntKind.u64.wrap (x123000_1 + x123001_1)) + x123002_1)) + x123003_1)) + x123000_1)) + (IntKind.u64.wrap (2 * x123001_1)))) a0_0), .int .u64 (Int.tmod (IntKind.u64.wrap ((IntKind.u64.wrap ((IntKind.u64.wrap ((IntKind.u64.wrap ((IntKind.u64.wrap (x123000_1 + x123001_1)) + x123002_1)) + x123003_1)) + x123001_1)) + (IntKind.u64.wrap (2 * x123002_1)))) a0_0), .int .u64 0, .int .u64 0]) ?_ 2 _ rfl; refine blk_put (cs := #[.int .u64 (Int.tmod (IntKind.u64.wrap ((IntKind.u64.wrap ((IntKind.u64.wrap ((IntKind.u64.wrap ((IntKind.u64.wrap (x123000_1 + x123001_1)) + x123002_1)) + x123003_1)) + x123000_1)) + (IntKind.u64.wrap (2 * x123001_1)))) a0_0), .int .u64 0, .int .u64 0, .int .u64 0]) ?_ 1 _ rfl; refine blk_put (cs := #[.int .u64 0, .int .u64 0, .int .u64 0, .int .u64 0]) ?_ 0 _ rfl; exact B123.out) Tryd.underlying80 rfl (by kernel_rfl)) rfl ?_
     exact ⟨by first | rfl | (simp [errW_none, errW_some] <;> rfl) | (simp [*, errW_none, errW_some] <;> rfl), by repeat (first | (with_reducible first | exact HB.out | apply below_alloc | apply pw_below_drewN | apply below_drew1 | refine below_set ?_ GE121.out | refine below_set ?_ GE122.out | refine below_set ?_ GE123.out) | exact HB.out)⟩

end Go.Proofs.YtpnpmeogffodgaaDoor.Q
end
