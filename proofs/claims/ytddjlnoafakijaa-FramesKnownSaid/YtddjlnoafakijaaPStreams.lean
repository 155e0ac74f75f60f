/- The law's own streams: some, stream, Split and Same over frames that are in order. -/
import Derived.Test.YtddjlnoafakijaaPBytes
import Derived.Test.YtddjlnoafakijaaPEncodes
import Derived.Test.YtddjlnoafakijaaQf17
import Derived.Test.YtddjlnoafakijaaQf19
import Derived.Test.YtddjlnoafakijaaQf21
import Derived.Test.YtddjlnoafakijaaQf22
namespace Go.Proofs.Ytddjlnoafakijaa.Q
open Go.RowKit Go.Proofs.YtddjlnoafakijaaW.PrintWords Go.Proofs.YtddjlnoafakijaaW.PrintLast Go.Proofs.YtddjlnoafakijaaW.PrintMore
set_option linter.unusedVariables false
set_option linter.unusedSimpArgs false

def GoodF (s : S25) : Prop := (0 ≤ s.f0 ∧ s.f0 < 256) ∧ (0 ≤ s.f1 ∧ s.f1 < 4294967296) ∧ B8 s.f2 ∧ s.f2.length ≤ 1048576
def Good (l : List S25) : Prop := ∀ s ∈ l, GoodF s
def cutS (s : S25) : S25 := ⟨s.f0, s.f1, s.f2.take 300⟩
def encS (s : S25) : List Int := enc s.f0 s.f1 s.f2
def encs : List S25 → List Int
  | [] => []
  | s :: l => encS s ++ encs l
theorem encS_length (s : S25) : (encS s).length = s.f2.length + 14 := enc_length ..
theorem encs_append : ∀ (a b : List S25), encs (a ++ b) = encs a ++ encs b
  | [], b => rfl
  | s :: a, b => by rw [List.cons_append, encs, encs, encs_append a b, List.append_assoc]
theorem enc_b8 (kd id : Int) (l : List Int) (hk : 0 ≤ kd ∧ kd < 256) (hl : B8 l) : B8 (enc kd id l) := by
  have hh : B8 (hd9 kd id l.length) := B8.append (B8.append (B8.cons (by decide) (by decide) (B8.cons hk.1 hk.2 B8.nil)) (lb_b8 _ _)) (lb_b8 _ _)
  have hx := xorl_range (hd9 kd id l.length) 0 (by decide) (by decide)
  exact B8.append (B8.append (B8.append hh (B8.cons hx.1 hx.2 B8.nil)) hl) (lb_b8 _ _)
theorem encs_b8 : ∀ (l : List S25), Good l → B8 (encs l)
  | [], _ => B8.nil
  | s :: l, h => B8.append (enc_b8 _ _ _ (h s (List.mem_cons_self ..)).1 (h s (List.mem_cons_self ..)).2.2.1) (encs_b8 l (fun x hx => h x (List.mem_cons_of_mem _ hx)))
theorem encs_le (m : Nat) : ∀ (l : List S25), (∀ s ∈ l, s.f2.length ≤ m) → (encs l).length ≤ l.length * (m + 14)
  | [], _ => by simp [encs]
  | s :: l, h => by
    have h1 := encs_le m l (fun x hx => h x (List.mem_cons_of_mem _ hx))
    have h2 := h s (List.mem_cons_self ..)
    rw [encs, List.length_append, encS_length, List.length_cons, Nat.add_mul]
    omega
theorem rdT_mid (p : List S25) (s : S25) (q : List S25) : rd_T25 (p ++ s :: q) (p.length : Int) = s := by
  simp [rd_T25]
theorem cutS_eta (s : S25) : (⟨s.f0, s.f1, s.f2.take 300⟩ : S25) = cutS s := rfl
/-- Six at most: the loop ends though the slice be longer than the fuel. -/
theorem some_n (n : Nat) (hn : n ≤ 1000000) (q : List S25) : ∀ (p : List S25) (k : Nat), p.length ≤ n → n - p.length < k →
    attestorlaw34_some.l0 k (p ++ q) (n : Int) (p.map cutS) (p.length : Int) = some ((p ++ q.take (n - p.length)).map cutS) := by
  induction q with
  | nil =>
    intro p k hp hk
    obtain ⟨k, rfl⟩ : ∃ k2, k = k2 + 1 := ⟨k - 1, by omega⟩
    rw [attestorlaw34_some.l0, if_neg (by simp)]
    simp
  | cons s q ih =>
    intro p k hp hk
    obtain ⟨k, rfl⟩ : ∃ k2, k = k2 + 1 := ⟨k - 1, by omega⟩
    have hlt : (p.length : Int) < ((p ++ s :: q).length : Int) := by rw [List.length_append, List.length_cons]; omega
    rw [attestorlaw34_some.l0, if_pos hlt]
    by_cases h0 : n - p.length = 0
    · rw [if_neg (by omega), h0]
      simp
    rw [if_pos (by omega), if_pos (by omega), rdT_mid, cut_f, Option.bind_some, if_pos (by rw [List.length_map]; omega), wS (by omega)]
    have e3 : (p ++ [s]).length = p.length + 1 := by simp
    replace ih := ih (p ++ [s]) k (by omega) (by omega)
    have e : p ++ [s] ++ q = p ++ s :: q := by simp
    have e2 : (p ++ [s]).map cutS = p.map cutS ++ [(⟨s.f0, s.f1, s.f2.take 300⟩ : S25)] := by rw [List.map_append]; rfl
    rw [e, e2, e3] at ih
    have e4 : p ++ (s :: q).take (n - p.length) = p ++ [s] ++ q.take (n - (p.length + 1)) := by
      have : n - p.length = (n - (p.length + 1)) + 1 := by omega
      rw [this, List.take_succ_cons]
      simp
    rw [e4]
    exact ih
theorem some_six (k : Nat) (l : List S25) (hk : 6 < k) : attestorlaw34_some.f k l 6 = some ((l.take 6).map cutS) := some_n 6 (by decide) l [] k (by decide) hk
theorem cut_good {l : List S25} (h : ∀ s ∈ l, (0 ≤ s.f0 ∧ s.f0 < 256) ∧ (0 ≤ s.f1 ∧ s.f1 < 4294967296) ∧ B8 s.f2) (n : Nat) : Good ((l.take n).map cutS) ∧ ∀ s ∈ (l.take n).map cutS, s.f2.length ≤ 300 := by
  constructor
  · intro s hs
    obtain ⟨x, hx, rfl⟩ := List.mem_map.mp hs
    have := h x (List.mem_of_mem_take hx)
    refine ⟨this.1, this.2.1, this.2.2.take _, ?_⟩
    have := List.length_take_le 300 x.f2
    show (x.f2.take 300).length ≤ _
    omega
  · intro s hs
    obtain ⟨x, hx, rfl⟩ := List.mem_map.mp hs
    exact List.length_take_le 300 x.f2
theorem stream_l0 (q : List S25) : ∀ (p : List S25) (k : Nat), Good (p ++ q) → (p.length + q.length : Int) < 4611686018427387904 → (encs (p ++ q)).length < 140737488355328 → q.length + 1048577 < k →
    attestorlaw34_stream.l0 k (p ++ q) (encs p) (p.length : Int) = some (encs (p ++ q)) := by
  induction q with
  | nil =>
    intro p k hg hl he hk
    obtain ⟨k, rfl⟩ : ∃ k2, k = k2 + 1 := ⟨k - 1, by omega⟩
    rw [attestorlaw34_stream.l0, if_neg (by simp)]
    simp
  | cons s q ih =>
    intro p k hg hl he hk
    obtain ⟨k, rfl⟩ : ∃ k2, k = k2 + 1 := ⟨k - 1, by omega⟩
    simp only [List.length_cons] at hl hk
    have hs := hg s (by simp)
    have hlt : (p.length : Int) < ((p ++ s :: q).length : Int) := by rw [List.length_append, List.length_cons]; omega
    rw [attestorlaw34_stream.l0, if_pos hlt, if_pos (by omega), rdT_mid, Encode_f k _ _ _ hs.2.2.1 hs.2.1.1 hs.2.2.2 (by omega), Option.bind_some, if_pos (by
      rw [encs_append, encs, List.length_append, List.length_append] at he
      show (encs p).length + (encS s).length < _
      omega), wS (by omega)]
    have e : p ++ [s] ++ q = p ++ s :: q := by simp
    replace ih := ih (p ++ [s]) k (by rw [e]; exact hg) (by rw [List.length_append, List.length_singleton]; omega) (by rw [e]; exact he) (by omega)
    have e3 : (p ++ [s]).length = p.length + 1 := by simp
    have e2 : encs (p ++ [s]) = encs p ++ enc s.f0 s.f1 s.f2 := by rw [encs_append]; simp [encs, encS]
    rw [e, e2, e3] at ih
    exact ih
theorem stream_f (k : Nat) (l : List S25) (hg : Good l) (hl : (l.length : Int) < 4611686018427387904) (he : (encs l).length < 140737488355328) (hk : l.length + 1048577 < k) : attestorlaw34_stream.f k l = some (encs l) :=
  stream_l0 l [] k hg (by simpa using hl) he hk
theorem S25_eta (s : S25) : (⟨s.f0, s.f1, s.f2⟩ : S25) = s := rfl
/-- Split walks over the frames that are in order and stops where DEC says so. -/
theorem split_step (x : List Int) (hb : B8 x) (hx : x.length ≤ 1000000000)(A : List S25) : ∀ (acc : List S25) (p q : List Int) (k : Nat), x = p ++ (encs A ++ q) → Good A → (acc.length + A.length : Int) < 4398046511104 → A.length + 1000000100 < k →
    ∃ k', k ≤ k' + A.length ∧ frames_Split.l0 k x acc (p.length : Int) = frames_Split.l0 k' x (acc ++ A) ((p.length + (encs A).length : Nat) : Int) := by
  induction A with
  | nil => exact fun acc p q k h hg hl hk => ⟨k, by simp, by simp [encs]⟩
  | cons s A ih =>
    intro acc p q k h hg hl hk
    obtain ⟨k, rfl⟩ : ∃ k2, k = k2 + 1 := ⟨k - 1, by omega⟩
    have hs := hg s (List.mem_cons_self ..)
    simp only [List.length_cons] at hl hk
    have hlen : x.length = p.length + ((s.f2.length + 14 + (encs A).length) + q.length) := by rw [h, encs]; simp only [List.length_append, encS_length]
    have hd : x.drop p.length = enc s.f0 s.f1 s.f2 ++ (encs A ++ q) := by rw [h, List.drop_left, encs, encS, List.append_assoc]
    have w : wrap64 ((p.length : Int) + (14 + (s.f2.length : Int))) = (((p ++ encS s).length : Nat) : Int) := by
      rw [List.length_append, encS_length]
      unfold wrap64
      omega
    obtain ⟨k', h1, h2⟩ := ih (acc ++ [s]) (p ++ encS s) q k (by rw [h, encs]; simp) (fun y hy => hg y (List.mem_cons_of_mem _ hy)) (by rw [List.length_append, List.length_singleton]; omega) (by omega)
    refine ⟨k', by simp only [List.length_cons]; omega, ?_⟩
    rw [frames_Split.l0, if_pos (by omega), if_pos (by omega), if_pos (by omega), Int.toNat_natCast, hd, Decode_f k _ (by rw [← hd]; exact hb.drop _) (by rw [← hd, List.length_drop]; omega) (by omega), Option.bind_some, DEC_ok _ _ hs.2.1.1 hs.2.1.2 _ _ hs.2.2.2, if_pos rfl, if_pos (by omega)]
    simp only []
    rw [w, h2, List.append_assoc, List.singleton_append]
    congr 1
    simp only [encs, List.length_append]
    omega
theorem split_bad (A : List S25) (q : List Int) (hg : Good A) (hb : B8 (encs A ++ q)) (hx : (encs A ++ q).length ≤ 1000000000) (hq : q ≠ []) (z : Nat) (hz : z ≤ 1000000000) (e : Int) (h0 : e ≠ 0) (h5 : e ≠ 5) (hD : DEC q = (0, 0, [], (z : Int), e))
    (k : Nat) (hA : (A.length : Int) < 4398046511104) (hk : A.length + 1000000200 < k) : frames_Split.f k (encs A ++ q) = some (A, (((encs A).length + z : Nat) : Int), e) := by
  obtain ⟨k', h1, h2⟩ := split_step (encs A ++ q) hb hx A [] [] q k rfl hg (by simpa using hA) (by omega)
  have hql : 0 < q.length := List.length_pos_iff.mpr hq
  obtain ⟨k2, rfl⟩ : ∃ k2, k' = k2 + 1 := ⟨k' - 1, by omega⟩
  have hlen : (encs A ++ q).length = (encs A).length + q.length := List.length_append
  unfold frames_Split.f
  have e0 : frames_Split.l0 k (encs A ++ q) [] 0 = frames_Split.l0 k (encs A ++ q) [] ((([] : List Int).length : Nat) : Int) := rfl
  rw [e0, h2, List.nil_append, List.length_nil, Nat.zero_add, frames_Split.l0, if_pos (by omega), if_pos (by omega), if_pos (by omega), Int.toNat_natCast, List.drop_left, Decode_f k2 _ (by have := hb.drop (encs A).length; rwa [List.drop_left] at this) (by omega) (by omega), Option.bind_some, hD]
  simp only []
  rw [if_neg h0, if_neg h5]
  have w : wrap64 (((encs A).length : Int) + (z : Int)) = (((encs A).length + z : Nat) : Int) := by unfold wrap64; omega
  rw [w]
theorem split_all (A : List S25) (hg : Good A) (hx : (encs A).length ≤ 1000000000) (k : Nat) (hA : (A.length : Int) < 4398046511104) (hk : A.length + 1000000200 < k) : frames_Split.f k (encs A) = some (A, ((encs A).length : Int), 0) := by
  obtain ⟨k', h1, h2⟩ := split_step (encs A) (encs_b8 A hg) hx A [] [] [] k (by simp) hg (by simpa using hA) (by omega)
  obtain ⟨k2, rfl⟩ : ∃ k2, k' = k2 + 1 := ⟨k' - 1, by omega⟩
  unfold frames_Split.f
  have e0 : frames_Split.l0 k (encs A) [] 0 = frames_Split.l0 k (encs A) [] ((([] : List Int).length : Nat) : Int) := rfl
  rw [e0, h2, List.nil_append, List.length_nil, Nat.zero_add, frames_Split.l0, if_neg (by omega)]
theorem same_l0 (l : List S25) (hl : (l.length : Int) < 4611686018427387904) : ∀ (d k i : Nat), l.length - i = d → i ≤ l.length → d < k → attestorref34_Same.l0 k l l (i : Int) = some true := by
  intro d
  induction d with
  | zero =>
    intro k i h0 hi hk
    obtain ⟨k, rfl⟩ : ∃ k2, k = k2 + 1 := ⟨k - 1, by omega⟩
    rw [attestorref34_Same.l0, if_neg (by omega)]
  | succ d ih =>
    intro k i h0 hi hk
    obtain ⟨k, rfl⟩ : ∃ k2, k = k2 + 1 := ⟨k - 1, by omega⟩
    rw [attestorref34_Same.l0, if_pos (by omega), if_pos (by omega), if_pos (by omega), if_pos rfl, if_pos rfl, if_pos rfl, wS (by omega)]
    exact ih k (i + 1) (by omega) (by omega) (by omega)
theorem same_f (k : Nat) (l : List S25) (hl : (l.length : Int) < 4611686018427387904) (hk : l.length < k) : attestorref34_Same.f k l l = some true := by
  unfold attestorref34_Same.f
  rw [if_pos rfl]
  exact same_l0 l hl l.length k 0 (by omega) (by omega) hk
end Go.Proofs.Ytddjlnoafakijaa.Q
