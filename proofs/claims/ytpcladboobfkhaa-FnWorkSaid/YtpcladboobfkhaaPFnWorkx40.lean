/- Plain laws of the printed functions. -/
import Derived.Test.YtpcladboobfkhaaPFnWorkx4
import Derived.Test.YtpcladboobfkhaaPFnWorkx5
import Derived.Test.YtpcladboobfkhaaPFnWorkx6
import Derived.Test.YtpcladboobfkhaaPFnWorkx8
namespace Go.Proofs.Ytpcladboobfkhaa.Pure
open Go.RowKit Go.Proofs.Ytpcladboobfkhaa.PFnWork Go.Proofs.YtpcladboobfkhaaW.PrintWords Go.Proofs.YtpcladboobfkhaaW.PrintLast Go.Proofs.YtpcladboobfkhaaW.PrintMore
set_option linter.unusedVariables false
set_option linter.unusedSimpArgs false
theorem i64_bits : IntKind.i64.bits = 64 := rfl
theorem wrap_i64' (n : Int) : IntKind.i64.wrap n = wrap64 n := by unfold wrap64; exact IntKind.wrap_i64 n
theorem wrap_in {n : Int} (h0 : -9223372036854775808 ≤ n) (h1 : n ≤ 9223372036854775807) : wrap64 n = n := by unfold wrap64; omega
theorem wrap_lo (n : Int) : -9223372036854775808 ≤ wrap64 n ∧ wrap64 n ≤ 9223372036854775807 := by unfold wrap64; omega

theorem bits_and_raw (n m : Int) (p : Nat) (hm : (BitVec.ofInt 64 m).toNat = 2 ^ p - 1) :
    bits .and .i64 n m = wrap64 (((n % ((2 ^ 64 : Nat) : Int)).toNat % 2 ^ p : Nat) : Int) := by
  have key : (BitVec.ofInt 64 n &&& BitVec.ofInt 64 m).toNat = (n % ((2 ^ 64 : Nat) : Int)).toNat % 2 ^ p := by
    rw [BitVec.toNat_and, BitVec.toNat_ofInt, hm, Nat.and_two_pow_sub_one_eq_mod]
  show IntKind.i64.wrap ((BitVec.ofInt 64 n &&& BitVec.ofInt 64 m).toNat : Nat) = _
  rw [key, wrap_i64']
theorem and_255 (n : Int) : bits .and .i64 n 255 = n % 256 := by rw [bits_and_raw n 255 8 (by decide)]; unfold wrap64; omega
theorem and_65535 (n : Int) : bits .and .i64 n 65535 = n % 65536 := by rw [bits_and_raw n 65535 16 (by decide)]; unfold wrap64; omega
theorem and_63 (n : Int) : bits .and .i64 n 63 = n % 64 := by rw [bits_and_raw n 63 6 (by decide)]; unfold wrap64; omega
theorem and_15 (n : Int) : bits .and .i64 n 15 = n % 16 := by rw [bits_and_raw n 15 4 (by decide)]; unfold wrap64; omega
theorem and_7 (n : Int) : bits .and .i64 n 7 = n % 8 := by rw [bits_and_raw n 7 3 (by decide)]; unfold wrap64; omega

theorem new_rounds (l : List Int) (d : Nat) : ∀ (k : Nat) (x i : Int), 0 ≤ i → i ≤ 4000 → 4000 - i = d → d < k → ∃ h, spec_l1New.l0 k l x i = some (l, 0, h) := by
  induction d with
  | zero =>
    intro k x i h0 h1 hd hk
    obtain ⟨k, rfl⟩ : ∃ m, k = m + 1 := ⟨k - 1, by omega⟩
    simp only [spec_l1New.l0]
    by_cases hl : i < (l.length : Int)
    · rw [if_pos hl, if_neg (by omega)]; exact ⟨_, rfl⟩
    · rw [if_neg hl]; exact ⟨_, rfl⟩
  | succ d ih =>
    intro k x i h0 h1 hd hk
    obtain ⟨k, rfl⟩ : ∃ m, k = m + 1 := ⟨k - 1, by omega⟩
    simp only [spec_l1New.l0]
    by_cases hl : i < (l.length : Int)
    · rw [if_pos hl, if_pos (by omega), if_pos h0, show wrap64 (i + 1) = i + 1 from wrap_in (by omega) (by omega)]
      exact ih k _ (i + 1) (by omega) (by omega) (by omega) (by omega)
    · rw [if_neg hl]; exact ⟨_, rfl⟩
theorem new_tells (k : Nat) (l : List Int) (hk : 4001 ≤ k) : ∃ h, spec_l1New.f k l = some (l, 0, h) :=
  new_rounds l 4000 k _ 0 (by omega) (by omega) (by omega) (by omega)
theorem byte_tells (s : List Int) (i h : Int) (hs : s.length ≤ maxLen) (h0 : 0 ≤ i) : ∃ r i' h', spec_l1Byte.f s i h = some (r, i', h') ∧ 0 ≤ i' ∧ 0 ≤ r ∧ r ≤ 255 := by
  unfold maxLen at hs
  unfold spec_l1Byte.f
  by_cases hl : i < (s.length : Int)
  · rw [if_pos hl, if_pos h0, show wrap64 (i + 1) = i + 1 from wrap_in (by omega) (by omega), and_255]
    exact ⟨_, _, _, rfl, by omega, by omega, by omega⟩
  · rw [if_neg hl, and_255]
    exact ⟨_, _, _, rfl, by omega, by omega, by omega⟩
theorem tmod_in {a n : Int} (h : 0 ≤ a) (hn : 0 < n) : 0 ≤ Int.tmod a n ∧ Int.tmod a n < n := by
  rw [Int.tmod_eq_emod_of_nonneg h]; exact ⟨Int.emod_nonneg _ (by omega), Int.emod_lt_of_pos _ hn⟩
theorem below_tells (s : List Int) (i h n : Int) (hs : s.length ≤ maxLen) (h0 : 0 ≤ i) (hn : 0 < n) : ∃ r i' h', spec_l1Below.f s i h n = some (r, i', h') ∧ 0 ≤ i' ∧ 0 ≤ r ∧ r < n := by
  unfold spec_l1Below.f
  rw [if_neg (by omega)]
  by_cases hl : n ≤ 256
  · rw [if_pos hl]
    obtain ⟨r, i1, h1, e, hi, hr0, hr1⟩ := byte_tells s i h hs h0
    rw [e]; simp only [Option.bind_some]; rw [if_neg (by omega)]
    have := tmod_in hr0 hn
    exact ⟨_, _, _, rfl, hi, this.1, this.2⟩
  · rw [if_neg hl]
    obtain ⟨r1, i1, h1, e1, hi1, ha1, hb1⟩ := byte_tells s i h hs h0
    rw [e1]; simp only [Option.bind_some]
    obtain ⟨r2, i2, h2, e2, hi2, ha2, hb2⟩ := byte_tells s i1 h1 hs hi1
    rw [e2]; simp only [Option.bind_some]
    obtain ⟨r3, i3, h3, e3, hi3, ha3, hb3⟩ := byte_tells s i2 h2 hs hi2
    rw [e3]; simp only [Option.bind_some]
    obtain ⟨r4, i4, h4, e4, hi4, ha4, hb4⟩ := byte_tells s i3 h3 hs hi3
    rw [e4]; simp only [Option.bind_some]; rw [if_neg (by omega)]
    rw [wrap_in (n := r1 * 16777216) (by omega) (by omega), wrap_in (n := r2 * 65536) (by omega) (by omega), wrap_in (n := r3 * 256) (by omega) (by omega),
      wrap_in (n := r1 * 16777216 + r2 * 65536) (by omega) (by omega), wrap_in (n := r1 * 16777216 + r2 * 65536 + r3 * 256) (by omega) (by omega), wrap_in (n := r1 * 16777216 + r2 * 65536 + r3 * 256 + r4) (by omega) (by omega)]
    have := tmod_in (a := r1 * 16777216 + r2 * 65536 + r3 * 256 + r4) (n := n) (by omega) hn
    exact ⟨_, _, _, rfl, hi4, this.1, this.2⟩
theorem rd_mem (l : List Int) (i : Int) (h0 : 0 ≤ i) (h1 : i < (l.length : Int)) : rd l i ∈ l := by
  unfold rd
  rw [List.getD_eq_getElem?_getD, List.getElem?_eq_getElem (by omega)]
  exact List.getElem_mem _

def Tells {α : Type} (o : Option α) (P : α → Prop) : Prop := ∃ r, o = some r ∧ P r
theorem Tells.some {α : Type} {P : α → Prop} {r : α} (h : P r) : Tells (some r) P := ⟨r, rfl, h⟩
theorem Tells.imp {α : Type} {o : Option α} {P Q : α → Prop} (h : Tells o P) (f : ∀ r, P r → Q r) : Tells o Q := by obtain ⟨r, e, p⟩ := h; exact ⟨r, e, f r p⟩
theorem Tells.bind {α β : Type} {o : Option α} {f : α → Option β} {P : α → Prop} {Q : β → Prop} (h : Tells o P) (k : ∀ r, P r → Tells (f r) Q) : Tells (o.bind f) Q := by
  obtain ⟨r, e, p⟩ := h; rw [e]; exact k r p
theorem Tells.ite {α : Type} {c : Prop} [Decidable c] {a b : Option α} {P : α → Prop} (h : c → Tells a P) (k : ¬ c → Tells b P) : Tells (if c then a else b) P := by
  by_cases g : c
  · rw [if_pos g]; exact h g
  · rw [if_neg g]; exact k g
theorem new_T (k : Nat) (l : List Int) (hk : 4001 ≤ k) (hs : l.length ≤ maxLen) : Tells (spec_l1New.f k l) (fun r => r.1.length ≤ maxLen ∧ 0 ≤ r.2.1) := by
  obtain ⟨h, e⟩ := new_tells k l hk
  exact ⟨_, e, hs, Int.le_refl 0⟩
theorem below_T (s : List Int) (i h n : Int) (hs : s.length ≤ maxLen) (h0 : 0 ≤ i) (hn : 0 < n) : Tells (spec_l1Below.f s i h n) (fun r => 0 ≤ r.2.1 ∧ 0 ≤ r.1 ∧ r.1 < n) := by
  obtain ⟨r, i1, h1, e, hi, hr0, hr1⟩ := below_tells s i h n hs h0 hn
  exact ⟨_, e, hi, hr0, hr1⟩

theorem once_tells (s : List Int) (i h n : Int) (hs : s.length ≤ maxLen) (h0 : 0 ≤ i) (hn : 0 < n) : ∃ r i' h', spec_l1Once.f s i h n = some (r, i', h') ∧ 0 ≤ i' := by
  unfold spec_l1Once.f
  obtain ⟨r, i1, h1, e, hi, hr0, hr1⟩ := below_tells s i h n hs h0 hn
  rw [e]; exact ⟨_, _, _, rfl, hi⟩

theorem once_T (s : List Int) (i h n : Int) (hs : s.length ≤ maxLen) (h0 : 0 ≤ i) (hn : 0 < n) : Tells (spec_l1Once.f s i h n) (fun r => 0 ≤ r.2.1) := by
  obtain ⟨r, i1, h1, e, hi⟩ := once_tells s i h n hs h0 hn
  exact ⟨_, e, hi⟩

theorem right_j1 (k : Nat) (s : List Int) (i h a b c d : Int) (hs : s.length ≤ maxLen) (h0 : 0 ≤ i) : Tells (spec_l2DrawRight.j1 (k + 1) s i h a b c d) (fun r => 0 ≤ r.2.2.2.2.1) := by
  simp only [spec_l2DrawRight.j1]
  repeat' (first
    | ((with_reducible refine Tells.some ?_); first | (dsimp only; omega) | exact True.intro)
    | (with_reducible refine Tells.ite (fun _ => ?_) (fun _ => ?_))
    | ((with_reducible refine Tells.bind (once_T _ _ _ _ ?_ ?_ ?_) ?_); exact hs; omega; omega; intro _ _)
    | ((with_reducible refine Tells.imp (once_T _ _ _ _ ?_ ?_ ?_) ?_); exact hs; omega; omega; intro _ _; first | assumption | omega | (dsimp only at *; omega) | exact True.intro)
    | ((with_reducible refine Tells.bind (below_T _ _ _ _ ?_ ?_ ?_) ?_); exact hs; omega; omega; intro _ _)
    | ((with_reducible refine Tells.imp (below_T _ _ _ _ ?_ ?_ ?_) ?_); exact hs; omega; omega; intro _ _; first | assumption | omega | (dsimp only at *; omega) | exact True.intro))
theorem right_j0 (k : Nat) (s : List Int) (i h a b c d : Int) (hs : s.length ≤ maxLen) (h0 : 0 ≤ i) : Tells (spec_l2DrawRight.j0 (k + 2) s i h a b c d) (fun r => 0 ≤ r.2.2.2.2.1) := by
  simp only [spec_l2DrawRight.j0]
  repeat' (first
    | ((with_reducible refine Tells.some ?_); first | (dsimp only; omega) | exact True.intro)
    | (with_reducible refine Tells.ite (fun _ => ?_) (fun _ => ?_))
    | ((with_reducible refine Tells.bind (once_T _ _ _ _ ?_ ?_ ?_) ?_); exact hs; omega; omega; intro _ _)
    | ((with_reducible refine Tells.imp (once_T _ _ _ _ ?_ ?_ ?_) ?_); exact hs; omega; omega; intro _ _; first | assumption | omega | (dsimp only at *; omega) | exact True.intro)
    | ((with_reducible refine Tells.bind (below_T _ _ _ _ ?_ ?_ ?_) ?_); exact hs; omega; omega; intro _ _)
    | ((with_reducible refine Tells.imp (below_T _ _ _ _ ?_ ?_ ?_) ?_); exact hs; omega; omega; intro _ _; first | assumption | omega | (dsimp only at *; omega) | exact True.intro)
    | ((with_reducible refine Tells.bind (right_j1 _ _ _ _ _ _ _ _ ?_ ?_) ?_); exact hs; omega; intro _ _)
    | ((with_reducible refine Tells.imp (right_j1 _ _ _ _ _ _ _ _ ?_ ?_) ?_); exact hs; omega; intro _ _; first | assumption | omega | (dsimp only at *; omega) | exact True.intro))
theorem right_T (k : Nat) (s : List Int) (i h : Int) (hs : s.length ≤ maxLen) (h0 : 0 ≤ i) : Tells (spec_l2DrawRight.f (k + 2) s i h) (fun r => 0 ≤ r.2.2.2.2.1) := by
  unfold spec_l2DrawRight.f spec_Root.f
  simp only [Option.bind_some]
  repeat' (first
    | ((with_reducible refine Tells.some ?_); first | (dsimp only; omega) | exact True.intro)
    | (with_reducible refine Tells.ite (fun _ => ?_) (fun _ => ?_))
    | ((with_reducible refine Tells.bind (below_T _ _ _ _ ?_ ?_ ?_) ?_); exact hs; omega; omega; intro _ _)
    | ((with_reducible refine Tells.imp (below_T _ _ _ _ ?_ ?_ ?_) ?_); exact hs; omega; omega; intro _ _; first | assumption | omega | (dsimp only at *; omega) | exact True.intro)
    | ((with_reducible refine Tells.bind (right_j0 _ _ _ _ _ _ _ _ ?_ ?_) ?_); exact hs; omega; intro _ _)
    | ((with_reducible refine Tells.imp (right_j0 _ _ _ _ _ _ _ _ ?_ ?_) ?_); exact hs; omega; intro _ _; first | assumption | omega | (dsimp only at *; omega) | exact True.intro))

theorem pick_tells (s : List Int) (i h : Int) (l : List Int) (hs : s.length ≤ maxLen) (h0 : 0 ≤ i) (hl : 0 < (l.length : Int)) : ∃ r i' h', spec_l1PickInt.f s i h l = some (r, i', h') ∧ 0 ≤ i' ∧ r ∈ l := by
  unfold spec_l1PickInt.f
  obtain ⟨r, i1, h1, e, hi, hr0, hr1⟩ := below_tells s i h l.length hs h0 hl
  rw [e]; simp only [Option.bind_some]
  rw [if_pos hr0, if_pos hr1]
  exact ⟨_, _, _, rfl, hi, rd_mem l r hr0 hr1⟩

theorem pick_T (s : List Int) (i h : Int) (l : List Int) (hs : s.length ≤ maxLen) (h0 : 0 ≤ i) (hl : 0 < (l.length : Int)) : Tells (spec_l1PickInt.f s i h l) (fun r => 0 ≤ r.2.1 ∧ r.1 ∈ l) := by
  obtain ⟨r, i1, h1, e, hi, hr⟩ := pick_tells s i h l hs h0 hl
  exact ⟨_, e, hi, hr⟩

theorem key_T (k : Nat) (s : List Int) (i h : Int) (hs : s.length ≤ maxLen) (h0 : 0 ≤ i) : Tells (spec_l2Draw.f (k + 2) s i h) (fun r => 0 ≤ r.2.2.2.2.1) := by
  unfold spec_l2Draw.f
  repeat' (first
    | ((with_reducible refine Tells.some ?_); first | (dsimp only; omega) | exact True.intro)
    | (with_reducible refine Tells.ite (fun _ => ?_) (fun _ => ?_))
    | ((with_reducible refine Tells.bind (right_T _ _ _ _ ?_ ?_) ?_); exact hs; omega; intro _ _)
    | ((with_reducible refine Tells.imp (right_T _ _ _ _ ?_ ?_) ?_); exact hs; omega; intro _ _; first | assumption | omega | (dsimp only at *; omega) | exact True.intro)
    | ((with_reducible refine Tells.bind (below_T _ _ _ _ ?_ ?_ ?_) ?_); exact hs; omega; omega; intro _ _)
    | ((with_reducible refine Tells.imp (below_T _ _ _ _ ?_ ?_ ?_) ?_); exact hs; omega; omega; intro _ _; first | assumption | omega | (dsimp only at *; omega) | exact True.intro)
    | ((with_reducible refine Tells.bind (pick_T _ _ _ _ ?_ ?_ ?_) ?_); exact hs; omega; (first | decide | simp); intro _ _)
    | ((with_reducible refine Tells.imp (pick_T _ _ _ _ ?_ ?_ ?_) ?_); exact hs; omega; (first | decide | simp); intro _ _; first | assumption | omega | (dsimp only at *; omega) | exact True.intro))

theorem spec_in_eq (n lo hi : Int) : spec_l1In.f n lo hi = some (decide (lo ≤ n ∧ n ≤ hi)) := by
  unfold spec_l1In.f; by_cases h : n ≥ lo
  · rw [if_pos h]; simp [show lo ≤ n from h]
  · rw [if_neg h]; simp [show ¬ lo ≤ n from h]

def bOk (b t : Int) : Bool := decide (0 ≤ b ∧ b ≤ t ∧ t ≤ 4096)
theorem bOk_iff (b t : Int) : bOk b t = true ↔ (0 ≤ b ∧ b ≤ t ∧ t ≤ 4096) := by unfold bOk; simp
theorem spec_BoundsOk_eq (a b : Int) : spec_BoundsOk.f a b = some (bOk a b) := by
  unfold spec_BoundsOk.f bOk; rw [spec_in_eq, spec_in_eq]; simp only [Option.bind_some]
  by_cases h : 0 ≤ a ∧ a ≤ 4096
  · rw [if_pos (decide_eq_true h)]
    by_cases h2 : 0 ≤ b ∧ b ≤ 4096
    · rw [if_pos (decide_eq_true h2)]; congr 1; rw [decide_eq_decide]; omega
    · rw [if_neg (by simpa using h2)]; congr 1; symm; simp; omega
  · rw [if_neg (by simpa using h)]; congr 1; symm; simp; omega

theorem shl_of {x e u : Int} (p : Nat) (hu : u = 2 ^ p) (he : e = p) (hp : p ≤ 63) (h0 : -9223372036854775808 ≤ x * u) (h1 : x * u ≤ 9223372036854775807) : shl .i64 x e = x * u := by
  subst hu he
  unfold shl
  rw [i64_bits, wrap_i64', Int.toNat_natCast, Nat.min_eq_left (by omega)]
  exact wrap_in h0 h1
theorem shr_of {x e u : Int} (p : Nat) (hu : u = 2 ^ p) (he : e = p) (hp : p ≤ 63) : shr .i64 x e = x / u := by
  subst hu he
  unfold shr
  rw [i64_bits, Int.toNat_natCast, Nat.min_eq_left (by omega)]

def fits (b t u : Int) : Bool := decide (b / u ≤ 63 ∧ (t - b / u * u + u - 1) / u ≤ 63)
def pkOf (b t e u : Int) : Int × Int × Int × Bool := (e, b / u, (t - b / u * u + u - 1) / u, true)
def packM (b t : Int) : Int × Int × Int × Bool :=
  if bOk b t = true then
    if fits b t 1 = true then pkOf b t 0 1 else if fits b t 2 = true then pkOf b t 1 2 else if fits b t 4 = true then pkOf b t 2 4
    else if fits b t 8 = true then pkOf b t 3 8 else if fits b t 16 = true then pkOf b t 4 16 else if fits b t 32 = true then pkOf b t 5 32
    else if fits b t 64 = true then pkOf b t 6 64 else (0, 0, 0, false)
  else (0, 0, 0, false)
theorem spec_pk_round (k : Nat) {b t e u e1 : Int} (p : Nat) (hu : u = 2 ^ p) (he : e = p) (h1 : e1 = e + 1) (hp : p ≤ 6) (h : 0 ≤ b ∧ b ≤ t ∧ t ≤ 4096) (u0 : 0 < u) (u1 : u ≤ 64)
    (q0 : 0 ≤ b / u) (q1 : b / u * u ≤ b) (q2 : b / u ≤ b) (r0 : 0 ≤ (t - b / u * u + u - 1) / u) (r1 : (t - b / u * u + u - 1) / u ≤ 5000) :
    spec_Pack.l0 (k + 1) b t e = if fits b t u = true then some (pkOf b t e u) else spec_Pack.l0 k b t e1 := by
  have q3 : 0 ≤ b / u * u := Int.mul_nonneg q0 (by omega)
  have hs : shl .i64 1 e = u := by rw [shl_of (u := u) p hu he (by omega) (by omega) (by omega)]; omega
  have hr : ∀ x, shr .i64 x e = x / u := fun x => shr_of p hu he (by omega)
  have hl : shl .i64 (b / u) e = b / u * u := shl_of p hu he (by omega) (by omega) (by omega)
  have w3 : wrap64 (t - b / u * u) = t - b / u * u := wrap_in (by omega) (by omega)
  have w4 : wrap64 (t - b / u * u + u) = t - b / u * u + u := wrap_in (by omega) (by omega)
  have w5 : wrap64 (t - b / u * u + u - 1) = t - b / u * u + u - 1 := wrap_in (by omega) (by omega)
  have w7 : wrap64 (e + 1) = e1 := by rw [h1]; exact wrap_in (by omega) (by omega)
  simp only [spec_Pack.l0]
  rw [hs, hr b, hl, w3, w4, w5, hr, w7, if_pos (by omega), if_pos (by omega)]
  unfold fits pkOf
  by_cases g1 : b / u ≤ 63
  · rw [if_pos g1]
    by_cases g2 : (t - b / u * u + u - 1) / u ≤ 63
    · rw [if_pos g2, if_pos (decide_eq_true ⟨g1, g2⟩)]
    · rw [if_neg g2, if_neg (by simp [g2])]
  · rw [if_neg g1, if_neg (by simp [g1])]
theorem spec_Pack_eq (k : Nat) (a b : Int) : spec_Pack.f (k + 8) a b = some (packM a b) := by
  unfold spec_Pack.f packM
  rw [spec_BoundsOk_eq]; simp only [Option.bind_some]
  by_cases h : bOk a b = true
  · rw [if_pos h, if_pos h]
    have H := (bOk_iff a b).1 h
    rw [spec_pk_round (k + 7) (u := 1) (e1 := 1) 0 (by omega) (by omega) (by omega) (by omega) H (by omega) (by omega) (by omega) (by omega) (by omega) (by omega) (by omega),
      spec_pk_round (k + 6) (u := 2) (e1 := 2) 1 (by omega) (by omega) (by omega) (by omega) H (by omega) (by omega) (by omega) (by omega) (by omega) (by omega) (by omega),
      spec_pk_round (k + 5) (u := 4) (e1 := 3) 2 (by omega) (by omega) (by omega) (by omega) H (by omega) (by omega) (by omega) (by omega) (by omega) (by omega) (by omega),
      spec_pk_round (k + 4) (u := 8) (e1 := 4) 3 (by omega) (by omega) (by omega) (by omega) H (by omega) (by omega) (by omega) (by omega) (by omega) (by omega) (by omega),
      spec_pk_round (k + 3) (u := 16) (e1 := 5) 4 (by omega) (by omega) (by omega) (by omega) H (by omega) (by omega) (by omega) (by omega) (by omega) (by omega) (by omega),
      spec_pk_round (k + 2) (u := 32) (e1 := 6) 5 (by omega) (by omega) (by omega) (by omega) H (by omega) (by omega) (by omega) (by omega) (by omega) (by omega) (by omega),
      spec_pk_round (k + 1) (u := 64) (e1 := 7) 6 (by omega) (by omega) (by omega) (by omega) H (by omega) (by omega) (by omega) (by omega) (by omega) (by omega) (by omega)]
    have hz : spec_Pack.l0 (k + 1) a b 7 = some (0, 0, 0, false) := by simp only [spec_Pack.l0]; rw [if_neg (by omega)]
    rw [hz]
    repeat (first | rfl | (split; rfl))
  · rw [if_neg h, if_neg h]

def mn4 (x : Int) : Int := if x < 4096 then x else 4096
def unpM (e b l : Int) : Int × Int × Bool :=
  if 0 ≤ e ∧ e ≤ 6 ∧ 0 ≤ b ∧ b ≤ 63 ∧ 0 ≤ l ∧ l ≤ 63 then (b * 2 ^ e.toNat, mn4 ((b + l) * 2 ^ e.toNat), true) else (0, 0, false)
theorem pow_le6 {e : Int} (h : 0 ≤ e ∧ e ≤ 6) : 1 ≤ (2 : Int) ^ e.toNat ∧ (2 : Int) ^ e.toNat ≤ 64 := by
  have h' : e = 0 ∨ e = 1 ∨ e = 2 ∨ e = 3 ∨ e = 4 ∨ e = 5 ∨ e = 6 := by omega
  rcases h' with rfl | rfl | rfl | rfl | rfl | rfl | rfl <;> decide
theorem shl_small6 {x e : Int} (h : 0 ≤ e ∧ e ≤ 6) (hx : 0 ≤ x ∧ x ≤ 100000) : shl .i64 x e = x * 2 ^ e.toNat := by
  have hp := pow_le6 h
  have h0 : 0 ≤ x * 2 ^ e.toNat := Int.mul_nonneg hx.1 (by omega)
  have h1 : x * 2 ^ e.toNat ≤ 100000 * 64 := by
    have := Int.mul_le_mul hx.2 hp.2 (by omega) (by omega); omega
  exact shl_of e.toNat rfl (by omega) (by omega) (by omega) (by omega)
theorem spec_Min4 (a : Int) : spec_l1Min.f a 4096 = some (mn4 a) := by unfold spec_l1Min.f mn4; split <;> rfl
theorem spec_Unpack_eq (e b l : Int) : spec_Unpack.f e b l = some (unpM e b l) := by
  unfold spec_Unpack.f unpM
  simp only [spec_in_eq, spec_Min4, Option.bind_some]
  by_cases h1 : 0 ≤ e ∧ e ≤ 6
  · rw [if_pos (decide_eq_true h1)]
    by_cases h2 : 0 ≤ b ∧ b ≤ 63
    · rw [if_pos (decide_eq_true h2)]
      by_cases h3 : 0 ≤ l ∧ l ≤ 63
      · rw [if_pos (decide_eq_true h3), if_pos h1.1, if_pos ⟨h1.1, h1.2, h2.1, h2.2, h3.1, h3.2⟩, shl_small6 h1 ⟨h2.1, by omega⟩,
          wrap_in (n := b + l) (by omega) (by omega), shl_small6 (x := b + l) h1 ⟨by omega, by omega⟩]
      · rw [if_neg (by simpa using h3), if_neg (by omega)]
    · rw [if_neg (by simpa using h2), if_neg (by omega)]
  · rw [if_neg (by simpa using h1), if_neg (by omega)]

def wdOf (b t u : Int) : Int × Int := (b / u * u, mn4 ((b / u + (t - b / u * u + u - 1) / u) * u))
def wideM (b t : Int) : Int × Int :=
  if bOk b t = true then
    if fits b t 1 = true then wdOf b t 1 else if fits b t 2 = true then wdOf b t 2 else if fits b t 4 = true then wdOf b t 4
    else if fits b t 8 = true then wdOf b t 8 else if fits b t 16 = true then wdOf b t 16 else if fits b t 32 = true then wdOf b t 32
    else if fits b t 64 = true then wdOf b t 64 else (0, 4096)
  else (0, 0)
theorem unp_pk {b t e u : Int} (p : Nat) (hu : u = 2 ^ p) (he : e = p) (hp : p ≤ 6) (hf : fits b t u = true) (q0 : 0 ≤ b / u) (r0 : 0 ≤ (t - b / u * u + u - 1) / u) :
    unpM (pkOf b t e u).1 (pkOf b t e u).2.1 (pkOf b t e u).2.2.1 = ((wdOf b t u).1, (wdOf b t u).2, true) := by
  unfold fits at hf
  have hf := of_decide_eq_true hf
  unfold unpM pkOf wdOf
  simp only
  rw [if_pos ⟨by omega, by omega, q0, hf.1, r0, hf.2⟩]
  subst hu he
  rfl
theorem pk_ok (b t e u : Int) : (pkOf b t e u).2.2.2 = true := rfl
theorem wide_pack (b t : Int) : (if (packM b t).2.2.2 = true then ((unpM (packM b t).1 (packM b t).2.1 (packM b t).2.2.1).1, (unpM (packM b t).1 (packM b t).2.1 (packM b t).2.2.1).2.1) else if bOk b t = true then (0, 4096) else (0, 0)) = wideM b t := by
  unfold packM wideM
  by_cases h : bOk b t = true
  · simp only [if_pos h]
    have H := (bOk_iff b t).1 h
    by_cases f1 : fits b t 1 = true
    · simp only [if_pos f1]; rw [if_pos (pk_ok b t 0 1), unp_pk (u := 1) 0 (by omega) (by omega) (by omega) f1 (by omega) (by omega)]
    simp only [if_neg f1]
    by_cases f2 : fits b t 2 = true
    · simp only [if_pos f2]; rw [if_pos (pk_ok b t 1 2), unp_pk (u := 2) 1 (by omega) (by omega) (by omega) f2 (by omega) (by omega)]
    simp only [if_neg f2]
    by_cases f3 : fits b t 4 = true
    · simp only [if_pos f3]; rw [if_pos (pk_ok b t 2 4), unp_pk (u := 4) 2 (by omega) (by omega) (by omega) f3 (by omega) (by omega)]
    simp only [if_neg f3]
    by_cases f4 : fits b t 8 = true
    · simp only [if_pos f4]; rw [if_pos (pk_ok b t 3 8), unp_pk (u := 8) 3 (by omega) (by omega) (by omega) f4 (by omega) (by omega)]
    simp only [if_neg f4]
    by_cases f5 : fits b t 16 = true
    · simp only [if_pos f5]; rw [if_pos (pk_ok b t 4 16), unp_pk (u := 16) 4 (by omega) (by omega) (by omega) f5 (by omega) (by omega)]
    simp only [if_neg f5]
    by_cases f6 : fits b t 32 = true
    · simp only [if_pos f6]; rw [if_pos (pk_ok b t 5 32), unp_pk (u := 32) 5 (by omega) (by omega) (by omega) f6 (by omega) (by omega)]
    simp only [if_neg f6]
    by_cases f7 : fits b t 64 = true
    · simp only [if_pos f7]; rw [if_pos (pk_ok b t 6 64), unp_pk (u := 64) 6 (by omega) (by omega) (by omega) f7 (by omega) (by omega)]
    simp only [if_neg f7]
    rw [if_neg (by decide)]
  · simp only [if_neg h]
    rw [if_neg (by decide)]
theorem pack_bOk {b t : Int} (h : ¬ bOk b t = true) : (packM b t).2.2.2 = false := by unfold packM; rw [if_neg h]
theorem spec_Wide_eq (k : Nat) (a b : Int) : spec_Wide.f (k + 8) a b = some (wideM a b) := by
  unfold spec_Wide.f
  rw [spec_BoundsOk_eq, spec_Pack_eq]; simp only [Option.bind_some, spec_Unpack_eq]
  rw [← wide_pack a b]
  by_cases h : (packM a b).2.2.2 = true
  · rw [if_pos h, if_pos h]
  · rw [if_neg h, if_neg h]; split <;> rfl

def exactM (b t : Int) : Bool := bOk b t && decide ((wideM b t).1 = b) && decide ((wideM b t).2 = t)
theorem spec_Exact_eq (k : Nat) (a b : Int) : spec_Exact.f (k + 8) a b = some (exactM a b) := by
  unfold spec_Exact.f exactM
  rw [spec_BoundsOk_eq, spec_Wide_eq]; simp only [Option.bind_some]
  cases bOk a b <;> simp only [Bool.false_and, Bool.true_and, if_true, if_false, Bool.false_eq_true]
  by_cases h : (wideM a b).1 = a
  · rw [if_pos h]; simp [h]; by_cases h2 : (wideM a b).2 = b <;> simp [h2]
  · rw [if_neg h]; simp [h]

theorem toNat_wrap (v : BitVec 64) : IntKind.i64.wrap (v.toNat : Int) = v.toInt := by
  rw [IntKind.wrap_i64, BitVec.toInt_eq_toNat_cond]
  have := v.isLt
  split <;> omega
theorem ofInt_toInt {x : Int} (h0 : -9223372036854775808 ≤ x) (h1 : x ≤ 9223372036854775807) : (BitVec.ofInt 64 x).toInt = x := by
  rw [← toNat_wrap, BitVec.toNat_ofInt, IntKind.wrap_i64]
  omega
theorem bv_sub (a b : BitVec 64) : b &&& a = a ↔ a &&& ~~~b = 0#64 := by
  constructor
  · intro h
    rw [← h]
    ext i hi
    simp
    intro h1 h2
    simp [h1]
  · intro h
    ext i hi
    have := congrArg (fun v => v[i]) h
    simp at this ⊢
    exact this
theorem bits_and_bv (x y : Int) : bits .and .i64 x y = (BitVec.ofInt 64 x &&& BitVec.ofInt 64 y).toInt := toNat_wrap _
theorem bits_andNot_bv (x y : Int) : bits .andNot .i64 x y = (BitVec.ofInt 64 x &&& ~~~(BitVec.ofInt 64 y)).toInt := toNat_wrap _
theorem toInt_zero_iff (v : BitVec 64) : v.toInt = 0 ↔ v = 0#64 := by
  constructor
  · intro h; exact BitVec.eq_of_toInt_eq (by rw [h]; rfl)
  · rintro rfl; rfl
theorem sub_iff {p' : Int} (p : Int) (h0 : -9223372036854775808 ≤ p') (h1 : p' ≤ 9223372036854775807) : bits .and .i64 p p' = p' ↔ bits .andNot .i64 p' p = 0 := by
  rw [bits_and_bv, bits_andNot_bv, toInt_zero_iff, ← bv_sub]
  constructor
  · intro h; exact BitVec.eq_of_toInt_eq (by rw [h, ofInt_toInt h0 h1])
  · intro h; rw [h, ofInt_toInt h0 h1]
theorem sub_trans {a b c : Int} (h : bits .andNot .i64 b a = 0) (k : bits .andNot .i64 c b = 0) : bits .andNot .i64 c a = 0 := by
  rw [bits_andNot_bv, toInt_zero_iff] at *
  generalize BitVec.ofInt 64 a = x at *
  generalize BitVec.ofInt 64 b = y at *
  generalize BitVec.ofInt 64 c = z at *
  ext i hi
  have h1 := congrArg (fun v => v[i]) h
  have h2 := congrArg (fun v => v[i]) k
  simp at h1 h2 ⊢
  exact fun h3 => h1 (h2 h3)
theorem sub_refl (a : Int) : bits .andNot .i64 a a = 0 := by
  rw [bits_andNot_bv, toInt_zero_iff]
  ext i hi
  simp
theorem and_sub (a b : Int) : bits .andNot .i64 (bits .and .i64 a b) a = 0 := by
  rw [bits_andNot_bv, toInt_zero_iff, bits_and_bv, BitVec.ofInt_toInt]
  ext i hi
  simp
  intro h1 h2
  simp [h1]
theorem and_sub' (a b : Int) : bits .andNot .i64 (bits .and .i64 a b) b = 0 := by
  rw [bits_andNot_bv, toInt_zero_iff, bits_and_bv, BitVec.ofInt_toInt]
  ext i hi
  simp
theorem and_le63 {a : Int} (b : Int) (h : 0 ≤ a ∧ a ≤ 63) : 0 ≤ bits .and .i64 a b ∧ bits .and .i64 a b ≤ 63 := by
  rw [bits_and_bv]
  have h1 : (BitVec.ofInt 64 a &&& BitVec.ofInt 64 b).toNat ≤ 63 := by
    rw [BitVec.toNat_and]
    refine Nat.le_trans Nat.and_le_left ?_
    rw [BitVec.toNat_ofInt]
    omega
  rw [BitVec.toInt_eq_toNat_cond]
  split <;> omega
theorem sub63 {a : Int} (h : 0 ≤ a ∧ a ≤ 63) : bits .andNot .i64 a 63 = 0 := by
  have h' : a = 0 ∨ a = 1 ∨ a = 2 ∨ a = 3 ∨ 4 ≤ a := by omega
  rw [← sub_iff 63 (by omega) (by omega), bits_and_bv]
  have h1 : (BitVec.ofInt 64 63 &&& BitVec.ofInt 64 a).toNat = a.toNat := by
    rw [BitVec.toNat_and, show (BitVec.ofInt 64 63).toNat = 2 ^ 6 - 1 from by decide, Nat.and_comm, Nat.and_two_pow_sub_one_eq_mod, BitVec.toNat_ofInt]
    omega
  rw [BitVec.toInt_eq_toNat_cond, h1]
  split <;> omega

def kOk (b t p s : Int) : Bool := exactM b t && (decide (0 ≤ p ∧ p ≤ 63) && decide (0 ≤ s ∧ s ≤ 7))
theorem kOk_iff (b t p s : Int) : kOk b t p s = true ↔ (exactM b t = true ∧ (0 ≤ p ∧ p ≤ 63) ∧ (0 ≤ s ∧ s ≤ 7)) := by
  unfold kOk; simp only [Bool.and_eq_true, decide_eq_true_eq]

theorem spec_KeyOk_eq (k : Nat) (b t p s : Int) : spec_KeyOk.f (k + 8) b t p s = some (kOk b t p s) := by
  unfold spec_KeyOk.f kOk
  simp only [spec_Exact_eq, spec_in_eq, Option.bind_some]
  cases exactM b t <;> simp only [Bool.false_and, Bool.true_and, if_true, if_false, Bool.false_eq_true]
  cases decide (0 ≤ p ∧ p ≤ 63) <;> simp

def plainM (n : Int) : Int × Bool × Int × Int × Int × Int := (n % 65536, false, 0, 0, 0, 0)
theorem spec_Plain_eq (n : Int) : spec_Plain.f n = some (plainM n) := by unfold spec_Plain.f plainM; rw [and_65535]

def keyWordM (b t p s n : Int) : Int × Bool × Int × Int × Int × Int := if kOk b t p s = true then (n % 65536, true, b, t, p, s) else plainM n
theorem spec_KeyWord_eq (k : Nat) (b t p s n : Int) : spec_KeyWord.f (k + 8) b t p s n = some (keyWordM b t p s n) := by
  unfold spec_KeyWord.f keyWordM
  simp only [spec_KeyOk_eq, spec_Plain_eq, Option.bind_some]
  split <;> rfl

theorem keyWord_T (k : Nat) (b t p s n : Int) : Tells (spec_KeyWord.f (k + 8) b t p s n) (fun _ => True) := ⟨_, spec_KeyWord_eq k b t p s n, True.intro⟩
theorem plain_T (n : Int) : Tells (spec_Plain.f n) (fun _ => True) := ⟨_, spec_Plain_eq n, True.intro⟩
theorem wright_T (k : Nat) (s : List Int) (i h : Int) (hs : s.length ≤ maxLen) (h0 : 0 ≤ i) : Tells (spec_l3DrawRight.f (k + 8) s i h) (fun r => 0 ≤ r.2.2.2.2.2.2.1) := by
  unfold spec_l3DrawRight.f
  repeat' (first
    | ((with_reducible refine Tells.some ?_); first | (dsimp only; omega) | exact True.intro)
    | (with_reducible refine Tells.ite (fun _ => ?_) (fun _ => ?_))
    | ((with_reducible refine Tells.bind (once_T _ _ _ _ ?_ ?_ ?_) ?_); exact hs; omega; omega; intro _ _)
    | ((with_reducible refine Tells.imp (once_T _ _ _ _ ?_ ?_ ?_) ?_); exact hs; omega; omega; intro _ _; first | assumption | omega | (dsimp only at *; omega) | exact True.intro)
    | ((with_reducible refine Tells.bind (pick_T _ _ _ _ ?_ ?_ ?_) ?_); exact hs; omega; (first | decide | simp); intro _ _)
    | ((with_reducible refine Tells.imp (pick_T _ _ _ _ ?_ ?_ ?_) ?_); exact hs; omega; (first | decide | simp); intro _ _; first | assumption | omega | (dsimp only at *; omega) | exact True.intro)
    | ((with_reducible refine Tells.bind (plain_T _) ?_); intro _ _)
    | ((with_reducible refine Tells.imp (plain_T _) ?_); intro _ _; first | assumption | omega | (dsimp only at *; omega) | exact True.intro)
    | ((with_reducible refine Tells.bind (right_T _ _ _ _ ?_ ?_) ?_); exact hs; omega; intro _ _)
    | ((with_reducible refine Tells.imp (right_T _ _ _ _ ?_ ?_) ?_); exact hs; omega; intro _ _; first | assumption | omega | (dsimp only at *; omega) | exact True.intro)
    | ((with_reducible refine Tells.bind (keyWord_T _ _ _ _ _ _) ?_); intro _ _)
    | ((with_reducible refine Tells.imp (keyWord_T _ _ _ _ _ _) ?_); intro _ _; first | assumption | omega | (dsimp only at *; omega) | exact True.intro))
theorem word_T (k : Nat) (s : List Int) (i h : Int) (hs : s.length ≤ maxLen) (h0 : 0 ≤ i) : Tells (spec_l3Draw.f (k + 8) s i h) (fun r => 0 ≤ r.2.2.2.2.2.2.1) := by
  unfold spec_l3Draw.f
  repeat' (first
    | ((with_reducible refine Tells.some ?_); first | (dsimp only; omega) | exact True.intro)
    | (with_reducible refine Tells.ite (fun _ => ?_) (fun _ => ?_))
    | ((with_reducible refine Tells.bind (wright_T _ _ _ _ ?_ ?_) ?_); exact hs; omega; intro _ _)
    | ((with_reducible refine Tells.imp (wright_T _ _ _ _ ?_ ?_) ?_); exact hs; omega; intro _ _; first | assumption | omega | (dsimp only at *; omega) | exact True.intro)
    | ((with_reducible refine Tells.bind (below_T _ _ _ _ ?_ ?_ ?_) ?_); exact hs; omega; omega; intro _ _)
    | ((with_reducible refine Tells.imp (below_T _ _ _ _ ?_ ?_ ?_) ?_); exact hs; omega; omega; intro _ _; first | assumption | omega | (dsimp only at *; omega) | exact True.intro)
    | ((with_reducible refine Tells.bind (pick_T _ _ _ _ ?_ ?_ ?_) ?_); exact hs; omega; (first | decide | simp); intro _ _)
    | ((with_reducible refine Tells.imp (pick_T _ _ _ _ ?_ ?_ ?_) ?_); exact hs; omega; (first | decide | simp); intro _ _; first | assumption | omega | (dsimp only at *; omega) | exact True.intro)
    | ((with_reducible refine Tells.bind (key_T _ _ _ _ ?_ ?_) ?_); exact hs; omega; intro _ _)
    | ((with_reducible refine Tells.imp (key_T _ _ _ _ ?_ ?_) ?_); exact hs; omega; intro _ _; first | assumption | omega | (dsimp only at *; omega) | exact True.intro))

def hR (op : Int) : Bool := decide ((1 ≤ op ∧ op ≤ 10) ∨ op = 12)
def hA (op : Int) : Bool := decide (2 ≤ op ∧ op ≤ 14)
def hB (op : Int) : Bool := decide (op = 2 ∨ (4 ≤ op ∧ op ≤ 8) ∨ op = 11)
def hN (op : Int) : Bool := decide (op = 1 ∨ op = 6 ∨ op = 10 ∨ op = 11 ∨ op = 13)
def hOp (op : Int) : Bool := decide (1 ≤ op ∧ op ≤ 15)
theorem op_cases (op : Int) : op = 1 ∨ op = 2 ∨ op = 3 ∨ op = 4 ∨ op = 5 ∨ op = 6 ∨ op = 7 ∨ op = 8 ∨ op = 9 ∨ op = 10 ∨ op = 11 ∨ op = 12 ∨ op = 13 ∨ op = 14 ∨ op = 15 ∨ ¬ (1 ≤ op ∧ op ≤ 15) := by omega
theorem has_bits4 (op : Int) : ∃ t, spec_l6Has.f op = some t ∧ ((bits .and .i64 t 1) != 0) = hR op ∧ ((bits .and .i64 t 2) != 0) = hA op ∧ ((bits .and .i64 t 4) != 0) = hB op ∧ ((bits .and .i64 t 8) = 0 ↔ hN op = false) := by
  rcases op_cases op with rfl | rfl | rfl | rfl | rfl | rfl | rfl | rfl | rfl | rfl | rfl | rfl | rfl | rfl | rfl | h
  case inr.inr.inr.inr.inr.inr.inr.inr.inr.inr.inr.inr.inr.inr.inr =>
    refine ⟨0, ?_, ?_, ?_, ?_, ?_⟩
    · unfold spec_l6Has.f; rw [spec_in_eq]; simp only [Option.bind_some]; rw [if_neg (by simpa using h)]
    · have : hR op = false := by unfold hR; simp; omega
      rw [this]; decide +kernel
    · have : hA op = false := by unfold hA; simp; omega
      rw [this]; decide +kernel
    · have : hB op = false := by unfold hB; simp; omega
      rw [this]; decide +kernel
    · have : hN op = false := by unfold hN; simp; omega
      rw [this]; decide +kernel
  all_goals exact ⟨_, rfl, by decide +kernel, by decide +kernel, by decide +kernel, by decide +kernel⟩

theorem has_T (op : Int) : Tells (spec_l6Has.f op) (fun _ => True) := by
  obtain ⟨t, e, _⟩ := has_bits4 op
  exact ⟨t, e, True.intro⟩
theorem ins_j1 (k : Nat) (x5 x6 x8 : Int) (s : List Int) (i h a b c d e : Int) (h0 : 0 ≤ i) : Tells (spec_l6DrawIns.j1 (k + 1) x5 x6 x8 s i h a b c d e) (fun r => 0 ≤ r.2.2.2.2.2.1) := by
  simp only [spec_l6DrawIns.j1]
  repeat' (first | ((with_reducible refine Tells.some ?_); first | (dsimp only; omega) | exact True.intro) | (with_reducible refine Tells.ite (fun _ => ?_) (fun _ => ?_)))
theorem ins_j0 (k : Nat) (x4 x5 x6 x8 : Int) (s : List Int) (i h a b c d e : Int) (h0 : 0 ≤ i) : Tells (spec_l6DrawIns.j0 (k + 2) x4 x5 x6 x8 s i h a b c d e) (fun r => 0 ≤ r.2.2.2.2.2.1) := by
  simp only [spec_l6DrawIns.j0]
  exact Tells.ite (fun _ => ins_j1 _ _ _ _ _ _ _ _ _ _ _ _ h0) (fun _ => ins_j1 _ _ _ _ _ _ _ _ _ _ _ _ h0)
theorem ins_T (k : Nat) (s : List Int) (i h : Int) (hs : s.length ≤ maxLen) (h0 : 0 ≤ i) : Tells (spec_l6DrawIns.f (k + 2) s i h) (fun r => 0 ≤ r.2.2.2.2.2.1) := by
  unfold spec_l6DrawIns.f
  refine Tells.bind (below_T _ _ _ _ hs h0 (by omega)) (fun r1 p1 => ?_)
  refine Tells.bind (below_T _ _ _ _ hs p1.1 (by omega)) (fun r2 p2 => ?_)
  refine Tells.bind (below_T _ _ _ _ hs p2.1 (by omega)) (fun r3 p3 => ?_)
  refine Tells.bind (pick_T _ _ _ _ hs p3.1 (by simp)) (fun r4 p4 => ?_)
  refine Tells.bind (pick_T _ _ _ _ hs p4.1 (by simp)) (fun r5 p5 => ?_)
  refine Tells.bind (has_T _) (fun r6 _ => ?_)
  exact Tells.ite (fun _ => ins_j0 _ _ _ _ _ _ _ _ _ _ _ _ _ p5.1) (fun _ => ins_j0 _ _ _ _ _ _ _ _ _ _ _ _ _ p5.1)
theorem spoil_T (s : List Int) (i h a b c d e : Int) (hs : s.length ≤ maxLen) (h0 : 0 ≤ i) : Tells (spec_l6Spoil.f s i h a b c d e) (fun _ => True) := by
  unfold spec_l6Spoil.f
  repeat' (first
    | ((with_reducible refine Tells.some ?_); first | (dsimp only; omega) | exact True.intro)
    | (with_reducible refine Tells.ite (fun _ => ?_) (fun _ => ?_))
    | ((with_reducible refine Tells.bind (below_T _ _ _ _ ?_ ?_ ?_) ?_); exact hs; omega; omega; intro _ _)
    | ((with_reducible refine Tells.imp (below_T _ _ _ _ ?_ ?_ ?_) ?_); exact hs; omega; omega; intro _ _; first | assumption | omega | (dsimp only at *; omega) | exact True.intro)
    | ((with_reducible refine Tells.bind (pick_T _ _ _ _ ?_ ?_ ?_) ?_); exact hs; omega; (first | decide | simp); intro _ _)
    | ((with_reducible refine Tells.imp (pick_T _ _ _ _ ?_ ?_ ?_) ?_); exact hs; omega; (first | decide | simp); intro _ _; first | assumption | omega | (dsimp only at *; omega) | exact True.intro))
theorem one_T (k : Nat) (l : List Int) (hs : l.length ≤ maxLen) : Tells (spec_l6DrawOne.f (k + 4001) l) (fun _ => True) := by
  unfold spec_l6DrawOne.f
  refine Tells.bind (new_T _ _ (by omega) hs) (fun r hr => ?_)
  refine Tells.bind (ins_T (k + 3999) _ _ _ hr.1 hr.2) (fun r1 p1 => ?_)
  refine Tells.bind (once_T _ _ _ _ hr.1 p1 (by omega)) (fun r2 p2 => ?_)
  refine Tells.ite (fun _ => ?_) (fun _ => Tells.some True.intro)
  exact Tells.bind (spoil_T _ _ _ _ _ _ _ _ hr.1 p2) (fun _ _ => Tells.some True.intro)

end Go.Proofs.Ytpcladboobfkhaa.Pure
