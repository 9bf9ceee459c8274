/- The program's Write and the reference's give the same memory and code at all memories, words and numbers, memory of their own each time; no conditions. -/
import Derived.Test.YtbpalnplcgmjjaaPFnExactWritex9
namespace Go.Proofs.Ytbpalnplcgmjjaa.Pure
open Go.RowKit Go.Proofs.Ytbpalnplcgmjjaa.PFnExactWrite Go.Proofs.YtbpalnplcgmjjaaW.PrintWords Go.Proofs.YtbpalnplcgmjjaaW.PrintLast Go.Proofs.YtbpalnplcgmjjaaW.PrintMore
set_option linter.unusedVariables false
set_option linter.unusedSimpArgs false

def laws_FnExactWrite.Mine : Prop := ∀ (l0_0 : List (S29)) (l0_1 : List Bool) (a1_0 : Int) (a1_1 : Bool) (a1_2 : Int) (a1_3 : Int) (a1_4 : Int) (a1_5 : Int) (a2 : Int) (a3_0 : Int) (a3_1 : Bool) (a3_2 : Int) (a3_3 : Int) (a3_4 : Int) (a3_5 : Int), l0_0.length ≤ maxLen → l0_1.length ≤ maxLen → (Lit.int .i64 a1_0).wf = true → (Lit.int .i64 a1_2).wf = true → (Lit.int .i64 a1_3).wf = true → (Lit.int .i64 a1_4).wf = true → (Lit.int .i64 a1_5).wf = true → (Lit.int .i64 a2).wf = true → (Lit.int .i64 a3_0).wf = true → (Lit.int .i64 a3_2).wf = true → (Lit.int .i64 a3_3).wf = true → (Lit.int .i64 a3_4).wf = true → (Lit.int .i64 a3_5).wf = true → ∃ k, laws_FnExactWrite.f k l0_0 l0_1 a1_0 a1_1 a1_2 a1_3 a1_4 a1_5 a2 a3_0 a3_1 a3_2 a3_3 a3_4 a3_5 = some true

theorem i64_bits : IntKind.i64.bits = 64 := rfl
theorem wrap_i64' (n : Int) : IntKind.i64.wrap n = wrap64 n := by unfold wrap64; exact IntKind.wrap_i64 n
theorem wrap_in {n : Int} (h0 : -9223372036854775808 ≤ n) (h1 : n ≤ 9223372036854775807) : wrap64 n = n := by unfold wrap64; omega
theorem wrap_lo (n : Int) : -9223372036854775808 ≤ wrap64 n ∧ wrap64 n ≤ 9223372036854775807 := by unfold wrap64; omega

theorem impl_in_eq (n lo hi : Int) : impl_in.f n lo hi = some (decide (lo ≤ n ∧ n ≤ hi)) := by
  unfold impl_in.f; by_cases h : n ≥ lo
  · rw [if_pos h]; simp [show lo ≤ n from h]
  · rw [if_neg h]; simp [show ¬ lo ≤ n from h]
theorem spec_in_eq (n lo hi : Int) : spec_l1In.f n lo hi = some (decide (lo ≤ n ∧ n ≤ hi)) := by
  unfold spec_l1In.f; by_cases h : n ≥ lo
  · rw [if_pos h]; simp [show lo ≤ n from h]
  · rw [if_neg h]; simp [show ¬ lo ≤ n from h]

def bOk (b t : Int) : Bool := decide (0 ≤ b ∧ b ≤ t ∧ t ≤ 4096)
theorem bOk_iff (b t : Int) : bOk b t = true ↔ (0 ≤ b ∧ b ≤ t ∧ t ≤ 4096) := by unfold bOk; simp
theorem impl_BoundsOk_eq (a b : Int) : impl_BoundsOk.f a b = some (bOk a b) := by
  unfold impl_BoundsOk.f bOk; rw [impl_in_eq]; simp only [Option.bind_some]
  by_cases h : 0 ≤ a ∧ a ≤ b
  · rw [if_pos (decide_eq_true h)]; simp [h.1, h.2]
  · rw [if_neg (by simpa using h)]; congr 1; symm; simp; omega
theorem spec_BoundsOk_eq (a b : Int) : spec_BoundsOk.f a b = some (bOk a b) := by
  unfold spec_BoundsOk.f bOk; rw [spec_in_eq, spec_in_eq]; simp only [Option.bind_some]
  by_cases h : 0 ≤ a ∧ a ≤ 4096
  · rw [if_pos (decide_eq_true h)]
    by_cases h2 : 0 ≤ b ∧ b ≤ 4096
    · rw [if_pos (decide_eq_true h2)]; congr 1; rw [decide_eq_decide]; omega
    · rw [if_neg (by simpa using h2)]; congr 1; symm; simp; omega
  · rw [if_neg (by simpa using h)]; congr 1; symm; simp; omega

theorem shl_of {x e u : Int} (p : Nat) (hu : u = 2 ^ p) (he : e = p) (hp : p ≤ 63) (h0 : -9223372036854775808 ≤ x * u) (h1 : x * u ≤ 9223372036854775807) : shl .i64 x e = x * u := by
  subst hu he
  unfold shl
  rw [i64_bits, wrap_i64', Int.toNat_natCast, Nat.min_eq_left (by omega)]
  exact wrap_in h0 h1
theorem shr_of {x e u : Int} (p : Nat) (hu : u = 2 ^ p) (he : e = p) (hp : p ≤ 63) : shr .i64 x e = x / u := by
  subst hu he
  unfold shr
  rw [i64_bits, Int.toNat_natCast, Nat.min_eq_left (by omega)]

def fits (b t u : Int) : Bool := decide (b / u ≤ 63 ∧ (t - b / u * u + u - 1) / u ≤ 63)
def pkOf (b t e u : Int) : Int × Int × Int × Bool := (e, b / u, (t - b / u * u + u - 1) / u, true)
def packM (b t : Int) : Int × Int × Int × Bool :=
  if bOk b t = true then
    if fits b t 1 = true then pkOf b t 0 1 else if fits b t 2 = true then pkOf b t 1 2 else if fits b t 4 = true then pkOf b t 2 4
    else if fits b t 8 = true then pkOf b t 3 8 else if fits b t 16 = true then pkOf b t 4 16 else if fits b t 32 = true then pkOf b t 5 32
    else if fits b t 64 = true then pkOf b t 6 64 else (0, 0, 0, false)
  else (0, 0, 0, false)
theorem impl_pk_round (k : Nat) {b t e u e1 : Int} (p : Nat) (hu : u = 2 ^ p) (he : e = p) (h1 : e1 = e + 1) (hp : p ≤ 6) (h : 0 ≤ b ∧ b ≤ t ∧ t ≤ 4096) (u0 : 0 < u) (u1 : u ≤ 64)
    (q0 : 0 ≤ b / u) (q1 : b / u * u ≤ b) (q2 : b / u ≤ b) (r0 : 0 ≤ (t - b / u * u + u - 1) / u) (r1 : (t - b / u * u + u - 1) / u ≤ 5000) :
    impl_Pack.l0 (k + 1) b t e = if fits b t u = true then some (pkOf b t e u) else impl_Pack.l0 k b t e1 := by
  have hs : shl .i64 1 e = u := by rw [shl_of (u := u) p hu he (by omega) (by omega) (by omega)]; omega
  have q3 : 0 ≤ b / u * u := Int.mul_nonneg q0 (by omega)
  have w1 : wrap64 (Int.tdiv b u) = b / u := by rw [Int.tdiv_eq_ediv_of_nonneg (by omega)]; exact wrap_in (by omega) (by omega)
  have w2 : wrap64 (b / u * u) = b / u * u := wrap_in (by omega) (by omega)
  have w3 : wrap64 (t - b / u * u) = t - b / u * u := wrap_in (by omega) (by omega)
  have w4 : wrap64 (t - b / u * u + u) = t - b / u * u + u := wrap_in (by omega) (by omega)
  have w5 : wrap64 (t - b / u * u + u - 1) = t - b / u * u + u - 1 := wrap_in (by omega) (by omega)
  have w6 : wrap64 (Int.tdiv (t - b / u * u + u - 1) u) = (t - b / u * u + u - 1) / u := by
    rw [Int.tdiv_eq_ediv_of_nonneg (by omega)]; exact wrap_in (by omega) (by omega)
  have w7 : wrap64 (e + 1) = e1 := by rw [h1]; exact wrap_in (by omega) (by omega)
  simp only [impl_Pack.l0]
  rw [hs, w1, w2, w3, w4, w5, w6, w7, if_pos (by omega), if_pos (by omega), if_neg (by omega)]
  unfold fits pkOf
  by_cases g1 : b / u ≤ 63
  · rw [if_pos g1]
    by_cases g2 : (t - b / u * u + u - 1) / u ≤ 63
    · rw [if_pos g2, if_pos (decide_eq_true ⟨g1, g2⟩)]
    · rw [if_neg g2, if_neg (by simp [g2])]
  · rw [if_neg g1, if_neg (by simp [g1])]
theorem spec_pk_round (k : Nat) {b t e u e1 : Int} (p : Nat) (hu : u = 2 ^ p) (he : e = p) (h1 : e1 = e + 1) (hp : p ≤ 6) (h : 0 ≤ b ∧ b ≤ t ∧ t ≤ 4096) (u0 : 0 < u) (u1 : u ≤ 64)
    (q0 : 0 ≤ b / u) (q1 : b / u * u ≤ b) (q2 : b / u ≤ b) (r0 : 0 ≤ (t - b / u * u + u - 1) / u) (r1 : (t - b / u * u + u - 1) / u ≤ 5000) :
    spec_Pack.l0 (k + 1) b t e = if fits b t u = true then some (pkOf b t e u) else spec_Pack.l0 k b t e1 := by
  have q3 : 0 ≤ b / u * u := Int.mul_nonneg q0 (by omega)
  have hs : shl .i64 1 e = u := by rw [shl_of (u := u) p hu he (by omega) (by omega) (by omega)]; omega
  have hr : ∀ x, shr .i64 x e = x / u := fun x => shr_of p hu he (by omega)
  have hl : shl .i64 (b / u) e = b / u * u := shl_of p hu he (by omega) (by omega) (by omega)
  have w3 : wrap64 (t - b / u * u) = t - b / u * u := wrap_in (by omega) (by omega)
  have w4 : wrap64 (t - b / u * u + u) = t - b / u * u + u := wrap_in (by omega) (by omega)
  have w5 : wrap64 (t - b / u * u + u - 1) = t - b / u * u + u - 1 := wrap_in (by omega) (by omega)
  have w7 : wrap64 (e + 1) = e1 := by rw [h1]; exact wrap_in (by omega) (by omega)
  simp only [spec_Pack.l0]
  rw [hs, hr b, hl, w3, w4, w5, hr, w7, if_pos (by omega), if_pos (by omega)]
  unfold fits pkOf
  by_cases g1 : b / u ≤ 63
  · rw [if_pos g1]
    by_cases g2 : (t - b / u * u + u - 1) / u ≤ 63
    · rw [if_pos g2, if_pos (decide_eq_true ⟨g1, g2⟩)]
    · rw [if_neg g2, if_neg (by simp [g2])]
  · rw [if_neg g1, if_neg (by simp [g1])]
theorem impl_Pack_eq (k : Nat) (a b : Int) : impl_Pack.f (k + 8) a b = some (packM a b) := by
  unfold impl_Pack.f packM
  rw [impl_BoundsOk_eq]; simp only [Option.bind_some]
  by_cases h : bOk a b = true
  · rw [if_pos h, if_pos h]
    have H := (bOk_iff a b).1 h
    rw [impl_pk_round (k + 7) (u := 1) (e1 := 1) 0 (by omega) (by omega) (by omega) (by omega) H (by omega) (by omega) (by omega) (by omega) (by omega) (by omega) (by omega),
      impl_pk_round (k + 6) (u := 2) (e1 := 2) 1 (by omega) (by omega) (by omega) (by omega) H (by omega) (by omega) (by omega) (by omega) (by omega) (by omega) (by omega),
      impl_pk_round (k + 5) (u := 4) (e1 := 3) 2 (by omega) (by omega) (by omega) (by omega) H (by omega) (by omega) (by omega) (by omega) (by omega) (by omega) (by omega),
      impl_pk_round (k + 4) (u := 8) (e1 := 4) 3 (by omega) (by omega) (by omega) (by omega) H (by omega) (by omega) (by omega) (by omega) (by omega) (by omega) (by omega),
      impl_pk_round (k + 3) (u := 16) (e1 := 5) 4 (by omega) (by omega) (by omega) (by omega) H (by omega) (by omega) (by omega) (by omega) (by omega) (by omega) (by omega),
      impl_pk_round (k + 2) (u := 32) (e1 := 6) 5 (by omega) (by omega) (by omega) (by omega) H (by omega) (by omega) (by omega) (by omega) (by omega) (by omega) (by omega),
      impl_pk_round (k + 1) (u := 64) (e1 := 7) 6 (by omega) (by omega) (by omega) (by omega) H (by omega) (by omega) (by omega) (by omega) (by omega) (by omega) (by omega)]
    have hz : impl_Pack.l0 (k + 1) a b 7 = some (0, 0, 0, false) := by simp only [impl_Pack.l0]; rw [if_neg (by omega)]
    rw [hz]
    repeat (first | rfl | (split; rfl))
  · rw [if_neg h, if_neg h]
theorem spec_Pack_eq (k : Nat) (a b : Int) : spec_Pack.f (k + 8) a b = some (packM a b) := by
  unfold spec_Pack.f packM
  rw [spec_BoundsOk_eq]; simp only [Option.bind_some]
  by_cases h : bOk a b = true
  · rw [if_pos h, if_pos h]
    have H := (bOk_iff a b).1 h
    rw [spec_pk_round (k + 7) (u := 1) (e1 := 1) 0 (by omega) (by omega) (by omega) (by omega) H (by omega) (by omega) (by omega) (by omega) (by omega) (by omega) (by omega),
      spec_pk_round (k + 6) (u := 2) (e1 := 2) 1 (by omega) (by omega) (by omega) (by omega) H (by omega) (by omega) (by omega) (by omega) (by omega) (by omega) (by omega),
      spec_pk_round (k + 5) (u := 4) (e1 := 3) 2 (by omega) (by omega) (by omega) (by omega) H (by omega) (by omega) (by omega) (by omega) (by omega) (by omega) (by omega),
      spec_pk_round (k + 4) (u := 8) (e1 := 4) 3 (by omega) (by omega) (by omega) (by omega) H (by omega) (by omega) (by omega) (by omega) (by omega) (by omega) (by omega),
      spec_pk_round (k + 3) (u := 16) (e1 := 5) 4 (by omega) (by omega) (by omega) (by omega) H (by omega) (by omega) (by omega) (by omega) (by omega) (by omega) (by omega),
      spec_pk_round (k + 2) (u := 32) (e1 := 6) 5 (by omega) (by omega) (by omega) (by omega) H (by omega) (by omega) (by omega) (by omega) (by omega) (by omega) (by omega),
      spec_pk_round (k + 1) (u := 64) (e1 := 7) 6 (by omega) (by omega) (by omega) (by omega) H (by omega) (by omega) (by omega) (by omega) (by omega) (by omega) (by omega)]
    have hz : spec_Pack.l0 (k + 1) a b 7 = some (0, 0, 0, false) := by simp only [spec_Pack.l0]; rw [if_neg (by omega)]
    rw [hz]
    repeat (first | rfl | (split; rfl))
  · rw [if_neg h, if_neg h]

def mn4 (x : Int) : Int := if x < 4096 then x else 4096
def unpM (e b l : Int) : Int × Int × Bool :=
  if 0 ≤ e ∧ e ≤ 6 ∧ 0 ≤ b ∧ b ≤ 63 ∧ 0 ≤ l ∧ l ≤ 63 then (b * 2 ^ e.toNat, mn4 ((b + l) * 2 ^ e.toNat), true) else (0, 0, false)
theorem pow_le6 {e : Int} (h : 0 ≤ e ∧ e ≤ 6) : 1 ≤ (2 : Int) ^ e.toNat ∧ (2 : Int) ^ e.toNat ≤ 64 := by
  have h' : e = 0 ∨ e = 1 ∨ e = 2 ∨ e = 3 ∨ e = 4 ∨ e = 5 ∨ e = 6 := by omega
  rcases h' with rfl | rfl | rfl | rfl | rfl | rfl | rfl <;> decide
theorem shl_small6 {x e : Int} (h : 0 ≤ e ∧ e ≤ 6) (hx : 0 ≤ x ∧ x ≤ 100000) : shl .i64 x e = x * 2 ^ e.toNat := by
  have hp := pow_le6 h
  have h0 : 0 ≤ x * 2 ^ e.toNat := Int.mul_nonneg hx.1 (by omega)
  have h1 : x * 2 ^ e.toNat ≤ 100000 * 64 := by
    have := Int.mul_le_mul hx.2 hp.2 (by omega) (by omega); omega
  exact shl_of e.toNat rfl (by omega) (by omega) (by omega) (by omega)
theorem impl_Unpack_eq (e b l : Int) : impl_Unpack.f e b l = some (unpM e b l) := by
  unfold impl_Unpack.f unpM
  simp only [impl_in_eq, Option.bind_some]
  by_cases h1 : 0 ≤ e ∧ e ≤ 6
  · rw [if_pos (decide_eq_true h1)]
    by_cases h2 : 0 ≤ b ∧ b ≤ 63
    · rw [if_pos (decide_eq_true h2)]
      by_cases h3 : 0 ≤ l ∧ l ≤ 63
      · rw [if_pos (decide_eq_true h3), if_pos h1.1, if_pos ⟨h1.1, h1.2, h2.1, h2.2, h3.1, h3.2⟩, shl_small6 h1 ⟨h2.1, by omega⟩,
          wrap_in (n := b + l) (by omega) (by omega), shl_small6 (x := b + l) h1 ⟨by omega, by omega⟩]
        rfl
      · rw [if_neg (by simpa using h3), if_neg (by omega)]
    · rw [if_neg (by simpa using h2), if_neg (by omega)]
  · rw [if_neg (by simpa using h1), if_neg (by omega)]
theorem spec_Min4 (a : Int) : spec_l1Min.f a 4096 = some (mn4 a) := by unfold spec_l1Min.f mn4; split <;> rfl
theorem spec_Unpack_eq (e b l : Int) : spec_Unpack.f e b l = some (unpM e b l) := by
  unfold spec_Unpack.f unpM
  simp only [spec_in_eq, spec_Min4, Option.bind_some]
  by_cases h1 : 0 ≤ e ∧ e ≤ 6
  · rw [if_pos (decide_eq_true h1)]
    by_cases h2 : 0 ≤ b ∧ b ≤ 63
    · rw [if_pos (decide_eq_true h2)]
      by_cases h3 : 0 ≤ l ∧ l ≤ 63
      · rw [if_pos (decide_eq_true h3), if_pos h1.1, if_pos ⟨h1.1, h1.2, h2.1, h2.2, h3.1, h3.2⟩, shl_small6 h1 ⟨h2.1, by omega⟩,
          wrap_in (n := b + l) (by omega) (by omega), shl_small6 (x := b + l) h1 ⟨by omega, by omega⟩]
      · rw [if_neg (by simpa using h3), if_neg (by omega)]
    · rw [if_neg (by simpa using h2), if_neg (by omega)]
  · rw [if_neg (by simpa using h1), if_neg (by omega)]

def wdOf (b t u : Int) : Int × Int := (b / u * u, mn4 ((b / u + (t - b / u * u + u - 1) / u) * u))
def wideM (b t : Int) : Int × Int :=
  if bOk b t = true then
    if fits b t 1 = true then wdOf b t 1 else if fits b t 2 = true then wdOf b t 2 else if fits b t 4 = true then wdOf b t 4
    else if fits b t 8 = true then wdOf b t 8 else if fits b t 16 = true then wdOf b t 16 else if fits b t 32 = true then wdOf b t 32
    else if fits b t 64 = true then wdOf b t 64 else (0, 4096)
  else (0, 0)
theorem unp_pk {b t e u : Int} (p : Nat) (hu : u = 2 ^ p) (he : e = p) (hp : p ≤ 6) (hf : fits b t u = true) (q0 : 0 ≤ b / u) (r0 : 0 ≤ (t - b / u * u + u - 1) / u) :
    unpM (pkOf b t e u).1 (pkOf b t e u).2.1 (pkOf b t e u).2.2.1 = ((wdOf b t u).1, (wdOf b t u).2, true) := by
  unfold fits at hf
  have hf := of_decide_eq_true hf
  unfold unpM pkOf wdOf
  simp only
  rw [if_pos ⟨by omega, by omega, q0, hf.1, r0, hf.2⟩]
  subst hu he
  rfl
theorem pk_ok (b t e u : Int) : (pkOf b t e u).2.2.2 = true := rfl
theorem wide_pack (b t : Int) : (if (packM b t).2.2.2 = true then ((unpM (packM b t).1 (packM b t).2.1 (packM b t).2.2.1).1, (unpM (packM b t).1 (packM b t).2.1 (packM b t).2.2.1).2.1) else if bOk b t = true then (0, 4096) else (0, 0)) = wideM b t := by
  unfold packM wideM
  by_cases h : bOk b t = true
  · simp only [if_pos h]
    have H := (bOk_iff b t).1 h
    by_cases f1 : fits b t 1 = true
    · simp only [if_pos f1]; rw [if_pos (pk_ok b t 0 1), unp_pk (u := 1) 0 (by omega) (by omega) (by omega) f1 (by omega) (by omega)]
    simp only [if_neg f1]
    by_cases f2 : fits b t 2 = true
    · simp only [if_pos f2]; rw [if_pos (pk_ok b t 1 2), unp_pk (u := 2) 1 (by omega) (by omega) (by omega) f2 (by omega) (by omega)]
    simp only [if_neg f2]
    by_cases f3 : fits b t 4 = true
    · simp only [if_pos f3]; rw [if_pos (pk_ok b t 2 4), unp_pk (u := 4) 2 (by omega) (by omega) (by omega) f3 (by omega) (by omega)]
    simp only [if_neg f3]
    by_cases f4 : fits b t 8 = true
    · simp only [if_pos f4]; rw [if_pos (pk_ok b t 3 8), unp_pk (u := 8) 3 (by omega) (by omega) (by omega) f4 (by omega) (by omega)]
    simp only [if_neg f4]
    by_cases f5 : fits b t 16 = true
    · simp only [if_pos f5]; rw [if_pos (pk_ok b t 4 16), unp_pk (u := 16) 4 (by omega) (by omega) (by omega) f5 (by omega) (by omega)]
    simp only [if_neg f5]
    by_cases f6 : fits b t 32 = true
    · simp only [if_pos f6]; rw [if_pos (pk_ok b t 5 32), unp_pk (u := 32) 5 (by omega) (by omega) (by omega) f6 (by omega) (by omega)]
    simp only [if_neg f6]
    by_cases f7 : fits b t 64 = true
    · simp only [if_pos f7]; rw [if_pos (pk_ok b t 6 64), unp_pk (u := 64) 6 (by omega) (by omega) (by omega) f7 (by omega) (by omega)]
    simp only [if_neg f7]
    rw [if_neg (by decide)]
  · simp only [if_neg h]
    rw [if_neg (by decide)]
theorem pack_bOk {b t : Int} (h : ¬ bOk b t = true) : (packM b t).2.2.2 = false := by unfold packM; rw [if_neg h]
theorem impl_Wide_eq (k : Nat) (a b : Int) : impl_Wide.f (k + 8) a b = some (wideM a b) := by
  unfold impl_Wide.f
  rw [impl_BoundsOk_eq, impl_Pack_eq]; simp only [Option.bind_some, impl_Unpack_eq]
  have hw := wide_pack a b
  by_cases h : bOk a b = true
  · rw [if_pos h]; rw [if_pos h] at hw
    rw [← hw]; split <;> rfl
  · rw [if_neg h]; unfold wideM; rw [if_neg h]
theorem spec_Wide_eq (k : Nat) (a b : Int) : spec_Wide.f (k + 8) a b = some (wideM a b) := by
  unfold spec_Wide.f
  rw [spec_BoundsOk_eq, spec_Pack_eq]; simp only [Option.bind_some, spec_Unpack_eq]
  rw [← wide_pack a b]
  by_cases h : (packM a b).2.2.2 = true
  · rw [if_pos h, if_pos h]
  · rw [if_neg h, if_neg h]; split <;> rfl

def exactM (b t : Int) : Bool := bOk b t && decide ((wideM b t).1 = b) && decide ((wideM b t).2 = t)
theorem impl_Exact_eq (k : Nat) (a b : Int) : impl_Exact.f (k + 8) a b = some (exactM a b) := by
  unfold impl_Exact.f exactM
  rw [impl_BoundsOk_eq, impl_Wide_eq]; simp only [Option.bind_some]
  cases bOk a b <;> simp only [Bool.false_and, Bool.true_and, if_true, if_false, Bool.false_eq_true]
  by_cases h : (wideM a b).1 = a
  · rw [if_pos h]; simp [h]; by_cases h2 : (wideM a b).2 = b <;> simp [h2]
  · rw [if_neg h]; simp [h]
theorem spec_Exact_eq (k : Nat) (a b : Int) : spec_Exact.f (k + 8) a b = some (exactM a b) := by
  unfold spec_Exact.f exactM
  rw [spec_BoundsOk_eq, spec_Wide_eq]; simp only [Option.bind_some]
  cases bOk a b <;> simp only [Bool.false_and, Bool.true_and, if_true, if_false, Bool.false_eq_true]
  by_cases h : (wideM a b).1 = a
  · rw [if_pos h]; simp [h]; by_cases h2 : (wideM a b).2 = b <;> simp [h2]
  · rw [if_neg h]; simp [h]

theorem toNat_wrap (v : BitVec 64) : IntKind.i64.wrap (v.toNat : Int) = v.toInt := by
  rw [IntKind.wrap_i64, BitVec.toInt_eq_toNat_cond]
  have := v.isLt
  split <;> omega
theorem ofInt_toInt {x : Int} (h0 : -9223372036854775808 ≤ x) (h1 : x ≤ 9223372036854775807) : (BitVec.ofInt 64 x).toInt = x := by
  rw [← toNat_wrap, BitVec.toNat_ofInt, IntKind.wrap_i64]
  omega
theorem bv_sub (a b : BitVec 64) : b &&& a = a ↔ a &&& ~~~b = 0#64 := by
  constructor
  · intro h
    rw [← h]
    ext i hi
    simp
    intro h1 h2
    simp [h1]
  · intro h
    ext i hi
    have := congrArg (fun v => v[i]) h
    simp at this ⊢
    exact this
theorem bits_and_bv (x y : Int) : bits .and .i64 x y = (BitVec.ofInt 64 x &&& BitVec.ofInt 64 y).toInt := toNat_wrap _
theorem bits_andNot_bv (x y : Int) : bits .andNot .i64 x y = (BitVec.ofInt 64 x &&& ~~~(BitVec.ofInt 64 y)).toInt := toNat_wrap _
theorem toInt_zero_iff (v : BitVec 64) : v.toInt = 0 ↔ v = 0#64 := by
  constructor
  · intro h; exact BitVec.eq_of_toInt_eq (by rw [h]; rfl)
  · rintro rfl; rfl
theorem sub_iff {p' : Int} (p : Int) (h0 : -9223372036854775808 ≤ p') (h1 : p' ≤ 9223372036854775807) : bits .and .i64 p p' = p' ↔ bits .andNot .i64 p' p = 0 := by
  rw [bits_and_bv, bits_andNot_bv, toInt_zero_iff, ← bv_sub]
  constructor
  · intro h; exact BitVec.eq_of_toInt_eq (by rw [h, ofInt_toInt h0 h1])
  · intro h; rw [h, ofInt_toInt h0 h1]
theorem sub_trans {a b c : Int} (h : bits .andNot .i64 b a = 0) (k : bits .andNot .i64 c b = 0) : bits .andNot .i64 c a = 0 := by
  rw [bits_andNot_bv, toInt_zero_iff] at *
  generalize BitVec.ofInt 64 a = x at *
  generalize BitVec.ofInt 64 b = y at *
  generalize BitVec.ofInt 64 c = z at *
  ext i hi
  have h1 := congrArg (fun v => v[i]) h
  have h2 := congrArg (fun v => v[i]) k
  simp at h1 h2 ⊢
  exact fun h3 => h1 (h2 h3)
theorem sub_refl (a : Int) : bits .andNot .i64 a a = 0 := by
  rw [bits_andNot_bv, toInt_zero_iff]
  ext i hi
  simp
theorem and_sub (a b : Int) : bits .andNot .i64 (bits .and .i64 a b) a = 0 := by
  rw [bits_andNot_bv, toInt_zero_iff, bits_and_bv, BitVec.ofInt_toInt]
  ext i hi
  simp
  intro h1 h2
  simp [h1]
theorem and_sub' (a b : Int) : bits .andNot .i64 (bits .and .i64 a b) b = 0 := by
  rw [bits_andNot_bv, toInt_zero_iff, bits_and_bv, BitVec.ofInt_toInt]
  ext i hi
  simp
theorem and_le63 {a : Int} (b : Int) (h : 0 ≤ a ∧ a ≤ 63) : 0 ≤ bits .and .i64 a b ∧ bits .and .i64 a b ≤ 63 := by
  rw [bits_and_bv]
  have h1 : (BitVec.ofInt 64 a &&& BitVec.ofInt 64 b).toNat ≤ 63 := by
    rw [BitVec.toNat_and]
    refine Nat.le_trans Nat.and_le_left ?_
    rw [BitVec.toNat_ofInt]
    omega
  rw [BitVec.toInt_eq_toNat_cond]
  split <;> omega
theorem sub63 {a : Int} (h : 0 ≤ a ∧ a ≤ 63) : bits .andNot .i64 a 63 = 0 := by
  have h' : a = 0 ∨ a = 1 ∨ a = 2 ∨ a = 3 ∨ 4 ≤ a := by omega
  rw [← sub_iff 63 (by omega) (by omega), bits_and_bv]
  have h1 : (BitVec.ofInt 64 63 &&& BitVec.ofInt 64 a).toNat = a.toNat := by
    rw [BitVec.toNat_and, show (BitVec.ofInt 64 63).toNat = 2 ^ 6 - 1 from by decide, Nat.and_comm, Nat.and_two_pow_sub_one_eq_mod, BitVec.toNat_ofInt]
    omega
  rw [BitVec.toInt_eq_toNat_cond, h1]
  split <;> omega

def kOk (b t p s : Int) : Bool := exactM b t && (decide (0 ≤ p ∧ p ≤ 63) && decide (0 ≤ s ∧ s ≤ 7))
theorem kOk_iff (b t p s : Int) : kOk b t p s = true ↔ (exactM b t = true ∧ (0 ≤ p ∧ p ≤ 63) ∧ (0 ≤ s ∧ s ≤ 7)) := by
  unfold kOk; simp only [Bool.and_eq_true, decide_eq_true_eq]

theorem impl_KeyOk_eq (k : Nat) (b t p s : Int) : impl_KeyOk.f (k + 8) b t p s = some (kOk b t p s) := by
  unfold impl_KeyOk.f kOk
  simp only [impl_Exact_eq, impl_in_eq, Option.bind_some]
  cases exactM b t <;> simp only [Bool.false_and, Bool.true_and, if_true, if_false, Bool.false_eq_true]
  cases decide (0 ≤ p ∧ p ≤ 63) <;> simp
theorem spec_KeyOk_eq (k : Nat) (b t p s : Int) : spec_KeyOk.f (k + 8) b t p s = some (kOk b t p s) := by
  unfold spec_KeyOk.f kOk
  simp only [spec_Exact_eq, spec_in_eq, Option.bind_some]
  cases exactM b t <;> simp only [Bool.false_and, Bool.true_and, if_true, if_false, Bool.false_eq_true]
  cases decide (0 ≤ p ∧ p ≤ 63) <;> simp

def wOk (n : Int) (i : Bool) (b t p s : Int) : Bool := decide (0 ≤ n ∧ n ≤ 65535) && (if i = true then kOk b t p s else (b == 0 && (t == 0 && (p == 0 && (s == 0)))))
theorem impl_WordOk_eq (k : Nat) (n : Int) (i : Bool) (b t p s : Int) : impl_WordOk.f (k + 8) n i b t p s = some (wOk n i b t p s) := by
  unfold impl_WordOk.f wOk
  simp only [impl_KeyOk_eq, impl_in_eq, Option.bind_some]
  cases decide (0 ≤ n ∧ n ≤ 65535) <;> cases i <;> simp
theorem spec_WordOk_eq (k : Nat) (n : Int) (i : Bool) (b t p s : Int) : spec_WordOk.f (k + 8) n i b t p s = some (wOk n i b t p s) := by
  unfold spec_WordOk.f wOk
  simp only [spec_KeyOk_eq, spec_in_eq, Option.bind_some]
  cases decide (0 ≤ n ∧ n ≤ 65535) <;> cases i <;> simp
  cases kOk b t p s <;> simp
theorem wOk_key {n b t p s : Int} (h : wOk n true b t p s = true) : (0 ≤ n ∧ n ≤ 65535) ∧ kOk b t p s = true := by
  unfold wOk at h; simpa only [Bool.and_eq_true, decide_eq_true_eq, if_true] using h

def wOkT (x : S39) : Bool := wOk x.f0 x.f1 x.f2.f0 x.f2.f1 x.f2.f2 x.f2.f3
theorem drop_rdW (l : List S39) (i : Int) (h0 : 0 ≤ i) (h : i < (l.length : Int)) : l.drop i.toNat = rd_T39 l i :: l.drop (i + 1).toNat := by
  rw [List.drop_eq_getElem_cons (by omega), show (i + 1).toNat = i.toNat + 1 by omega]
  congr 1
  unfold rd_T39
  rw [List.getD_eq_getElem?_getD, List.getElem?_eq_getElem (by omega)]; rfl
theorem drop_endW (l : List S39) (i : Int) (h : ¬ i < (l.length : Int)) : l.drop i.toNat = [] := List.drop_eq_nil_of_le (by omega)

theorem cfM_rounds (l : List S39) (hl : l.length ≤ 2000000) (d : Nat) : ∀ (k : Nat) (i : Int), 0 ≤ i → (l.length : Int) - i = d → d + 9 < k → ∃ r, CF_impl_MemoryOk_1.l0 k l i = some r ∧ decide (0 ≤ r) = !((l.drop i.toNat).all wOkT) := by
  induction d with
  | zero =>
    intro k i h0 hd hk
    obtain ⟨k, rfl⟩ : ∃ m, k = m + 1 := ⟨k - 1, by omega⟩
    simp only [CF_impl_MemoryOk_1.l0]; rw [if_neg (by omega), drop_endW l i (by omega)]; exact ⟨_, rfl, rfl⟩
  | succ d ih =>
    intro k i h0 hd hk
    obtain ⟨k, rfl⟩ : ∃ m, k = m + 9 := ⟨k - 9, by omega⟩
    simp only [CF_impl_MemoryOk_1.l0]; rw [if_pos (by omega), if_pos h0]
    unfold impl_MemoryOk_1.f
    rw [impl_WordOk_eq, drop_rdW l i h0 (by omega)]; simp only [Option.bind_some, List.all_cons]
    rw [show wOk (rd_T39 l i).f0 (rd_T39 l i).f1 (rd_T39 l i).f2.f0 (rd_T39 l i).f2.f1 (rd_T39 l i).f2.f2 (rd_T39 l i).f2.f3 = wOkT (rd_T39 l i) from rfl]
    cases wOkT (rd_T39 l i) with
    | false => exact ⟨i, by simp, by simp [h0]⟩
    | true =>
      obtain ⟨r, e, p⟩ := ih (k + 8) (i + 1) (by omega) (by omega) (by omega)
      refine ⟨r, ?_, by simpa using p⟩
      simp only [Bool.not_true, Bool.false_eq_true, if_false]
      rw [show wrap64 (i + 1) = i + 1 from wrap_in (by omega) (by omega)]; exact e
theorem cfM_eq (l : List S39) (k : Nat) (hl : l.length ≤ 2000000) (hk : l.length + 9 < k) : CF_impl_MemoryOk_1.f k l () = some (!(l.all wOkT)) := by
  obtain ⟨r, e, p⟩ := cfM_rounds l hl l.length k 0 (by omega) (by omega) hk
  unfold CF_impl_MemoryOk_1.f
  rw [e]; simpa using p
theorem spM_rounds (l : List S39) (g : List Bool) (hl : l.length = 24) (d : Nat) : ∀ (k : Nat) (i : Int), 0 ≤ i → (l.length : Int) - i = d → d + 9 < k → spec_MemoryOk.l0 k i l g = some ((l.drop i.toNat).all wOkT) := by
  induction d with
  | zero =>
    intro k i h0 hd hk
    obtain ⟨k, rfl⟩ : ∃ m, k = m + 1 := ⟨k - 1, by omega⟩
    simp only [spec_MemoryOk.l0]; rw [if_neg (by omega), drop_endW l i (by omega)]; rfl
  | succ d ih =>
    intro k i h0 hd hk
    obtain ⟨k, rfl⟩ : ∃ m, k = m + 9 := ⟨k - 9, by omega⟩
    simp only [spec_MemoryOk.l0]; rw [if_pos (by omega), if_pos h0, if_pos (by omega)]
    rw [spec_WordOk_eq, drop_rdW l i h0 (by omega)]; simp only [Option.bind_some, List.all_cons]
    rw [show wOk (rd_T39 l i).f0 (rd_T39 l i).f1 (rd_T39 l i).f2.f0 (rd_T39 l i).f2.f1 (rd_T39 l i).f2.f2 (rd_T39 l i).f2.f3 = wOkT (rd_T39 l i) from rfl]
    cases wOkT (rd_T39 l i) with
    | false => simp
    | true =>
      simp only [if_true, Bool.true_and]
      rw [show wrap64 (i + 1) = i + 1 from wrap_in (by omega) (by omega)]; exact ih (k + 8) (i + 1) (by omega) (by omega) (by omega)
def memM (l : List S39) (g : List Bool) : Bool := decide (l.length = 24 ∧ g.length = 24) && l.all wOkT
theorem impl_MemoryOk_eq (k : Nat) (l : List S39) (g : List Bool) (hk : 40 ≤ k) : impl_MemoryOk.f k l g = some (memM l g) := by
  unfold impl_MemoryOk.f memM
  by_cases h : l.length = 24
  · rw [if_pos (by omega)]
    by_cases h2 : g.length = 24
    · rw [if_pos (by omega), cfM_eq l k (by omega) (by omega)]; simp [h, h2]
    · rw [if_neg (by omega)]; simp [h2]
  · rw [if_neg (by omega)]; simp [h]
theorem spec_MemoryOk_eq (k : Nat) (l : List S39) (g : List Bool) (hk : 40 ≤ k) : spec_MemoryOk.f k l g = some (memM l g) := by
  obtain ⟨k, rfl⟩ : ∃ m, k = m + 1 := ⟨k - 1, by omega⟩
  unfold spec_MemoryOk.f memM
  by_cases h : l.length = 24
  · rw [if_pos (by omega)]; simp only [spec_MemoryOk.j0]
    by_cases h2 : g.length = 24
    · rw [if_neg (by simp; omega), spM_rounds l g h 24 k 0 (by omega) (by omega) (by omega)]; simp [h, h2]
    · rw [if_pos (by simp; omega)]; simp [h2]
  · rw [if_neg (by omega)]; simp only [spec_MemoryOk.j0]; simp [h]

theorem spec_copy_eq (l : List S39) (g : List Bool) (hl : l.length ≤ 2000000) (hg : g.length ≤ 2000000) : spec_l8Copy.f l g = some (l, g) := by
  unfold spec_l8Copy.f; simp only [Option.bind_some, List.length_nil, List.nil_append]
  rw [if_pos (by omega), if_pos (by omega)]
theorem impl_clone_eq (l : List S39) (g : List Bool) (hl : l.length ≤ 2000000) (hg : g.length ≤ 2000000) : impl_cloneMemory.f l g = some (l, g) := by
  unfold impl_cloneMemory.f Clone_Word.f Clone_bool.f
  rw [if_pos (by omega), if_pos (by omega)]; rfl
theorem memM_len {l : List S39} {g : List Bool} (h : memM l g = true) : l.length = 24 ∧ g.length = 24 := by
  unfold memM at h; simp only [Bool.and_eq_true, decide_eq_true_eq] at h; exact h.1

def tryM (n : Int) (i : Bool) (b t p s m q : Int) : Int :=
  if (i && wOk n i b t p s) = true then (if s = 0 then (if bits .andNot .i64 q p = 0 then (if m < b then 4 else if t ≤ m then 4 else 0) else 3) else 2) else 1
theorem impl_Try_eq (k : Nat) (n : Int) (i : Bool) (b t p s m q : Int) : impl_Try.f (k + 10) n i b t p s m q = some (tryM n i b t p s m q) := by
  unfold impl_Try.f tryM
  simp only [impl_WordOk_eq, Option.bind_some]
  cases i
  · simp [impl_Try.j0]
  · cases hw : wOk n true b t p s
    · simp [impl_Try.j0]
    · simp only [impl_Try.j0, if_true, Bool.not_true, Bool.false_eq_true, if_false, Bool.and_self]
      by_cases h1 : s = 0 <;> by_cases h2 : bits .andNot .i64 q p = 0 <;> by_cases h3 : m < b <;> by_cases h4 : m ≥ t <;> simp [h1, h2, h3, h4] <;> (try omega)
theorem spec_Try_eq (k : Nat) (n : Int) (i : Bool) (b t p s m q : Int) (hq0 : -9223372036854775808 ≤ q) (hq1 : q ≤ 9223372036854775807) : spec_Try.f (k + 10) n i b t p s m q = some (tryM n i b t p s m q) := by
  unfold spec_Try.f tryM
  simp only [spec_WordOk_eq, Option.bind_some]
  cases i
  · cases wOk n false b t p s <;> simp [spec_Try.j0]
  · cases hw : wOk n true b t p s
    · simp [spec_Try.j0]
    · simp only [spec_Try.j0, if_true, Bool.not_true, Bool.false_eq_true, if_false, Bool.and_self]
      by_cases h1 : s = 0 <;> by_cases h2 : bits .andNot .i64 q p = 0 <;> by_cases h3 : m < b <;> by_cases h4 : m ≥ t <;> simp [h1, h2, h3, h4, sub_iff p hq0 hq1] <;> (try omega)

def mayPutM (p : Int) (i : Bool) : Bool := !i || (bits .and .i64 p 16 != 0)
theorem impl_MayPut_eq (n' : Int) (i' : Bool) (b' t' p' s' n : Int) (i : Bool) (b t p s : Int) : impl_MayPut.f n' i' b' t' p' s' n i b t p s = some (mayPutM p' i) := by
  unfold impl_MayPut.f impl_permits.f mayPutM
  cases i <;> simp
theorem spec_MayPut_eq (n' : Int) (i' : Bool) (b' t' p' s' n : Int) (i : Bool) (b t p s : Int) : spec_MayPut.f n' i' b' t' p' s' n i b t p s = some (mayPutM p' i) := by
  unfold spec_MayPut.f mayPutM
  cases i <;> simp

def wrCode (l : List S39) (n : Int) (i : Bool) (b t p s m : Int) (i' : Bool) : Int :=
  if tryM n i b t p s m 2 = 0 then (if 0 ≤ m ∧ m < (l.length : Int) then (if mayPutM p i' = true then 0 else 3) else 4) else tryM n i b t p s m 2
theorem wrCode_in {l : List S39} {n : Int} {i : Bool} {b t p s m : Int} {i' : Bool} (h : wrCode l n i b t p s m i' = 0) : 0 ≤ m ∧ m < (l.length : Int) := by
  unfold wrCode at h
  by_cases h1 : tryM n i b t p s m 2 = 0
  · rw [if_pos h1] at h
    by_cases h2 : 0 ≤ m ∧ m < (l.length : Int)
    · exact h2
    · rw [if_neg h2] at h; omega
  · rw [if_neg h1] at h; omega
theorem impl_writeCode_eq (k : Nat) (l : List S39) (g : List Bool) (n : Int) (i : Bool) (b t p s m n' : Int) (i' : Bool) (b' t' p' s' : Int) (hl : l.length ≤ 2000000) (hk : 10 ≤ k) : impl_writeCode.f k l g n i b t p s m n' i' b' t' p' s' = some (wrCode l n i b t p s m i') := by
  obtain ⟨k, rfl⟩ : ∃ m, k = m + 10 := ⟨k - 10, by omega⟩
  unfold impl_writeCode.f wrCode
  rw [impl_Try_eq]; simp only [Option.bind_some]
  by_cases h : tryM n i b t p s m 2 = 0
  · rw [if_pos h, if_pos h, show wrap64 ((l.length : Int) - 1) = (l.length : Int) - 1 from wrap_in (by omega) (by omega), impl_in_eq, impl_MayPut_eq]; simp only [Option.bind_some]
    by_cases h2 : 0 ≤ m ∧ m < (l.length : Int)
    · rw [if_pos (decide_eq_true (by omega)), if_pos h2]; split <;> rfl
    · rw [if_neg (by simp; omega), if_neg h2]
  · rw [if_neg h, if_neg h]
theorem spec_Write8_eq (k : Nat) (l : List S39) (g : List Bool) (n : Int) (i : Bool) (b t p s m n' : Int) (i' : Bool) (b' t' p' s' : Int) (hl : l.length ≤ 2000000) (hk : 10 ≤ k) : spec_l8Write.f k l g n i b t p s m n' i' b' t' p' s' = some (wrCode l n i b t p s m i') := by
  obtain ⟨k, rfl⟩ : ∃ m, k = m + 10 := ⟨k - 10, by omega⟩
  unfold spec_l8Write.f wrCode
  rw [spec_Try_eq _ _ _ _ _ _ _ _ _ (by omega) (by omega)]; simp only [Option.bind_some]
  by_cases h : tryM n i b t p s m 2 = 0
  · rw [if_pos h, if_pos h, show wrap64 ((l.length : Int) - 1) = (l.length : Int) - 1 from wrap_in (by omega) (by omega), spec_in_eq, spec_MayPut_eq]; simp only [Option.bind_some]
    by_cases h2 : 0 ≤ m ∧ m < (l.length : Int)
    · rw [if_pos (decide_eq_true (by omega)), if_pos h2]; split <;> rfl
    · rw [if_neg (by simp; omega), if_neg h2]
  · rw [if_neg h, if_neg h]
def writeM (l : List S39) (g : List Bool) (n : Int) (i : Bool) (b t p s m n' : Int) (i' : Bool) (b' t' p' s' : Int) : List S39 × List Bool × Int :=
  if memM l g = true then (if wrCode l n i b t p s m i' = 0 then (l.set m.toNat ⟨n', i', ⟨b', t', p', s'⟩⟩, g, wrCode l n i b t p s m i') else (l, g, wrCode l n i b t p s m i')) else ([], [], wrCode l n i b t p s m i')
theorem writeM_len (l : List S39) (g : List Bool) (n : Int) (i : Bool) (b t p s m n' : Int) (i' : Bool) (b' t' p' s' : Int) : (writeM l g n i b t p s m n' i' b' t' p' s').1.length ≤ 24 ∧ (writeM l g n i b t p s m n' i' b' t' p' s').2.1.length ≤ 24 := by
  unfold writeM
  by_cases h : memM l g = true
  · rw [if_pos h]; have := memM_len h; split <;> (try simp only [List.length_set]) <;> omega
  · rw [if_neg h]; simp
theorem impl_Write_eq (k : Nat) (l : List S39) (g : List Bool) (n : Int) (i : Bool) (b t p s m n' : Int) (i' : Bool) (b' t' p' s' : Int) (hl : l.length ≤ 2000000) (hk : 40 ≤ k) : impl_Write.f k l g n i b t p s m n' i' b' t' p' s' = some (writeM l g n i b t p s m n' i' b' t' p' s') := by
  unfold impl_Write.f writeM
  rw [impl_writeCode_eq k l g _ _ _ _ _ _ _ _ _ _ _ _ _ hl (by omega), impl_MemoryOk_eq k l g hk]; simp only [Option.bind_some]
  by_cases h : memM l g = true
  · have hh := memM_len h
    rw [if_pos h, if_pos h, impl_clone_eq l g (by omega) (by omega)]; simp only [Option.bind_some]
    by_cases h2 : wrCode l n i b t p s m i' = 0
    · have := wrCode_in h2
      rw [if_pos h2, if_pos this.1, if_pos this.2, if_pos h2]
    · rw [if_neg h2, if_neg h2]
  · rw [if_neg h, if_neg h]
theorem spec_Write_eq (k : Nat) (l : List S39) (g : List Bool) (n : Int) (i : Bool) (b t p s m n' : Int) (i' : Bool) (b' t' p' s' : Int) (hl : l.length ≤ 2000000) (hk : 40 ≤ k) : spec_Write.f k l g n i b t p s m n' i' b' t' p' s' = some (writeM l g n i b t p s m n' i' b' t' p' s') := by
  unfold spec_Write.f writeM
  rw [spec_Write8_eq k l g _ _ _ _ _ _ _ _ _ _ _ _ _ hl (by omega), spec_MemoryOk_eq k l g hk]; simp only [Option.bind_some]
  by_cases h : memM l g = true
  · have hh := memM_len h
    rw [if_pos h, if_pos h, spec_copy_eq l g (by omega) (by omega)]; simp only [Option.bind_some]
    by_cases h2 : wrCode l n i b t p s m i' = 0
    · have := wrCode_in h2
      rw [if_pos h2, if_pos this.1, if_pos this.2, if_pos h2]
    · rw [if_neg h2, if_neg h2]
  · rw [if_neg h, if_neg h]

def mkW (x : Int) : S39 := ⟨x, (Int.tmod (x + 1) 3 == 0), ⟨x + 2, x + 3, x + 4, x + 5⟩⟩
def mkWs : Nat → Int → List S39
  | 0, _ => []
  | d + 1, x => mkW x :: mkWs d (x + 6)
theorem rd_setW (l : List S39) (i : Int) (v : S39) (h : i.toNat < l.length) : rd_T39 (l.set i.toNat v) i = v := by
  unfold rd_T39; rw [List.getD_eq_getElem?_getD, List.getElem?_set_self h]; rfl
theorem take_setW {α : Type} (l : List α) (n : Nat) (v : α) (h : n < l.length) : (l.set n v).take (n + 1) = l.take n ++ [v] := by
  rw [List.take_succ_eq_append_getElem (by simpa using h), List.getElem_set_self, List.take_set_of_le (Nat.le_refl _)]
theorem markW_rounds (d : Nat) : ∀ (k : Nat) (l : List S39) (x i : Int), 0 ≤ i → i ≤ (l.length : Int) → (l.length : Int) - i = d → l.length ≤ 2000000 → d < k → 0 ≤ x → x + 6 * d ≤ 1000000000 → laws_markWordS.l0 k l x i = some (x + 6 * d, l.take i.toNat ++ mkWs d x) := by
  induction d with
  | zero =>
    intro k l x i h0 h1 hd hl hk hx hb
    obtain ⟨k, rfl⟩ : ∃ m, k = m + 1 := ⟨k - 1, by omega⟩
    simp only [laws_markWordS.l0]; rw [if_neg (by omega), List.take_of_length_le (by omega)]; simp [mkWs]
  | succ d ih =>
    intro k l x i h0 h1 hd hl hk hx hb
    obtain ⟨k, rfl⟩ : ∃ m, k = m + 1 := ⟨k - 1, by omega⟩
    have hlt : i.toNat < l.length := by omega
    simp only [laws_markWordS.l0]; rw [if_pos (by omega), if_pos h0]
    rw [show wrap64 (x + 1) = x + 1 from wrap_in (by omega) (by omega), show wrap64 (x + 1 + 1) = x + 2 by rw [wrap_in (by omega) (by omega)]; omega, show wrap64 (x + 2 + 1) = x + 3 by rw [wrap_in (by omega) (by omega)]; omega, show wrap64 (x + 3 + 1) = x + 4 by rw [wrap_in (by omega) (by omega)]; omega,
      show wrap64 (x + 4 + 1) = x + 5 by rw [wrap_in (by omega) (by omega)]; omega, show wrap64 (x + 5 + 1) = x + 6 by rw [wrap_in (by omega) (by omega)]; omega, show wrap64 (i + 1) = i + 1 from wrap_in (by omega) (by omega)]
    simp only [Option.bind_some, List.set_set, rd_setW, List.length_set, hlt]
    have := ih k (l.set i.toNat (mkW x)) (x + 6) (i + 1) (by omega) (by simp; omega) (by simp; omega) (by simpa using hl) (by omega) (by omega) (by omega)
    rw [show (i + 1).toNat = i.toNat + 1 by omega, take_setW l i.toNat _ hlt] at this
    refine Eq.trans this ?_
    simp only [mkWs, List.append_assoc, List.singleton_append]
    congr 2; omega
theorem heldW_rounds (d : Nat) : ∀ (k : Nat) (l : List S39) (x i : Int), 0 ≤ i → (l.length : Int) - i = d → l.length ≤ 2000000 → d < k → 0 ≤ x → x + 6 * d ≤ 1000000000 → l.drop i.toNat = mkWs d x → laws_heldWordS.l0 k l x i = some (x + 6 * d) := by
  induction d with
  | zero =>
    intro k l x i h0 hd hl hk hx hb hm
    obtain ⟨k, rfl⟩ : ∃ m, k = m + 1 := ⟨k - 1, by omega⟩
    simp only [laws_heldWordS.l0]; rw [if_neg (by omega)]; simp
  | succ d ih =>
    intro k l x i h0 hd hl hk hx hb hm
    obtain ⟨k, rfl⟩ : ∃ m, k = m + 1 := ⟨k - 1, by omega⟩
    rw [drop_rdW l i h0 (by omega)] at hm
    simp only [mkWs, List.cons.injEq] at hm
    obtain ⟨hw, hm⟩ := hm
    simp only [laws_heldWordS.l0]; rw [if_pos (by omega), if_pos h0, hw]
    rw [show wrap64 (x + 1) = x + 1 from wrap_in (by omega) (by omega), show wrap64 (x + 1 + 1) = x + 2 by rw [wrap_in (by omega) (by omega)]; omega, show wrap64 (x + 2 + 1) = x + 3 by rw [wrap_in (by omega) (by omega)]; omega, show wrap64 (x + 3 + 1) = x + 4 by rw [wrap_in (by omega) (by omega)]; omega,
      show wrap64 (x + 4 + 1) = x + 5 by rw [wrap_in (by omega) (by omega)]; omega, show wrap64 (x + 5 + 1) = x + 6 by rw [wrap_in (by omega) (by omega)]; omega, show wrap64 (i + 1) = i + 1 from wrap_in (by omega) (by omega)]
    simp only [mkW, if_true, bne_self_eq_false, Bool.false_eq_true, if_false]
    rw [ih k l (x + 6) (i + 1) (by omega) (by omega) hl (by omega) (by omega) (by omega) hm]
    congr 1; omega
theorem markW_eq (k : Nat) (l : List S39) (x : Int) (hl : l.length ≤ 2000000) (hk : l.length < k) (h0 : 0 ≤ x) (h1 : x ≤ 100000000) : laws_markWordS.f k l x = some (x + 6 * l.length, mkWs l.length x) := by
  unfold laws_markWordS.f; rw [markW_rounds l.length k l x 0 (by omega) (by omega) (by omega) hl hk h0 (by omega)]; simp
theorem mkWs_length (d : Nat) : ∀ x, (mkWs d x).length = d := by
  induction d with
  | zero => intro x; rfl
  | succ d ih => intro x; simp [mkWs, ih]
theorem heldW_eq (k n : Nat) (x : Int) (hl : n ≤ 2000000) (hk : n < k) (h0 : 0 ≤ x) (h1 : x ≤ 100000000) : laws_heldWordS.f k (mkWs n x) x = some (x + 6 * n) := by
  unfold laws_heldWordS.f; exact heldW_rounds n k _ x 0 (by omega) (by rw [mkWs_length]; omega) (by rw [mkWs_length]; omega) hk h0 (by omega) (by simp)

def mkBs : Nat → Int → List Bool
  | 0, _ => []
  | d + 1, x => (Int.tmod x 3 == 0) :: mkBs d (x + 1)
theorem rdOf_drop (l : List Bool) (i : Int) (h0 : 0 ≤ i) (h : i < (l.length : Int)) : l.drop i.toNat = rdOf false l i :: l.drop (i + 1).toNat := by
  rw [List.drop_eq_getElem_cons (by omega), show (i + 1).toNat = i.toNat + 1 by omega]
  congr 1
  unfold rdOf
  rw [List.getD_eq_getElem?_getD, List.getElem?_eq_getElem (by omega)]; rfl
theorem take_setB {α : Type} (l : List α) (n : Nat) (v : α) (h : n < l.length) : (l.set n v).take (n + 1) = l.take n ++ [v] := by
  rw [List.take_succ_eq_append_getElem (by simpa using h), List.getElem_set_self, List.take_set_of_le (Nat.le_refl _)]
theorem markB_rounds (d : Nat) : ∀ (k : Nat) (l : List Bool) (x i : Int), 0 ≤ i → i ≤ (l.length : Int) → (l.length : Int) - i = d → l.length ≤ 2000000 → d < k → 0 ≤ x → x + d ≤ 1000000000 → laws_markBoolS.l0 k l x i = some (x + d, l.take i.toNat ++ mkBs d x) := by
  induction d with
  | zero =>
    intro k l x i h0 h1 hd hl hk hx hb
    obtain ⟨k, rfl⟩ : ∃ m, k = m + 1 := ⟨k - 1, by omega⟩
    simp only [laws_markBoolS.l0]; rw [if_neg (by omega), List.take_of_length_le (by omega)]; simp [mkBs]
  | succ d ih =>
    intro k l x i h0 h1 hd hl hk hx hb
    obtain ⟨k, rfl⟩ : ∃ m, k = m + 1 := ⟨k - 1, by omega⟩
    have hlt : i.toNat < l.length := by omega
    simp only [laws_markBoolS.l0]; rw [if_pos (by omega), if_pos h0]
    rw [show wrap64 (x + 1) = x + 1 from wrap_in (by omega) (by omega), show wrap64 (i + 1) = i + 1 from wrap_in (by omega) (by omega)]
    have := ih k (l.set i.toNat (Int.tmod x 3 == 0)) (x + 1) (i + 1) (by omega) (by simp; omega) (by simp; omega) (by simpa using hl) (by omega) (by omega) (by omega)
    rw [show (i + 1).toNat = i.toNat + 1 by omega, take_setB l i.toNat _ hlt] at this
    refine Eq.trans this ?_
    simp only [mkBs, List.append_assoc, List.singleton_append]
    congr 2; omega
theorem heldB_rounds (d : Nat) : ∀ (k : Nat) (l : List Bool) (x i : Int), 0 ≤ i → (l.length : Int) - i = d → l.length ≤ 2000000 → d < k → 0 ≤ x → x + d ≤ 1000000000 → l.drop i.toNat = mkBs d x → laws_heldBoolS.l0 k l x i = some (x + d) := by
  induction d with
  | zero =>
    intro k l x i h0 hd hl hk hx hb hm
    obtain ⟨k, rfl⟩ : ∃ m, k = m + 1 := ⟨k - 1, by omega⟩
    simp only [laws_heldBoolS.l0]; rw [if_neg (by omega)]; simp
  | succ d ih =>
    intro k l x i h0 hd hl hk hx hb hm
    obtain ⟨k, rfl⟩ : ∃ m, k = m + 1 := ⟨k - 1, by omega⟩
    rw [rdOf_drop l i h0 (by omega)] at hm
    simp only [mkBs, List.cons.injEq] at hm
    obtain ⟨hw, hm⟩ := hm
    simp only [laws_heldBoolS.l0]; rw [if_pos (by omega), if_pos h0, hw]
    rw [show wrap64 (x + 1) = x + 1 from wrap_in (by omega) (by omega), show wrap64 (i + 1) = i + 1 from wrap_in (by omega) (by omega)]
    simp only [bne_self_eq_false, Bool.false_eq_true, if_false]
    rw [ih k l (x + 1) (i + 1) (by omega) (by omega) hl (by omega) (by omega) (by omega) hm]
    congr 1; omega
theorem markB_eq (k : Nat) (l : List Bool) (x : Int) (hl : l.length ≤ 2000000) (hk : l.length < k) (h0 : 0 ≤ x) (h1 : x ≤ 100000000) : laws_markBoolS.f k l x = some (x + l.length, mkBs l.length x) := by
  unfold laws_markBoolS.f; rw [markB_rounds l.length k l x 0 (by omega) (by omega) (by omega) hl hk h0 (by omega)]; simp
theorem mkBs_length (d : Nat) : ∀ x, (mkBs d x).length = d := by
  induction d with
  | zero => intro x; rfl
  | succ d ih => intro x; simp [mkBs, ih]
theorem heldB_eq (k n : Nat) (x : Int) (hl : n ≤ 2000000) (hk : n < k) (h0 : 0 ≤ x) (h1 : x ≤ 100000000) : laws_heldBoolS.f k (mkBs n x) x = some (x + n) := by
  unfold laws_heldBoolS.f; exact heldB_rounds n k _ x 0 (by omega) (by rw [mkBs_length]; omega) (by rw [mkBs_length]; omega) hk h0 (by omega) (by simp)

theorem eqKey_same (a b c d : Int) : laws_eqKey.f a b c d a b c d = some true := by unfold laws_eqKey.f; simp

theorem eqWord_same (n : Int) (i : Bool) (a b c d : Int) : laws_eqWord.f n i a b c d n i a b c d = some true := by
  unfold laws_eqWord.f; simp [eqKey_same]

theorem toKey_eq (a b c d : Int) : laws_toKey.f a b c d = some (a, b, c, d) := rfl

theorem toWord_eq (n : Int) (i : Bool) (a b c d : Int) : laws_toWord.f n i a b c d = some (n, i, a, b, c, d) := rfl

theorem toWordS_rounds (l : List S29) (hl : l.length ≤ 2000000) (d : Nat) : ∀ (k : Nat) (x : List S39) (i : Int), 0 ≤ i → x.length = l.length → (l.length : Int) - i = d → d < k → ∃ r, laws_toWordS.l0 k l x i = some r ∧ r.length = l.length := by
  induction d with
  | zero =>
    intro k x i h0 hx hd hk
    obtain ⟨k, rfl⟩ : ∃ m, k = m + 1 := ⟨k - 1, by omega⟩
    simp only [laws_toWordS.l0]; rw [if_neg (by omega)]; exact ⟨x, rfl, hx⟩
  | succ d ih =>
    intro k x i h0 hx hd hk
    obtain ⟨k, rfl⟩ : ∃ m, k = m + 1 := ⟨k - 1, by omega⟩
    simp only [laws_toWordS.l0]; rw [if_pos (by omega), if_pos h0]; simp only [toWord_eq, Option.bind_some]
    rw [if_pos (by omega), show wrap64 (i + 1) = i + 1 from wrap_in (by omega) (by omega)]
    exact ih k _ (i + 1) (by omega) (by simpa using hx) (by omega) (by omega)
theorem toWordS_tells (l : List S29) (k : Nat) (hl : l.length ≤ 2000000) (hk : l.length < k) : ∃ r, laws_toWordS.f k l = some r ∧ r.length = l.length := by
  unfold laws_toWordS.f
  rw [if_pos (by omega), if_pos (by omega)]
  exact toWordS_rounds l hl l.length k _ 0 (by omega) (by simp) (by omega) hk
theorem eqWordS_rounds (l : List S39) (hl : l.length ≤ 2000000) (d : Nat) : ∀ (k : Nat) (i : Int), 0 ≤ i → (l.length : Int) - i = d → d < k → laws_eqWordS.l0 k l l i = some true := by
  induction d with
  | zero =>
    intro k i h0 hd hk
    obtain ⟨k, rfl⟩ : ∃ m, k = m + 1 := ⟨k - 1, by omega⟩
    simp only [laws_eqWordS.l0]; rw [if_neg (by omega)]
  | succ d ih =>
    intro k i h0 hd hk
    obtain ⟨k, rfl⟩ : ∃ m, k = m + 1 := ⟨k - 1, by omega⟩
    simp only [laws_eqWordS.l0]; rw [if_pos (by omega), if_pos h0, if_pos (by omega), eqWord_same]; simp only [Option.bind_some, if_true]
    rw [show wrap64 (i + 1) = i + 1 from wrap_in (by omega) (by omega)]
    exact ih k (i + 1) (by omega) (by omega) (by omega)
theorem eqWordS_same (l : List S39) (k : Nat) (hl : l.length ≤ 2000000) (hk : l.length < k) : laws_eqWordS.f k l l = some true := by
  unfold laws_eqWordS.f; rw [if_pos rfl]; exact eqWordS_rounds l hl l.length k 0 (by omega) (by omega) hk
theorem szWordS_eq (l : List S29) (a : Int) (ha : 0 ≤ a ∧ a ≤ 1048576) (hl : l.length ≤ maxLen) : laws_szWordS.f l a = some (if (l.length : Int) ≤ a then a - l.length else -1) := by
  unfold maxLen at hl
  unfold laws_szWordS.f
  rw [show wrap64 (a - (l.length : Int)) = a - l.length from wrap_in (by omega) (by omega)]
  by_cases h : (l.length : Int) ≤ a
  · rw [if_neg (by omega), if_pos h]
  · rw [if_pos (by omega), if_neg h]

theorem toBoolS_rounds (l : List Bool) (hl : l.length ≤ 2000000) (d : Nat) : ∀ (k : Nat) (x : List Bool) (i : Int), 0 ≤ i → x.length = l.length → (l.length : Int) - i = d → d < k → ∃ r, laws_toBoolS.l0 k l x i = some r ∧ r.length = l.length := by
  induction d with
  | zero =>
    intro k x i h0 hx hd hk
    obtain ⟨k, rfl⟩ : ∃ m, k = m + 1 := ⟨k - 1, by omega⟩
    simp only [laws_toBoolS.l0]; rw [if_neg (by omega)]; exact ⟨x, rfl, hx⟩
  | succ d ih =>
    intro k x i h0 hx hd hk
    obtain ⟨k, rfl⟩ : ∃ m, k = m + 1 := ⟨k - 1, by omega⟩
    simp only [laws_toBoolS.l0]; rw [if_pos (by omega), if_pos h0, if_pos (by omega), show wrap64 (i + 1) = i + 1 from wrap_in (by omega) (by omega)]
    exact ih k _ (i + 1) (by omega) (by simpa using hx) (by omega) (by omega)
theorem toBoolS_tells (l : List Bool) (k : Nat) (hl : l.length ≤ 2000000) (hk : l.length < k) : ∃ r, laws_toBoolS.f k l = some r ∧ r.length = l.length := by
  unfold laws_toBoolS.f
  rw [if_pos (by omega), if_pos (by omega)]
  exact toBoolS_rounds l hl l.length k _ 0 (by omega) (by simp) (by omega) hk
theorem szBoolS_eq (l : List Bool) (a : Int) (ha : 0 ≤ a ∧ a ≤ 1048576) (hl : l.length ≤ maxLen) : laws_szBoolS.f l a = some (if (l.length : Int) ≤ a then a - l.length else -1) := by
  unfold maxLen at hl
  unfold laws_szBoolS.f
  rw [show wrap64 (a - (l.length : Int)) = a - l.length from wrap_in (by omega) (by omega)]
  by_cases h : (l.length : Int) ≤ a
  · rw [if_neg (by omega), if_pos h]
  · rw [if_pos (by omega), if_neg h]

theorem eqBoolS_rounds (l : List Bool) (hl : l.length ≤ 2000000) (d : Nat) : ∀ (k : Nat) (i : Int), 0 ≤ i → (l.length : Int) - i = d → d < k → laws_eqBoolS.l0 k l l i = some true := by
  induction d with
  | zero =>
    intro k i h0 hd hk
    obtain ⟨k, rfl⟩ : ∃ m, k = m + 1 := ⟨k - 1, by omega⟩
    simp only [laws_eqBoolS.l0]; rw [if_neg (by omega)]
  | succ d ih =>
    intro k i h0 hd hk
    obtain ⟨k, rfl⟩ : ∃ m, k = m + 1 := ⟨k - 1, by omega⟩
    simp only [laws_eqBoolS.l0]; rw [if_pos (by omega), if_pos h0, if_pos (by omega), if_neg (by simp)]
    rw [show wrap64 (i + 1) = i + 1 from wrap_in (by omega) (by omega)]
    exact ih k (i + 1) (by omega) (by omega) (by omega)
theorem eqBoolS_same (l : List Bool) (k : Nat) (hl : l.length ≤ 2000000) (hk : l.length < k) : laws_eqBoolS.f k l l = some true := by
  unfold laws_eqBoolS.f; rw [if_pos rfl]; exact eqBoolS_rounds l hl l.length k 0 (by omega) (by omega) hk

theorem szMemory_eq (l : List S29) (g : List Bool) (hl : l.length ≤ maxLen) (hg : g.length ≤ maxLen) : ∃ z, laws_szMemory.f l g 1048576 = some z ∧ (0 ≤ z → l.length ≤ 1048576 ∧ g.length ≤ 1048576) := by
  unfold laws_szMemory.f
  rw [szWordS_eq l _ (by omega) hl]; simp only [Option.bind_some]
  by_cases h : (l.length : Int) ≤ 1048576
  · rw [if_pos h, if_neg (by omega), szBoolS_eq g _ (by omega) hg]; simp only [Option.bind_some]
    by_cases h2 : (g.length : Int) ≤ 1048576 - l.length
    · rw [if_pos h2, if_neg (by omega)]; exact ⟨_, rfl, fun _ => by omega⟩
    · rw [if_neg h2, if_pos (by omega)]; exact ⟨_, rfl, fun h => by omega⟩
  · rw [if_neg h, if_pos (by omega)]; exact ⟨_, rfl, fun h => by omega⟩
theorem toMemory_tells (l : List S29) (g : List Bool) (k : Nat) (hl : l.length ≤ 1048576) (hg : g.length ≤ 1048576) (hk : l.length < k) (hk' : g.length < k) :
    ∃ a b, laws_toMemory.f k l g = some (a, b) ∧ a.length = l.length ∧ b.length = g.length := by
  obtain ⟨a, ha, ha'⟩ := toWordS_tells l k (by omega) hk
  obtain ⟨b, hb, hb'⟩ := toBoolS_tells g k (by omega) hk'
  refine ⟨a, b, ?_, ha', hb'⟩
  unfold laws_toMemory.f
  rw [ha, hb]; rfl
theorem eqMemory_same (a : List S39) (b : List Bool) (k : Nat) (ha : a.length ≤ 1048576) (hb : b.length ≤ 1048576) (hk : a.length < k) (hk' : b.length < k) : laws_eqMemory.f k a b a b = some true := by
  unfold laws_eqMemory.f
  rw [eqWordS_same a k (by omega) hk, eqBoolS_same b k (by omega) hk']; simp

theorem toMemory_all (l : List S29) (g : List Bool) (hl : l.length ≤ 1048576) (hg : g.length ≤ 1048576) :
    ∃ a b, (∀ k, l.length < k → g.length < k → laws_toMemory.f k l g = some (a, b)) ∧ a.length = l.length ∧ b.length = g.length := by
  obtain ⟨a, b, e, ha, hb⟩ := toMemory_tells l g (l.length + g.length + 1) hl hg (by omega) (by omega)
  refine ⟨a, b, fun k h1 h2 => ?_, ha, hb⟩
  obtain ⟨a', b', e', _⟩ := toMemory_tells l g k hl hg h1 h2
  rcases Nat.le_total (l.length + g.length + 1) k with h | h
  · exact at_rounds (fun k => laws_toMemory.mono l g k) h e
  · have := at_rounds (fun k => laws_toMemory.mono l g k) h e'
    rw [e] at this; rw [e', ← this]

theorem markMem_eq (k : Nat) (l : List S39) (g : List Bool) (hl : l.length ≤ 1048576) (hg : g.length ≤ 1048576) (hk : l.length < k) (hk' : g.length < k) : laws_markMemory.f k l g 1 = some (1 + 6 * (l.length : Int) + (g.length : Int), mkWs l.length 1, mkBs g.length (1 + 6 * (l.length : Int))) := by
  unfold laws_markMemory.f
  rw [markW_eq k l 1 (by omega) hk (by omega) (by omega)]; simp only [Option.bind_some]
  rw [markB_eq k g _ (by omega) hk' (by omega) (by omega)]; rfl
theorem heldMem_eq (k m n : Nat) (hl : m ≤ 1048576) (hg : n ≤ 1048576) (hk : m < k) (hk' : n < k) : laws_heldMemory.f k (mkWs m 1) (mkBs n (1 + 6 * (m : Int))) 1 = some (1 + 6 * (m : Int) + (n : Int)) := by
  unfold laws_heldMemory.f
  rw [heldW_eq k m 1 (by omega) hk (by omega) (by omega)]; simp only [Option.bind_some]
  rw [if_neg (by omega), heldB_eq k n _ (by omega) hk' (by omega) (by omega)]; simp only [Option.bind_some]
  rw [if_neg (by omega)]

theorem FnExactWrite : laws_FnExactWrite.Mine := by
  intro l g n i b t p s m n' i' b' t' p' s' hl hg _ _ _ _ _ _ _ _ _ _ _
  refine ⟨l.length + g.length + 60 + 1 + 1 + 1, ?_⟩
  unfold laws_FnExactWrite.f
  obtain ⟨z, e, hz⟩ := szMemory_eq l g hl hg
  rw [e]; simp only [Option.bind_some]
  by_cases h : z < 0
  · rw [if_pos h]
  rw [if_neg h]
  obtain ⟨h1, h2⟩ := hz (by omega)
  obtain ⟨a, c, e2, ha, hc⟩ := toMemory_all l g h1 h2
  have hd := writeM_len a c n i b t p s m n' i' b' t' p' s'
  have es := fun k hk => spec_Write_eq k a c n i b t p s m n' i' b' t' p' s' (by omega) hk
  have ei := fun k hk => impl_Write_eq k a c n i b t p s m n' i' b' t' p' s' (by omega) hk
  rw [e2 _ (by omega) (by omega)]; simp only [Option.bind_some, toWord_eq]
  rw [es _ (by omega), ei _ (by omega)]; simp only [Option.bind_some]
  generalize writeM a c n i b t p s m n' i' b' t' p' s' = x at *
  rw [eqMemory_same _ _ _ (by omega) (by omega) (by omega) (by omega)]
  simp only [Option.bind_some, if_true, laws_FnExactWrite.j0, bne_self_eq_false, Bool.false_eq_true, if_false]
  rw [e2 _ (by omega) (by omega)]; simp only [Option.bind_some]
  rw [eqMemory_same _ _ _ (by omega) (by omega) (by omega) (by omega), markMem_eq _ _ _ (by omega) (by omega) (by omega) (by omega)]
  simp only [Option.bind_some, if_true]
  rw [if_neg (by omega), eqMemory_same _ _ _ (by omega) (by omega) (by omega) (by omega)]
  simp only [Option.bind_some, if_true, laws_FnExactWrite.j1, Bool.false_eq_true, if_false]
  rw [markMem_eq _ _ _ (by omega) (by omega) (by omega) (by omega)]; simp only [Option.bind_some]
  rw [heldMem_eq _ _ _ (by omega) (by omega) (by omega) (by omega)]; simp only [Option.bind_some]
  rw [if_neg (by omega)]; simp only [if_true]
  rw [e2 _ (by omega) (by omega)]; simp only [Option.bind_some, toWord_eq]
  rw [ei _ (by omega)]; simp only [Option.bind_some]
  rw [eqMemory_same _ _ _ (by omega) (by omega) (by omega) (by omega)]
  simp only [Option.bind_some, if_true, laws_FnExactWrite.j2, bne_self_eq_false, Bool.false_eq_true, if_false]
  rw [heldMem_eq _ _ _ (by omega) (by omega) (by omega) (by omega)]; simp only [Option.bind_some]
  rw [if_neg (by omega)]; simp

end Go.Proofs.Ytbpalnplcgmjjaa.Pure
