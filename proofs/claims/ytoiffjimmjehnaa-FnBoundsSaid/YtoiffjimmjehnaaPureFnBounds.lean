/- Drawn bounds that are packed have all that they had and no more than is needed, and what is exact stays: the law answers true at every input; no conditions. -/
import Derived.Test.YtoiffjimmjehnaaPFnBoundsx5
namespace Go.Proofs.Ytoiffjimmjehnaa.Pure
open Go.RowKit Go.Proofs.Ytoiffjimmjehnaa.PFnBounds Go.Proofs.YtoiffjimmjehnaaW.PrintWords Go.Proofs.YtoiffjimmjehnaaW.PrintLast Go.Proofs.YtoiffjimmjehnaaW.PrintMore
set_option linter.unusedVariables false
set_option linter.unusedSimpArgs false

def laws_FnBounds.Mine : Prop := ∀ (l0 : List Int), l0.length ≤ maxLen → ∃ k, laws_FnBounds.f k l0 = some true

theorem i64_bits : IntKind.i64.bits = 64 := rfl
theorem wrap_i64' (n : Int) : IntKind.i64.wrap n = wrap64 n := by unfold wrap64; exact IntKind.wrap_i64 n
theorem wrap_in {n : Int} (h0 : -9223372036854775808 ≤ n) (h1 : n ≤ 9223372036854775807) : wrap64 n = n := by unfold wrap64; omega
theorem wrap_lo (n : Int) : -9223372036854775808 ≤ wrap64 n ∧ wrap64 n ≤ 9223372036854775807 := by unfold wrap64; omega

theorem impl_in_eq (n lo hi : Int) : impl_in.f n lo hi = some (decide (lo ≤ n ∧ n ≤ hi)) := by
  unfold impl_in.f; by_cases h : n ≥ lo
  · rw [if_pos h]; simp [show lo ≤ n from h]
  · rw [if_neg h]; simp [show ¬ lo ≤ n from h]
theorem spec_in_eq (n lo hi : Int) : spec_l1In.f n lo hi = some (decide (lo ≤ n ∧ n ≤ hi)) := by
  unfold spec_l1In.f; by_cases h : n ≥ lo
  · rw [if_pos h]; simp [show lo ≤ n from h]
  · rw [if_neg h]; simp [show ¬ lo ≤ n from h]

def bOk (b t : Int) : Bool := decide (0 ≤ b ∧ b ≤ t ∧ t ≤ 4096)
theorem bOk_iff (b t : Int) : bOk b t = true ↔ (0 ≤ b ∧ b ≤ t ∧ t ≤ 4096) := by unfold bOk; simp
theorem impl_BoundsOk_eq (a b : Int) : impl_BoundsOk.f a b = some (bOk a b) := by
  unfold impl_BoundsOk.f bOk; rw [impl_in_eq]; simp only [Option.bind_some]
  by_cases h : 0 ≤ a ∧ a ≤ b
  · rw [if_pos (decide_eq_true h)]; simp [h.1, h.2]
  · rw [if_neg (by simpa using h)]; congr 1; symm; simp; omega
theorem spec_BoundsOk_eq (a b : Int) : spec_BoundsOk.f a b = some (bOk a b) := by
  unfold spec_BoundsOk.f bOk; rw [spec_in_eq, spec_in_eq]; simp only [Option.bind_some]
  by_cases h : 0 ≤ a ∧ a ≤ 4096
  · rw [if_pos (decide_eq_true h)]
    by_cases h2 : 0 ≤ b ∧ b ≤ 4096
    · rw [if_pos (decide_eq_true h2)]; congr 1; rw [decide_eq_decide]; omega
    · rw [if_neg (by simpa using h2)]; congr 1; symm; simp; omega
  · rw [if_neg (by simpa using h)]; congr 1; symm; simp; omega

theorem shl_of {x e u : Int} (p : Nat) (hu : u = 2 ^ p) (he : e = p) (hp : p ≤ 63) (h0 : -9223372036854775808 ≤ x * u) (h1 : x * u ≤ 9223372036854775807) : shl .i64 x e = x * u := by
  subst hu he
  unfold shl
  rw [i64_bits, wrap_i64', Int.toNat_natCast, Nat.min_eq_left (by omega)]
  exact wrap_in h0 h1
theorem shr_of {x e u : Int} (p : Nat) (hu : u = 2 ^ p) (he : e = p) (hp : p ≤ 63) : shr .i64 x e = x / u := by
  subst hu he
  unfold shr
  rw [i64_bits, Int.toNat_natCast, Nat.min_eq_left (by omega)]

def fits (b t u : Int) : Bool := decide (b / u ≤ 63 ∧ (t - b / u * u + u - 1) / u ≤ 63)
def pkOf (b t e u : Int) : Int × Int × Int × Bool := (e, b / u, (t - b / u * u + u - 1) / u, true)
def packM (b t : Int) : Int × Int × Int × Bool :=
  if bOk b t = true then
    if fits b t 1 = true then pkOf b t 0 1 else if fits b t 2 = true then pkOf b t 1 2 else if fits b t 4 = true then pkOf b t 2 4
    else if fits b t 8 = true then pkOf b t 3 8 else if fits b t 16 = true then pkOf b t 4 16 else if fits b t 32 = true then pkOf b t 5 32
    else if fits b t 64 = true then pkOf b t 6 64 else (0, 0, 0, false)
  else (0, 0, 0, false)
theorem impl_pk_round (k : Nat) {b t e u e1 : Int} (p : Nat) (hu : u = 2 ^ p) (he : e = p) (h1 : e1 = e + 1) (hp : p ≤ 6) (h : 0 ≤ b ∧ b ≤ t ∧ t ≤ 4096) (u0 : 0 < u) (u1 : u ≤ 64)
    (q0 : 0 ≤ b / u) (q1 : b / u * u ≤ b) (q2 : b / u ≤ b) (r0 : 0 ≤ (t - b / u * u + u - 1) / u) (r1 : (t - b / u * u + u - 1) / u ≤ 5000) :
    impl_Pack.l0 (k + 1) b t e = if fits b t u = true then some (pkOf b t e u) else impl_Pack.l0 k b t e1 := by
  have hs : shl .i64 1 e = u := by rw [shl_of (u := u) p hu he (by omega) (by omega) (by omega)]; omega
  have q3 : 0 ≤ b / u * u := Int.mul_nonneg q0 (by omega)
  have w1 : wrap64 (Int.tdiv b u) = b / u := by rw [Int.tdiv_eq_ediv_of_nonneg (by omega)]; exact wrap_in (by omega) (by omega)
  have w2 : wrap64 (b / u * u) = b / u * u := wrap_in (by omega) (by omega)
  have w3 : wrap64 (t - b / u * u) = t - b / u * u := wrap_in (by omega) (by omega)
  have w4 : wrap64 (t - b / u * u + u) = t - b / u * u + u := wrap_in (by omega) (by omega)
  have w5 : wrap64 (t - b / u * u + u - 1) = t - b / u * u + u - 1 := wrap_in (by omega) (by omega)
  have w6 : wrap64 (Int.tdiv (t - b / u * u + u - 1) u) = (t - b / u * u + u - 1) / u := by
    rw [Int.tdiv_eq_ediv_of_nonneg (by omega)]; exact wrap_in (by omega) (by omega)
  have w7 : wrap64 (e + 1) = e1 := by rw [h1]; exact wrap_in (by omega) (by omega)
  simp only [impl_Pack.l0]
  rw [hs, w1, w2, w3, w4, w5, w6, w7, if_pos (by omega), if_pos (by omega), if_neg (by omega)]
  unfold fits pkOf
  by_cases g1 : b / u ≤ 63
  · rw [if_pos g1]
    by_cases g2 : (t - b / u * u + u - 1) / u ≤ 63
    · rw [if_pos g2, if_pos (decide_eq_true ⟨g1, g2⟩)]
    · rw [if_neg g2, if_neg (by simp [g2])]
  · rw [if_neg g1, if_neg (by simp [g1])]
theorem spec_pk_round (k : Nat) {b t e u e1 : Int} (p : Nat) (hu : u = 2 ^ p) (he : e = p) (h1 : e1 = e + 1) (hp : p ≤ 6) (h : 0 ≤ b ∧ b ≤ t ∧ t ≤ 4096) (u0 : 0 < u) (u1 : u ≤ 64)
    (q0 : 0 ≤ b / u) (q1 : b / u * u ≤ b) (q2 : b / u ≤ b) (r0 : 0 ≤ (t - b / u * u + u - 1) / u) (r1 : (t - b / u * u + u - 1) / u ≤ 5000) :
    spec_Pack.l0 (k + 1) b t e = if fits b t u = true then some (pkOf b t e u) else spec_Pack.l0 k b t e1 := by
  have q3 : 0 ≤ b / u * u := Int.mul_nonneg q0 (by omega)
  have hs : shl .i64 1 e = u := by rw [shl_of (u := u) p hu he (by omega) (by omega) (by omega)]; omega
  have hr : ∀ x, shr .i64 x e = x / u := fun x => shr_of p hu he (by omega)
  have hl : shl .i64 (b / u) e = b / u * u := shl_of p hu he (by omega) (by omega) (by omega)
  have w3 : wrap64 (t - b / u * u) = t - b / u * u := wrap_in (by omega) (by omega)
  have w4 : wrap64 (t - b / u * u + u) = t - b / u * u + u := wrap_in (by omega) (by omega)
  have w5 : wrap64 (t - b / u * u + u - 1) = t - b / u * u + u - 1 := wrap_in (by omega) (by omega)
  have w7 : wrap64 (e + 1) = e1 := by rw [h1]; exact wrap_in (by omega) (by omega)
  simp only [spec_Pack.l0]
  rw [hs, hr b, hl, w3, w4, w5, hr, w7, if_pos (by omega), if_pos (by omega)]
  unfold fits pkOf
  by_cases g1 : b / u ≤ 63
  · rw [if_pos g1]
    by_cases g2 : (t - b / u * u + u - 1) / u ≤ 63
    · rw [if_pos g2, if_pos (decide_eq_true ⟨g1, g2⟩)]
    · rw [if_neg g2, if_neg (by simp [g2])]
  · rw [if_neg g1, if_neg (by simp [g1])]
theorem impl_Pack_eq (k : Nat) (a b : Int) : impl_Pack.f (k + 8) a b = some (packM a b) := by
  unfold impl_Pack.f packM
  rw [impl_BoundsOk_eq]; simp only [Option.bind_some]
  by_cases h : bOk a b = true
  · rw [if_pos h, if_pos h]
    have H := (bOk_iff a b).1 h
    rw [impl_pk_round (k + 7) (u := 1) (e1 := 1) 0 (by omega) (by omega) (by omega) (by omega) H (by omega) (by omega) (by omega) (by omega) (by omega) (by omega) (by omega),
      impl_pk_round (k + 6) (u := 2) (e1 := 2) 1 (by omega) (by omega) (by omega) (by omega) H (by omega) (by omega) (by omega) (by omega) (by omega) (by omega) (by omega),
      impl_pk_round (k + 5) (u := 4) (e1 := 3) 2 (by omega) (by omega) (by omega) (by omega) H (by omega) (by omega) (by omega) (by omega) (by omega) (by omega) (by omega),
      impl_pk_round (k + 4) (u := 8) (e1 := 4) 3 (by omega) (by omega) (by omega) (by omega) H (by omega) (by omega) (by omega) (by omega) (by omega) (by omega) (by omega),
      impl_pk_round (k + 3) (u := 16) (e1 := 5) 4 (by omega) (by omega) (by omega) (by omega) H (by omega) (by omega) (by omega) (by omega) (by omega) (by omega) (by omega),
      impl_pk_round (k + 2) (u := 32) (e1 := 6) 5 (by omega) (by omega) (by omega) (by omega) H (by omega) (by omega) (by omega) (by omega) (by omega) (by omega) (by omega),
      impl_pk_round (k + 1) (u := 64) (e1 := 7) 6 (by omega) (by omega) (by omega) (by omega) H (by omega) (by omega) (by omega) (by omega) (by omega) (by omega) (by omega)]
    have hz : impl_Pack.l0 (k + 1) a b 7 = some (0, 0, 0, false) := by simp only [impl_Pack.l0]; rw [if_neg (by omega)]
    rw [hz]
    repeat (first | rfl | (split; rfl))
  · rw [if_neg h, if_neg h]
theorem spec_Pack_eq (k : Nat) (a b : Int) : spec_Pack.f (k + 8) a b = some (packM a b) := by
  unfold spec_Pack.f packM
  rw [spec_BoundsOk_eq]; simp only [Option.bind_some]
  by_cases h : bOk a b = true
  · rw [if_pos h, if_pos h]
    have H := (bOk_iff a b).1 h
    rw [spec_pk_round (k + 7) (u := 1) (e1 := 1) 0 (by omega) (by omega) (by omega) (by omega) H (by omega) (by omega) (by omega) (by omega) (by omega) (by omega) (by omega),
      spec_pk_round (k + 6) (u := 2) (e1 := 2) 1 (by omega) (by omega) (by omega) (by omega) H (by omega) (by omega) (by omega) (by omega) (by omega) (by omega) (by omega),
      spec_pk_round (k + 5) (u := 4) (e1 := 3) 2 (by omega) (by omega) (by omega) (by omega) H (by omega) (by omega) (by omega) (by omega) (by omega) (by omega) (by omega),
      spec_pk_round (k + 4) (u := 8) (e1 := 4) 3 (by omega) (by omega) (by omega) (by omega) H (by omega) (by omega) (by omega) (by omega) (by omega) (by omega) (by omega),
      spec_pk_round (k + 3) (u := 16) (e1 := 5) 4 (by omega) (by omega) (by omega) (by omega) H (by omega) (by omega) (by omega) (by omega) (by omega) (by omega) (by omega),
      spec_pk_round (k + 2) (u := 32) (e1 := 6) 5 (by omega) (by omega) (by omega) (by omega) H (by omega) (by omega) (by omega) (by omega) (by omega) (by omega) (by omega),
      spec_pk_round (k + 1) (u := 64) (e1 := 7) 6 (by omega) (by omega) (by omega) (by omega) H (by omega) (by omega) (by omega) (by omega) (by omega) (by omega) (by omega)]
    have hz : spec_Pack.l0 (k + 1) a b 7 = some (0, 0, 0, false) := by simp only [spec_Pack.l0]; rw [if_neg (by omega)]
    rw [hz]
    repeat (first | rfl | (split; rfl))
  · rw [if_neg h, if_neg h]

def mn4 (x : Int) : Int := if x < 4096 then x else 4096
def unpM (e b l : Int) : Int × Int × Bool :=
  if 0 ≤ e ∧ e ≤ 6 ∧ 0 ≤ b ∧ b ≤ 63 ∧ 0 ≤ l ∧ l ≤ 63 then (b * 2 ^ e.toNat, mn4 ((b + l) * 2 ^ e.toNat), true) else (0, 0, false)
theorem pow_le6 {e : Int} (h : 0 ≤ e ∧ e ≤ 6) : 1 ≤ (2 : Int) ^ e.toNat ∧ (2 : Int) ^ e.toNat ≤ 64 := by
  have h' : e = 0 ∨ e = 1 ∨ e = 2 ∨ e = 3 ∨ e = 4 ∨ e = 5 ∨ e = 6 := by omega
  rcases h' with rfl | rfl | rfl | rfl | rfl | rfl | rfl <;> decide
theorem shl_small6 {x e : Int} (h : 0 ≤ e ∧ e ≤ 6) (hx : 0 ≤ x ∧ x ≤ 100000) : shl .i64 x e = x * 2 ^ e.toNat := by
  have hp := pow_le6 h
  have h0 : 0 ≤ x * 2 ^ e.toNat := Int.mul_nonneg hx.1 (by omega)
  have h1 : x * 2 ^ e.toNat ≤ 100000 * 64 := by
    have := Int.mul_le_mul hx.2 hp.2 (by omega) (by omega); omega
  exact shl_of e.toNat rfl (by omega) (by omega) (by omega) (by omega)
theorem impl_Unpack_eq (e b l : Int) : impl_Unpack.f e b l = some (unpM e b l) := by
  unfold impl_Unpack.f unpM
  simp only [impl_in_eq, Option.bind_some]
  by_cases h1 : 0 ≤ e ∧ e ≤ 6
  · rw [if_pos (decide_eq_true h1)]
    by_cases h2 : 0 ≤ b ∧ b ≤ 63
    · rw [if_pos (decide_eq_true h2)]
      by_cases h3 : 0 ≤ l ∧ l ≤ 63
      · rw [if_pos (decide_eq_true h3), if_pos h1.1, if_pos ⟨h1.1, h1.2, h2.1, h2.2, h3.1, h3.2⟩, shl_small6 h1 ⟨h2.1, by omega⟩,
          wrap_in (n := b + l) (by omega) (by omega), shl_small6 (x := b + l) h1 ⟨by omega, by omega⟩]
        rfl
      · rw [if_neg (by simpa using h3), if_neg (by omega)]
    · rw [if_neg (by simpa using h2), if_neg (by omega)]
  · rw [if_neg (by simpa using h1), if_neg (by omega)]
theorem spec_Min4 (a : Int) : spec_l1Min.f a 4096 = some (mn4 a) := by unfold spec_l1Min.f mn4; split <;> rfl
theorem spec_Unpack_eq (e b l : Int) : spec_Unpack.f e b l = some (unpM e b l) := by
  unfold spec_Unpack.f unpM
  simp only [spec_in_eq, spec_Min4, Option.bind_some]
  by_cases h1 : 0 ≤ e ∧ e ≤ 6
  · rw [if_pos (decide_eq_true h1)]
    by_cases h2 : 0 ≤ b ∧ b ≤ 63
    · rw [if_pos (decide_eq_true h2)]
      by_cases h3 : 0 ≤ l ∧ l ≤ 63
      · rw [if_pos (decide_eq_true h3), if_pos h1.1, if_pos ⟨h1.1, h1.2, h2.1, h2.2, h3.1, h3.2⟩, shl_small6 h1 ⟨h2.1, by omega⟩,
          wrap_in (n := b + l) (by omega) (by omega), shl_small6 (x := b + l) h1 ⟨by omega, by omega⟩]
      · rw [if_neg (by simpa using h3), if_neg (by omega)]
    · rw [if_neg (by simpa using h2), if_neg (by omega)]
  · rw [if_neg (by simpa using h1), if_neg (by omega)]

def wdOf (b t u : Int) : Int × Int := (b / u * u, mn4 ((b / u + (t - b / u * u + u - 1) / u) * u))
def wideM (b t : Int) : Int × Int :=
  if bOk b t = true then
    if fits b t 1 = true then wdOf b t 1 else if fits b t 2 = true then wdOf b t 2 else if fits b t 4 = true then wdOf b t 4
    else if fits b t 8 = true then wdOf b t 8 else if fits b t 16 = true then wdOf b t 16 else if fits b t 32 = true then wdOf b t 32
    else if fits b t 64 = true then wdOf b t 64 else (0, 4096)
  else (0, 0)
theorem unp_pk {b t e u : Int} (p : Nat) (hu : u = 2 ^ p) (he : e = p) (hp : p ≤ 6) (hf : fits b t u = true) (q0 : 0 ≤ b / u) (r0 : 0 ≤ (t - b / u * u + u - 1) / u) :
    unpM (pkOf b t e u).1 (pkOf b t e u).2.1 (pkOf b t e u).2.2.1 = ((wdOf b t u).1, (wdOf b t u).2, true) := by
  unfold fits at hf
  have hf := of_decide_eq_true hf
  unfold unpM pkOf wdOf
  simp only
  rw [if_pos ⟨by omega, by omega, q0, hf.1, r0, hf.2⟩]
  subst hu he
  rfl
theorem pk_ok (b t e u : Int) : (pkOf b t e u).2.2.2 = true := rfl
theorem wide_pack (b t : Int) : (if (packM b t).2.2.2 = true then ((unpM (packM b t).1 (packM b t).2.1 (packM b t).2.2.1).1, (unpM (packM b t).1 (packM b t).2.1 (packM b t).2.2.1).2.1) else if bOk b t = true then (0, 4096) else (0, 0)) = wideM b t := by
  unfold packM wideM
  by_cases h : bOk b t = true
  · simp only [if_pos h]
    have H := (bOk_iff b t).1 h
    by_cases f1 : fits b t 1 = true
    · simp only [if_pos f1]; rw [if_pos (pk_ok b t 0 1), unp_pk (u := 1) 0 (by omega) (by omega) (by omega) f1 (by omega) (by omega)]
    simp only [if_neg f1]
    by_cases f2 : fits b t 2 = true
    · simp only [if_pos f2]; rw [if_pos (pk_ok b t 1 2), unp_pk (u := 2) 1 (by omega) (by omega) (by omega) f2 (by omega) (by omega)]
    simp only [if_neg f2]
    by_cases f3 : fits b t 4 = true
    · simp only [if_pos f3]; rw [if_pos (pk_ok b t 2 4), unp_pk (u := 4) 2 (by omega) (by omega) (by omega) f3 (by omega) (by omega)]
    simp only [if_neg f3]
    by_cases f4 : fits b t 8 = true
    · simp only [if_pos f4]; rw [if_pos (pk_ok b t 3 8), unp_pk (u := 8) 3 (by omega) (by omega) (by omega) f4 (by omega) (by omega)]
    simp only [if_neg f4]
    by_cases f5 : fits b t 16 = true
    · simp only [if_pos f5]; rw [if_pos (pk_ok b t 4 16), unp_pk (u := 16) 4 (by omega) (by omega) (by omega) f5 (by omega) (by omega)]
    simp only [if_neg f5]
    by_cases f6 : fits b t 32 = true
    · simp only [if_pos f6]; rw [if_pos (pk_ok b t 5 32), unp_pk (u := 32) 5 (by omega) (by omega) (by omega) f6 (by omega) (by omega)]
    simp only [if_neg f6]
    by_cases f7 : fits b t 64 = true
    · simp only [if_pos f7]; rw [if_pos (pk_ok b t 6 64), unp_pk (u := 64) 6 (by omega) (by omega) (by omega) f7 (by omega) (by omega)]
    simp only [if_neg f7]
    rw [if_neg (by decide)]
  · simp only [if_neg h]
    rw [if_neg (by decide)]
theorem pack_bOk {b t : Int} (h : ¬ bOk b t = true) : (packM b t).2.2.2 = false := by unfold packM; rw [if_neg h]
theorem impl_Wide_eq (k : Nat) (a b : Int) : impl_Wide.f (k + 8) a b = some (wideM a b) := by
  unfold impl_Wide.f
  rw [impl_BoundsOk_eq, impl_Pack_eq]; simp only [Option.bind_some, impl_Unpack_eq]
  have hw := wide_pack a b
  by_cases h : bOk a b = true
  · rw [if_pos h]; rw [if_pos h] at hw
    rw [← hw]; split <;> rfl
  · rw [if_neg h]; unfold wideM; rw [if_neg h]
theorem spec_Wide_eq (k : Nat) (a b : Int) : spec_Wide.f (k + 8) a b = some (wideM a b) := by
  unfold spec_Wide.f
  rw [spec_BoundsOk_eq, spec_Pack_eq]; simp only [Option.bind_some, spec_Unpack_eq]
  rw [← wide_pack a b]
  by_cases h : (packM a b).2.2.2 = true
  · rw [if_pos h, if_pos h]
  · rw [if_neg h, if_neg h]; split <;> rfl

def exactM (b t : Int) : Bool := bOk b t && decide ((wideM b t).1 = b) && decide ((wideM b t).2 = t)
theorem impl_Exact_eq (k : Nat) (a b : Int) : impl_Exact.f (k + 8) a b = some (exactM a b) := by
  unfold impl_Exact.f exactM
  rw [impl_BoundsOk_eq, impl_Wide_eq]; simp only [Option.bind_some]
  cases bOk a b <;> simp only [Bool.false_and, Bool.true_and, if_true, if_false, Bool.false_eq_true]
  by_cases h : (wideM a b).1 = a
  · rw [if_pos h]; simp [h]; by_cases h2 : (wideM a b).2 = b <;> simp [h2]
  · rw [if_neg h]; simp [h]
theorem spec_Exact_eq (k : Nat) (a b : Int) : spec_Exact.f (k + 8) a b = some (exactM a b) := by
  unfold spec_Exact.f exactM
  rw [spec_BoundsOk_eq, spec_Wide_eq]; simp only [Option.bind_some]
  cases bOk a b <;> simp only [Bool.false_and, Bool.true_and, if_true, if_false, Bool.false_eq_true]
  by_cases h : (wideM a b).1 = a
  · rw [if_pos h]; simp [h]; by_cases h2 : (wideM a b).2 = b <;> simp [h2]
  · rw [if_neg h]; simp [h]

def unitOk (u : Int) : Prop := u = 1 ∨ u = 2 ∨ u = 4 ∨ u = 8 ∨ u = 16 ∨ u = 32 ∨ u = 64
theorem fits_iff (b t u : Int) : fits b t u = true ↔ (b / u ≤ 63 ∧ (t - b / u * u + u - 1) / u ≤ 63) := by unfold fits; simp
theorem mn4_eq (x : Int) : (x < 4096 ∧ mn4 x = x) ∨ (4096 ≤ x ∧ mn4 x = 4096) := by unfold mn4; split <;> omega
theorem wd_facts {b t u : Int} (hu : unitOk u) (h : 0 ≤ b ∧ b ≤ t ∧ t ≤ 4096) (f : fits b t u = true) :
    0 ≤ (wdOf b t u).1 ∧ (wdOf b t u).1 ≤ b ∧ t ≤ (wdOf b t u).2 ∧ (wdOf b t u).2 ≤ 4096 ∧ (wdOf b t u).1 % u = 0 ∧ (wdOf b t u).2 % u = 0 ∧
      (wdOf b t u).2 - (wdOf b t u).1 ≤ t - b + 126 ∧ fits (wdOf b t u).1 (wdOf b t u).2 u = true := by
  have F := (fits_iff b t u).1 f
  unfold wdOf
  simp only [fits_iff]
  have M := mn4_eq ((b / u + (t - b / u * u + u - 1) / u) * u)
  generalize hm : mn4 ((b / u + (t - b / u * u + u - 1) / u) * u) = m at *
  rcases hu with rfl | rfl | rfl | rfl | rfl | rfl | rfl <;> (refine ⟨by omega, by omega, by omega, by omega, by omega, by omega, by omega, by omega, by omega⟩)
theorem wd_same {lo hi u : Int} (hu : unitOk u) (h : 0 ≤ lo ∧ lo ≤ hi ∧ hi ≤ 4096) (h1 : lo % u = 0) (h2 : hi % u = 0) : wdOf lo hi u = (lo, hi) := by
  unfold wdOf
  have M := mn4_eq ((lo / u + (hi - lo / u * u + u - 1) / u) * u)
  generalize hm : mn4 ((lo / u + (hi - lo / u * u + u - 1) / u) * u) = m at *
  rw [Prod.mk.injEq]
  rcases hu with rfl | rfl | rfl | rfl | rfl | rfl | rfl <;> (refine ⟨by omega, by omega⟩)
theorem wide_same {lo hi u : Int} (hu : unitOk u) (h : 0 ≤ lo ∧ lo ≤ hi ∧ hi ≤ 4096) (h1 : lo % u = 0) (h2 : hi % u = 0) (f : fits lo hi u = true) : wideM lo hi = (lo, hi) := by
  unfold wideM
  rw [if_pos ((bOk_iff lo hi).2 h)]
  by_cases f1 : fits lo hi 1 = true
  · rw [if_pos f1]; exact wd_same (by unfold unitOk; omega) h (by omega) (by omega)
  rw [if_neg f1]
  by_cases f2 : fits lo hi 2 = true
  · rw [if_pos f2]; rcases hu with rfl | rfl | rfl | rfl | rfl | rfl | rfl <;> first | exact absurd f ‹_› | exact wd_same (by unfold unitOk; omega) h (by omega) (by omega)
  rw [if_neg f2]
  by_cases f3 : fits lo hi 4 = true
  · rw [if_pos f3]; rcases hu with rfl | rfl | rfl | rfl | rfl | rfl | rfl <;> first | exact absurd f ‹_› | exact wd_same (by unfold unitOk; omega) h (by omega) (by omega)
  rw [if_neg f3]
  by_cases f4 : fits lo hi 8 = true
  · rw [if_pos f4]; rcases hu with rfl | rfl | rfl | rfl | rfl | rfl | rfl <;> first | exact absurd f ‹_› | exact wd_same (by unfold unitOk; omega) h (by omega) (by omega)
  rw [if_neg f4]
  by_cases f5 : fits lo hi 16 = true
  · rw [if_pos f5]; rcases hu with rfl | rfl | rfl | rfl | rfl | rfl | rfl <;> first | exact absurd f ‹_› | exact wd_same (by unfold unitOk; omega) h (by omega) (by omega)
  rw [if_neg f5]
  by_cases f6 : fits lo hi 32 = true
  · rw [if_pos f6]; rcases hu with rfl | rfl | rfl | rfl | rfl | rfl | rfl <;> first | exact absurd f ‹_› | exact wd_same (by unfold unitOk; omega) h (by omega) (by omega)
  rw [if_neg f6]
  by_cases f7 : fits lo hi 64 = true
  · rw [if_pos f7]; rcases hu with rfl | rfl | rfl | rfl | rfl | rfl | rfl <;> first | exact absurd f ‹_› | exact wd_same (by unfold unitOk; omega) h (by omega) (by omega)
  rcases hu with rfl | rfl | rfl | rfl | rfl | rfl | rfl <;> exact absurd f ‹_›
theorem wide_cases (b t : Int) (h : bOk b t = true) : (∃ u, unitOk u ∧ fits b t u = true ∧ wideM b t = wdOf b t u) ∨ wideM b t = (0, 4096) := by
  unfold wideM
  rw [if_pos h]
  by_cases f1 : fits b t 1 = true
  · rw [if_pos f1]; exact .inl ⟨1, by unfold unitOk; omega, f1, rfl⟩
  rw [if_neg f1]
  by_cases f2 : fits b t 2 = true
  · rw [if_pos f2]; exact .inl ⟨2, by unfold unitOk; omega, f2, rfl⟩
  rw [if_neg f2]
  by_cases f3 : fits b t 4 = true
  · rw [if_pos f3]; exact .inl ⟨4, by unfold unitOk; omega, f3, rfl⟩
  rw [if_neg f3]
  by_cases f4 : fits b t 8 = true
  · rw [if_pos f4]; exact .inl ⟨8, by unfold unitOk; omega, f4, rfl⟩
  rw [if_neg f4]
  by_cases f5 : fits b t 16 = true
  · rw [if_pos f5]; exact .inl ⟨16, by unfold unitOk; omega, f5, rfl⟩
  rw [if_neg f5]
  by_cases f6 : fits b t 32 = true
  · rw [if_pos f6]; exact .inl ⟨32, by unfold unitOk; omega, f6, rfl⟩
  rw [if_neg f6]
  by_cases f7 : fits b t 64 = true
  · rw [if_pos f7]; exact .inl ⟨64, by unfold unitOk; omega, f7, rfl⟩
  rw [if_neg f7]; exact .inr rfl
theorem wide_all : wideM 0 4096 = (0, 4096) := by decide
theorem wide_facts (b t : Int) (h : bOk b t = true) :
    0 ≤ (wideM b t).1 ∧ (wideM b t).1 ≤ b ∧ t ≤ (wideM b t).2 ∧ (wideM b t).2 ≤ 4096 ∧ exactM (wideM b t).1 (wideM b t).2 = true ∧
      ((wideM b t).2 - (wideM b t).1 ≤ t - b + 126 ∨ (wideM b t).2 - (wideM b t).1 = 4096) := by
  have H := (bOk_iff b t).1 h
  rcases wide_cases b t h with ⟨u, hu, f, e⟩ | e
  · have W := wd_facts hu H f
    rw [e]
    generalize wdOf b t u = p at *
    obtain ⟨lo, hi⟩ := p
    simp only at W ⊢
    have S := wide_same hu (lo := lo) (hi := hi) ⟨by omega, by omega, by omega⟩ W.2.2.2.2.1 W.2.2.2.2.2.1 W.2.2.2.2.2.2.2
    refine ⟨W.1, W.2.1, W.2.2.1, W.2.2.2.1, ?_, .inl W.2.2.2.2.2.2.1⟩
    unfold exactM
    rw [S]
    simp only [decide_true, Bool.and_true]
    exact (bOk_iff lo hi).2 ⟨by omega, by omega, by omega⟩
  · rw [e]
    refine ⟨by decide, by simp only; omega, by simp only; omega, by decide, ?_, .inr rfl⟩
    unfold exactM
    rw [wide_all]
    decide
theorem exact_iff (b t : Int) : exactM b t = true ↔ ((0 ≤ b ∧ b ≤ t ∧ t ≤ 4096) ∧ wideM b t = (b, t)) := by
  unfold exactM
  simp only [Bool.and_eq_true, decide_eq_true_eq, bOk_iff]
  constructor
  · rintro ⟨⟨h, h1⟩, h2⟩; exact ⟨h, Prod.ext h1 h2⟩
  · rintro ⟨h, h1⟩; rw [h1]; exact ⟨⟨h, rfl⟩, rfl⟩
theorem unp_bOk {e b l : Int} (h : (unpM e b l).2.2 = true) : bOk (unpM e b l).1 (unpM e b l).2.1 = true := by
  unfold unpM at *
  by_cases g : 0 ≤ e ∧ e ≤ 6 ∧ 0 ≤ b ∧ b ≤ 63 ∧ 0 ≤ l ∧ l ≤ 63
  · rw [if_pos g]
    rw [bOk_iff]
    simp only
    have M := mn4_eq ((b + l) * 2 ^ e.toNat)
    obtain ⟨h0, h6, hr⟩ := g
    have h' : e = 0 ∨ e = 1 ∨ e = 2 ∨ e = 3 ∨ e = 4 ∨ e = 5 ∨ e = 6 := by omega
    rcases h' with rfl | rfl | rfl | rfl | rfl | rfl | rfl <;> simp at M ⊢ <;> omega
  · rw [if_neg g] at h; exact absurd h (by decide)

theorem bits_and_raw (n m : Int) (p : Nat) (hm : (BitVec.ofInt 64 m).toNat = 2 ^ p - 1) :
    bits .and .i64 n m = wrap64 (((n % ((2 ^ 64 : Nat) : Int)).toNat % 2 ^ p : Nat) : Int) := by
  have key : (BitVec.ofInt 64 n &&& BitVec.ofInt 64 m).toNat = (n % ((2 ^ 64 : Nat) : Int)).toNat % 2 ^ p := by
    rw [BitVec.toNat_and, BitVec.toNat_ofInt, hm, Nat.and_two_pow_sub_one_eq_mod]
  show IntKind.i64.wrap ((BitVec.ofInt 64 n &&& BitVec.ofInt 64 m).toNat : Nat) = _
  rw [key, wrap_i64']
theorem and_255 (n : Int) : bits .and .i64 n 255 = n % 256 := by rw [bits_and_raw n 255 8 (by decide)]; unfold wrap64; omega
theorem and_65535 (n : Int) : bits .and .i64 n 65535 = n % 65536 := by rw [bits_and_raw n 65535 16 (by decide)]; unfold wrap64; omega
theorem and_63 (n : Int) : bits .and .i64 n 63 = n % 64 := by rw [bits_and_raw n 63 6 (by decide)]; unfold wrap64; omega
theorem and_15 (n : Int) : bits .and .i64 n 15 = n % 16 := by rw [bits_and_raw n 15 4 (by decide)]; unfold wrap64; omega
theorem and_7 (n : Int) : bits .and .i64 n 7 = n % 8 := by rw [bits_and_raw n 7 3 (by decide)]; unfold wrap64; omega

theorem new_rounds (l : List Int) (d : Nat) : ∀ (k : Nat) (x i : Int), 0 ≤ i → i ≤ 4000 → 4000 - i = d → d < k → ∃ h, spec_l1New.l0 k l x i = some (l, 0, h) := by
  induction d with
  | zero =>
    intro k x i h0 h1 hd hk
    obtain ⟨k, rfl⟩ : ∃ m, k = m + 1 := ⟨k - 1, by omega⟩
    simp only [spec_l1New.l0]
    by_cases hl : i < (l.length : Int)
    · rw [if_pos hl, if_neg (by omega)]; exact ⟨_, rfl⟩
    · rw [if_neg hl]; exact ⟨_, rfl⟩
  | succ d ih =>
    intro k x i h0 h1 hd hk
    obtain ⟨k, rfl⟩ : ∃ m, k = m + 1 := ⟨k - 1, by omega⟩
    simp only [spec_l1New.l0]
    by_cases hl : i < (l.length : Int)
    · rw [if_pos hl, if_pos (by omega), if_pos h0, show wrap64 (i + 1) = i + 1 from wrap_in (by omega) (by omega)]
      exact ih k _ (i + 1) (by omega) (by omega) (by omega) (by omega)
    · rw [if_neg hl]; exact ⟨_, rfl⟩
theorem new_tells (k : Nat) (l : List Int) (hk : 4001 ≤ k) : ∃ h, spec_l1New.f k l = some (l, 0, h) :=
  new_rounds l 4000 k _ 0 (by omega) (by omega) (by omega) (by omega)
theorem byte_tells (s : List Int) (i h : Int) (hs : s.length ≤ maxLen) (h0 : 0 ≤ i) : ∃ r i' h', spec_l1Byte.f s i h = some (r, i', h') ∧ 0 ≤ i' ∧ 0 ≤ r ∧ r ≤ 255 := by
  unfold maxLen at hs
  unfold spec_l1Byte.f
  by_cases hl : i < (s.length : Int)
  · rw [if_pos hl, if_pos h0, show wrap64 (i + 1) = i + 1 from wrap_in (by omega) (by omega), and_255]
    exact ⟨_, _, _, rfl, by omega, by omega, by omega⟩
  · rw [if_neg hl, and_255]
    exact ⟨_, _, _, rfl, by omega, by omega, by omega⟩
theorem tmod_in {a n : Int} (h : 0 ≤ a) (hn : 0 < n) : 0 ≤ Int.tmod a n ∧ Int.tmod a n < n := by
  rw [Int.tmod_eq_emod_of_nonneg h]; exact ⟨Int.emod_nonneg _ (by omega), Int.emod_lt_of_pos _ hn⟩
theorem below_tells (s : List Int) (i h n : Int) (hs : s.length ≤ maxLen) (h0 : 0 ≤ i) (hn : 0 < n) : ∃ r i' h', spec_l1Below.f s i h n = some (r, i', h') ∧ 0 ≤ i' ∧ 0 ≤ r ∧ r < n := by
  unfold spec_l1Below.f
  rw [if_neg (by omega)]
  by_cases hl : n ≤ 256
  · rw [if_pos hl]
    obtain ⟨r, i1, h1, e, hi, hr0, hr1⟩ := byte_tells s i h hs h0
    rw [e]; simp only [Option.bind_some]; rw [if_neg (by omega)]
    have := tmod_in hr0 hn
    exact ⟨_, _, _, rfl, hi, this.1, this.2⟩
  · rw [if_neg hl]
    obtain ⟨r1, i1, h1, e1, hi1, ha1, hb1⟩ := byte_tells s i h hs h0
    rw [e1]; simp only [Option.bind_some]
    obtain ⟨r2, i2, h2, e2, hi2, ha2, hb2⟩ := byte_tells s i1 h1 hs hi1
    rw [e2]; simp only [Option.bind_some]
    obtain ⟨r3, i3, h3, e3, hi3, ha3, hb3⟩ := byte_tells s i2 h2 hs hi2
    rw [e3]; simp only [Option.bind_some]
    obtain ⟨r4, i4, h4, e4, hi4, ha4, hb4⟩ := byte_tells s i3 h3 hs hi3
    rw [e4]; simp only [Option.bind_some]; rw [if_neg (by omega)]
    rw [wrap_in (n := r1 * 16777216) (by omega) (by omega), wrap_in (n := r2 * 65536) (by omega) (by omega), wrap_in (n := r3 * 256) (by omega) (by omega),
      wrap_in (n := r1 * 16777216 + r2 * 65536) (by omega) (by omega), wrap_in (n := r1 * 16777216 + r2 * 65536 + r3 * 256) (by omega) (by omega), wrap_in (n := r1 * 16777216 + r2 * 65536 + r3 * 256 + r4) (by omega) (by omega)]
    have := tmod_in (a := r1 * 16777216 + r2 * 65536 + r3 * 256 + r4) (n := n) (by omega) hn
    exact ⟨_, _, _, rfl, hi4, this.1, this.2⟩
theorem rd_mem (l : List Int) (i : Int) (h0 : 0 ≤ i) (h1 : i < (l.length : Int)) : rd l i ∈ l := by
  unfold rd
  rw [List.getD_eq_getElem?_getD, List.getElem?_eq_getElem (by omega)]
  exact List.getElem_mem _

theorem pick_tells (s : List Int) (i h : Int) (l : List Int) (hs : s.length ≤ maxLen) (h0 : 0 ≤ i) (hl : 0 < (l.length : Int)) : ∃ r i' h', spec_l1PickInt.f s i h l = some (r, i', h') ∧ 0 ≤ i' ∧ r ∈ l := by
  unfold spec_l1PickInt.f
  obtain ⟨r, i1, h1, e, hi, hr0, hr1⟩ := below_tells s i h l.length hs h0 hl
  rw [e]; simp only [Option.bind_some]
  rw [if_pos hr0, if_pos hr1]
  exact ⟨_, _, _, rfl, hi, rd_mem l r hr0 hr1⟩

theorem once_tells (s : List Int) (i h n : Int) (hs : s.length ≤ maxLen) (h0 : 0 ≤ i) (hn : 0 < n) : ∃ r i' h', spec_l1Once.f s i h n = some (r, i', h') ∧ 0 ≤ i' := by
  unfold spec_l1Once.f
  obtain ⟨r, i1, h1, e, hi, hr0, hr1⟩ := below_tells s i h n hs h0 hn
  rw [e]; exact ⟨_, _, _, rfl, hi⟩

theorem addr_tells (s : List Int) (i h : Int) (hs : s.length ≤ maxLen) (h0 : 0 ≤ i) : ∃ r i' h', spec_l1DrawAddr.f s i h = some (r, i', h') ∧ 0 ≤ i' := by
  unfold spec_l1DrawAddr.f
  obtain ⟨r, i1, h1, e, hi, _⟩ := pick_tells s i h ([0, 1, 5, 31, 32, 62, 63, 64, 65, 127, 128, 1000, 4000, 4032, 4095, 4096, 4097, (-1)] : List Int) hs h0 (by decide)
  rw [e]; exact ⟨_, _, _, rfl, hi⟩
theorem bounds_tells (k : Nat) (l : List Int) (hk : 4001 ≤ k) (hs : l.length ≤ maxLen) : ∃ a b, spec_l1DrawBounds.f k l = some (a, b) := by
  unfold spec_l1DrawBounds.f
  obtain ⟨h, e⟩ := new_tells k l hk
  rw [e]; simp only [Option.bind_some]
  obtain ⟨a, i1, h1, e1, hi1⟩ := addr_tells l 0 h hs (by omega)
  rw [e1]; simp only [Option.bind_some]
  obtain ⟨b, i2, h2, e2, hi2⟩ := once_tells l i1 h1 3 hs hi1 (by omega)
  rw [e2]; simp only [Option.bind_some]
  split
  · obtain ⟨c, i3, h3, e3, hi3⟩ := addr_tells l i2 h2 hs hi2
    rw [e3]; exact ⟨_, _, rfl⟩
  · obtain ⟨c, i3, h3, e3, hi3, _⟩ := pick_tells l i2 h2 ([0, 1, 7, 63, 64, 100, 500, 4096] : List Int) hs hi2 (by decide)
    rw [e3]; exact ⟨_, _, rfl⟩

theorem FnBounds : laws_FnBounds.Mine := by
  intro l hl
  refine ⟨5000 + 8 + 3, ?_⟩
  unfold laws_FnBounds.f laws_big.f
  simp only [Option.bind_some]
  by_cases hb : (l.length : Int) > 1048576
  · rw [if_pos (decide_eq_true hb)]
  rw [if_neg (by simpa using hb)]
  obtain ⟨a, b, e⟩ := bounds_tells (5000 + 8 + 3) l (by omega) hl
  unfold spec_DrawPack.f
  rw [e]; simp only [Option.bind_some]
  rw [show (5000 + 8 + 3 : Nat) = 5003 + 8 from rfl, impl_Pack_eq, spec_Pack_eq]
  simp only [Option.bind_some, bne_self_eq_false, beq_self_eq_true, Bool.not_true, Bool.or_false, Bool.false_eq_true, if_false, impl_BoundsOk_eq, spec_BoundsOk_eq]
  rw [show (5003 + 8 : Nat) = 5002 + 8 + 1 from rfl]
  simp only [laws_FnBounds.j0]
  rw [if_neg (by decide)]
  obtain ⟨x, y, e2⟩ := bounds_tells (5002 + 8) l (by omega) hl
  obtain ⟨h, e3⟩ := new_tells (5002 + 8) l (by omega)
  unfold spec_DrawWide.f spec_DrawExact.f spec_DrawBoundsOk.f
  rw [e2]; simp only [Option.bind_some, impl_Wide_eq, spec_Wide_eq, e3, impl_Exact_eq, spec_Exact_eq]
  obtain ⟨r, i1, h1, e4, hi, _, _⟩ := below_tells l 0 h 2 hl (by omega) (by omega)
  rw [e4]; simp only [Option.bind_some]
  have key : laws_FnBounds.j1 (5002 + 8) l x y (wideM x y).1 (wideM x y).2 false = some true := by
    rw [show (5002 + 8 : Nat) = 5009 + 1 from rfl]
    simp only [laws_FnBounds.j1]
    rw [if_neg (by decide)]
    have : ∃ p q r, spec_DrawUnpack.f 5009 l = some (p, q, r) := by
      unfold spec_DrawUnpack.f
      obtain ⟨h, e⟩ := new_tells 5009 l (by omega)
      rw [e]; simp only [Option.bind_some]
      obtain ⟨r1, i1, h1, e1, hi1, _, _⟩ := below_tells l 0 h 7 hl (by omega) (by omega)
      rw [e1]; simp only [Option.bind_some]
      obtain ⟨r2, i2, h2, e2, hi2, _, _⟩ := below_tells l i1 h1 64 hl hi1 (by omega)
      rw [e2]; simp only [Option.bind_some]
      obtain ⟨r3, i3, h3, e3, hi3, _, _⟩ := below_tells l i2 h2 64 hl hi2 (by omega)
      rw [e3]; simp only [Option.bind_some]
      obtain ⟨r4, i4, h4, e4, hi4, _, _⟩ := below_tells l i3 h3 9 hl hi3 (by omega)
      rw [e4]; simp only [Option.bind_some]
      split
      · obtain ⟨r5, i5, h5, e5, hi5, _⟩ := pick_tells l i4 h4 [(-1), 7] hl hi4 (by decide)
        rw [e5]; exact ⟨_, _, _, rfl⟩
      split
      · obtain ⟨r5, i5, h5, e5, hi5, _⟩ := pick_tells l i4 h4 [(-1), 64] hl hi4 (by decide)
        rw [e5]; exact ⟨_, _, _, rfl⟩
      split
      · obtain ⟨r5, i5, h5, e5, hi5, _⟩ := pick_tells l i4 h4 [(-1), 64] hl hi4 (by decide)
        rw [e5]; exact ⟨_, _, _, rfl⟩
      exact ⟨_, _, _, rfl⟩
    obtain ⟨p, q, r, e⟩ := this
    rw [e]; simp only [Option.bind_some, impl_Unpack_eq, spec_Unpack_eq, impl_BoundsOk_eq]
    have fin : laws_FnBounds.j2 5009 x y (wideM x y).1 (wideM x y).2 false = some true := by
      rw [show (5009 : Nat) = 5000 + 8 + 1 from rfl]
      simp only [laws_FnBounds.j2]
      rw [if_neg (by decide)]
      simp only [spec_BoundsOk_eq, Option.bind_some]
      by_cases g : bOk x y = true
      · rw [if_pos g]
        have W := wide_facts x y g
        have G := (bOk_iff x y).1 g
        simp only [impl_Exact_eq, Option.bind_some]
        rw [if_pos (by omega), if_pos (by omega), if_pos W.2.2.2.2.1]
        rw [wrap_in (n := (wideM x y).2 - (wideM x y).1) (by omega) (by omega), wrap_in (n := y - x) (by omega) (by omega), wrap_in (n := y - x + 126) (by omega) (by omega)]
        rcases W.2.2.2.2.2 with w | w
        · rw [if_pos w]
        · rw [w]; split <;> rfl
      · rw [if_neg g]
        unfold wideM
        rw [if_neg g]
        rfl
    rw [if_neg (by simp)]
    split
    · rename_i hu
      rw [unp_bOk hu]
      exact fin
    · exact fin
  split
  · simp only [Option.bind_some, if_true, impl_Exact_eq, spec_Exact_eq, impl_BoundsOk_eq, spec_BoundsOk_eq, bne_self_eq_false, Bool.false_eq_true, if_false]
    exact key
  · simp only [Option.bind_some, if_true, impl_Exact_eq, spec_Exact_eq, impl_BoundsOk_eq, spec_BoundsOk_eq, bne_self_eq_false, Bool.false_eq_true, if_false]
    exact key

end Go.Proofs.Ytoiffjimmjehnaa.Pure
