/- What the program's Work gives for a place and four words is what the reference gives, in every field; no conditions. -/
import Derived.Test.YtgfaicenpoahoaaPFnExactWorkx16
namespace Go.Proofs.Ytgfaicenpoahoaa.Pure
open Go.RowKit Go.Proofs.Ytgfaicenpoahoaa.PFnExactWork Go.Proofs.YtgfaicenpoahoaaW.PrintWords Go.Proofs.YtgfaicenpoahoaaW.PrintLast Go.Proofs.YtgfaicenpoahoaaW.PrintMore
set_option linter.unusedVariables false
set_option linter.unusedSimpArgs false

def laws_FnExactWork.Mine : Prop := ∀ (a0_0 : Int) (a0_1 : Int) (a0_2 : Int) (a0_3 : Int) (a0_4 : Int) (a1_0 : Int) (a1_1 : Bool) (a1_2 : Int) (a1_3 : Int) (a1_4 : Int) (a1_5 : Int) (a2_0 : Int) (a2_1 : Bool) (a2_2 : Int) (a2_3 : Int) (a2_4 : Int) (a2_5 : Int) (a3_0 : Int) (a3_1 : Bool) (a3_2 : Int) (a3_3 : Int) (a3_4 : Int) (a3_5 : Int) (a4_0 : Int) (a4_1 : Bool) (a4_2 : Int) (a4_3 : Int) (a4_4 : Int) (a4_5 : Int), (Lit.int .i64 a0_0).wf = true → (Lit.int .i64 a0_1).wf = true → (Lit.int .i64 a0_2).wf = true → (Lit.int .i64 a0_3).wf = true → (Lit.int .i64 a0_4).wf = true → (Lit.int .i64 a1_0).wf = true → (Lit.int .i64 a1_2).wf = true → (Lit.int .i64 a1_3).wf = true → (Lit.int .i64 a1_4).wf = true → (Lit.int .i64 a1_5).wf = true → (Lit.int .i64 a2_0).wf = true → (Lit.int .i64 a2_2).wf = true → (Lit.int .i64 a2_3).wf = true → (Lit.int .i64 a2_4).wf = true → (Lit.int .i64 a2_5).wf = true → (Lit.int .i64 a3_0).wf = true → (Lit.int .i64 a3_2).wf = true → (Lit.int .i64 a3_3).wf = true → (Lit.int .i64 a3_4).wf = true → (Lit.int .i64 a3_5).wf = true → (Lit.int .i64 a4_0).wf = true → (Lit.int .i64 a4_2).wf = true → (Lit.int .i64 a4_3).wf = true → (Lit.int .i64 a4_4).wf = true → (Lit.int .i64 a4_5).wf = true → ∃ k, laws_FnExactWork.f k a0_0 a0_1 a0_2 a0_3 a0_4 a1_0 a1_1 a1_2 a1_3 a1_4 a1_5 a2_0 a2_1 a2_2 a2_3 a2_4 a2_5 a3_0 a3_1 a3_2 a3_3 a3_4 a3_5 a4_0 a4_1 a4_2 a4_3 a4_4 a4_5 = some true

theorem i64_bits : IntKind.i64.bits = 64 := rfl
theorem wrap_i64' (n : Int) : IntKind.i64.wrap n = wrap64 n := by unfold wrap64; exact IntKind.wrap_i64 n
theorem wrap_in {n : Int} (h0 : -9223372036854775808 ≤ n) (h1 : n ≤ 9223372036854775807) : wrap64 n = n := by unfold wrap64; omega
theorem wrap_lo (n : Int) : -9223372036854775808 ≤ wrap64 n ∧ wrap64 n ≤ 9223372036854775807 := by unfold wrap64; omega

def hR (op : Int) : Bool := decide ((1 ≤ op ∧ op ≤ 10) ∨ op = 12)
def hA (op : Int) : Bool := decide (2 ≤ op ∧ op ≤ 14)
def hB (op : Int) : Bool := decide (op = 2 ∨ (4 ≤ op ∧ op ≤ 8) ∨ op = 11)
def hN (op : Int) : Bool := decide (op = 1 ∨ op = 6 ∨ op = 10 ∨ op = 11 ∨ op = 13)
def hOp (op : Int) : Bool := decide (1 ≤ op ∧ op ≤ 15)
theorem op_cases (op : Int) : op = 1 ∨ op = 2 ∨ op = 3 ∨ op = 4 ∨ op = 5 ∨ op = 6 ∨ op = 7 ∨ op = 8 ∨ op = 9 ∨ op = 10 ∨ op = 11 ∨ op = 12 ∨ op = 13 ∨ op = 14 ∨ op = 15 ∨ ¬ (1 ≤ op ∧ op ≤ 15) := by omega
theorem formOf_none (k : Nat) (op : Int) (h : ¬ (1 ≤ op ∧ op ≤ 15)) : impl_formOf.f (k + 2) op = some ((⟨#[]⟩ : ByteArray), false) := by
  have ne : ∀ m : Int, 1 ≤ m → m ≤ 15 → op ≠ m := fun m _ _ => by omega
  unfold impl_formOf.f
  simp [impl_formOf.j0, impl_formOf.j1, ne]
theorem formOf_ok (k : Nat) (op : Int) : ∃ s, impl_formOf.f (k + 2) op = some (s, hOp op) := by
  rcases op_cases op with rfl | rfl | rfl | rfl | rfl | rfl | rfl | rfl | rfl | rfl | rfl | rfl | rfl | rfl | rfl | h
  case inr.inr.inr.inr.inr.inr.inr.inr.inr.inr.inr.inr.inr.inr.inr => exact ⟨(⟨#[]⟩ : ByteArray), by rw [formOf_none k op h]; simp [hOp, h]⟩
  all_goals exact ⟨_, rfl⟩
theorem hasPart_up {k : Nat} {op r a b n p : Int} {v : Bool} (hk : 12 ≤ k) (h : impl_hasPart.f 12 op 0 0 0 0 p = some v) : impl_hasPart.f k op r a b n p = some v :=
  at_rounds (fun k => impl_hasPart.mono op r a b n p k) hk h
theorem hasPart_none (k : Nat) (op r a b n p : Int) (hk : 12 ≤ k) (h : ¬ (1 ≤ op ∧ op ≤ 15)) : impl_hasPart.f k op r a b n p = some false := by
  refine at_rounds (fun k => impl_hasPart.mono op r a b n p k) hk ?_
  show impl_hasPart.f 12 op r a b n p = some false
  unfold impl_hasPart.f
  rw [formOf_none 10 op h]
  rfl
theorem hasPart_R (k : Nat) (op r a b n : Int) (hk : 12 ≤ k) : impl_hasPart.f k op r a b n 82 = some (hR op) := by
  rcases op_cases op with rfl | rfl | rfl | rfl | rfl | rfl | rfl | rfl | rfl | rfl | rfl | rfl | rfl | rfl | rfl | h
  case inr.inr.inr.inr.inr.inr.inr.inr.inr.inr.inr.inr.inr.inr.inr => rw [hasPart_none k op r a b n 82 hk h]; congr 1; symm; unfold hR; simp; omega
  all_goals exact hasPart_up hk (by decide +kernel)
theorem hasPart_A (k : Nat) (op r a b n : Int) (hk : 12 ≤ k) : impl_hasPart.f k op r a b n 65 = some (hA op) := by
  rcases op_cases op with rfl | rfl | rfl | rfl | rfl | rfl | rfl | rfl | rfl | rfl | rfl | rfl | rfl | rfl | rfl | h
  case inr.inr.inr.inr.inr.inr.inr.inr.inr.inr.inr.inr.inr.inr.inr => rw [hasPart_none k op r a b n 65 hk h]; congr 1; symm; unfold hA; simp; omega
  all_goals exact hasPart_up hk (by decide +kernel)
theorem hasPart_B (k : Nat) (op r a b n : Int) (hk : 12 ≤ k) : impl_hasPart.f k op r a b n 66 = some (hB op) := by
  rcases op_cases op with rfl | rfl | rfl | rfl | rfl | rfl | rfl | rfl | rfl | rfl | rfl | rfl | rfl | rfl | rfl | h
  case inr.inr.inr.inr.inr.inr.inr.inr.inr.inr.inr.inr.inr.inr.inr => rw [hasPart_none k op r a b n 66 hk h]; congr 1; symm; unfold hB; simp; omega
  all_goals exact hasPart_up hk (by decide +kernel)
theorem hasPart_N (k : Nat) (op r a b n : Int) (hk : 12 ≤ k) : impl_hasPart.f k op r a b n 78 = some (hN op) := by
  rcases op_cases op with rfl | rfl | rfl | rfl | rfl | rfl | rfl | rfl | rfl | rfl | rfl | rfl | rfl | rfl | rfl | h
  case inr.inr.inr.inr.inr.inr.inr.inr.inr.inr.inr.inr.inr.inr.inr => rw [hasPart_none k op r a b n 78 hk h]; congr 1; symm; unfold hN; simp; omega
  all_goals exact hasPart_up hk (by decide +kernel)

theorem impl_in_eq (n lo hi : Int) : impl_in.f n lo hi = some (decide (lo ≤ n ∧ n ≤ hi)) := by
  unfold impl_in.f; by_cases h : n ≥ lo
  · rw [if_pos h]; simp [show lo ≤ n from h]
  · rw [if_neg h]; simp [show ¬ lo ≤ n from h]
theorem spec_in_eq (n lo hi : Int) : spec_l1In.f n lo hi = some (decide (lo ≤ n ∧ n ≤ hi)) := by
  unfold spec_l1In.f; by_cases h : n ≥ lo
  · rw [if_pos h]; simp [show lo ≤ n from h]
  · rw [if_neg h]; simp [show ¬ lo ≤ n from h]

theorem has_bits4 (op : Int) : ∃ t, spec_l6Has.f op = some t ∧ ((bits .and .i64 t 1) != 0) = hR op ∧ ((bits .and .i64 t 2) != 0) = hA op ∧ ((bits .and .i64 t 4) != 0) = hB op ∧ ((bits .and .i64 t 8) = 0 ↔ hN op = false) := by
  rcases op_cases op with rfl | rfl | rfl | rfl | rfl | rfl | rfl | rfl | rfl | rfl | rfl | rfl | rfl | rfl | rfl | h
  case inr.inr.inr.inr.inr.inr.inr.inr.inr.inr.inr.inr.inr.inr.inr =>
    refine ⟨0, ?_, ?_, ?_, ?_, ?_⟩
    · unfold spec_l6Has.f; rw [spec_in_eq]; simp only [Option.bind_some]; rw [if_neg (by simpa using h)]
    · have : hR op = false := by unfold hR; simp; omega
      rw [this]; decide +kernel
    · have : hA op = false := by unfold hA; simp; omega
      rw [this]; decide +kernel
    · have : hB op = false := by unfold hB; simp; omega
      rw [this]; decide +kernel
    · have : hN op = false := by unfold hN; simp; omega
      rw [this]; decide +kernel
  all_goals exact ⟨_, rfl, by decide +kernel, by decide +kernel, by decide +kernel, by decide +kernel⟩

def bOk (b t : Int) : Bool := decide (0 ≤ b ∧ b ≤ t ∧ t ≤ 4096)
theorem bOk_iff (b t : Int) : bOk b t = true ↔ (0 ≤ b ∧ b ≤ t ∧ t ≤ 4096) := by unfold bOk; simp
theorem impl_BoundsOk_eq (a b : Int) : impl_BoundsOk.f a b = some (bOk a b) := by
  unfold impl_BoundsOk.f bOk; rw [impl_in_eq]; simp only [Option.bind_some]
  by_cases h : 0 ≤ a ∧ a ≤ b
  · rw [if_pos (decide_eq_true h)]; simp [h.1, h.2]
  · rw [if_neg (by simpa using h)]; congr 1; symm; simp; omega
theorem spec_BoundsOk_eq (a b : Int) : spec_BoundsOk.f a b = some (bOk a b) := by
  unfold spec_BoundsOk.f bOk; rw [spec_in_eq, spec_in_eq]; simp only [Option.bind_some]
  by_cases h : 0 ≤ a ∧ a ≤ 4096
  · rw [if_pos (decide_eq_true h)]
    by_cases h2 : 0 ≤ b ∧ b ≤ 4096
    · rw [if_pos (decide_eq_true h2)]; congr 1; rw [decide_eq_decide]; omega
    · rw [if_neg (by simpa using h2)]; congr 1; symm; simp; omega
  · rw [if_neg (by simpa using h)]; congr 1; symm; simp; omega

theorem shl_of {x e u : Int} (p : Nat) (hu : u = 2 ^ p) (he : e = p) (hp : p ≤ 63) (h0 : -9223372036854775808 ≤ x * u) (h1 : x * u ≤ 9223372036854775807) : shl .i64 x e = x * u := by
  subst hu he
  unfold shl
  rw [i64_bits, wrap_i64', Int.toNat_natCast, Nat.min_eq_left (by omega)]
  exact wrap_in h0 h1
theorem shr_of {x e u : Int} (p : Nat) (hu : u = 2 ^ p) (he : e = p) (hp : p ≤ 63) : shr .i64 x e = x / u := by
  subst hu he
  unfold shr
  rw [i64_bits, Int.toNat_natCast, Nat.min_eq_left (by omega)]

def fits (b t u : Int) : Bool := decide (b / u ≤ 63 ∧ (t - b / u * u + u - 1) / u ≤ 63)
def pkOf (b t e u : Int) : Int × Int × Int × Bool := (e, b / u, (t - b / u * u + u - 1) / u, true)
def packM (b t : Int) : Int × Int × Int × Bool :=
  if bOk b t = true then
    if fits b t 1 = true then pkOf b t 0 1 else if fits b t 2 = true then pkOf b t 1 2 else if fits b t 4 = true then pkOf b t 2 4
    else if fits b t 8 = true then pkOf b t 3 8 else if fits b t 16 = true then pkOf b t 4 16 else if fits b t 32 = true then pkOf b t 5 32
    else if fits b t 64 = true then pkOf b t 6 64 else (0, 0, 0, false)
  else (0, 0, 0, false)
theorem impl_pk_round (k : Nat) {b t e u e1 : Int} (p : Nat) (hu : u = 2 ^ p) (he : e = p) (h1 : e1 = e + 1) (hp : p ≤ 6) (h : 0 ≤ b ∧ b ≤ t ∧ t ≤ 4096) (u0 : 0 < u) (u1 : u ≤ 64)
    (q0 : 0 ≤ b / u) (q1 : b / u * u ≤ b) (q2 : b / u ≤ b) (r0 : 0 ≤ (t - b / u * u + u - 1) / u) (r1 : (t - b / u * u + u - 1) / u ≤ 5000) :
    impl_Pack.l0 (k + 1) b t e = if fits b t u = true then some (pkOf b t e u) else impl_Pack.l0 k b t e1 := by
  have hs : shl .i64 1 e = u := by rw [shl_of (u := u) p hu he (by omega) (by omega) (by omega)]; omega
  have q3 : 0 ≤ b / u * u := Int.mul_nonneg q0 (by omega)
  have w1 : wrap64 (Int.tdiv b u) = b / u := by rw [Int.tdiv_eq_ediv_of_nonneg (by omega)]; exact wrap_in (by omega) (by omega)
  have w2 : wrap64 (b / u * u) = b / u * u := wrap_in (by omega) (by omega)
  have w3 : wrap64 (t - b / u * u) = t - b / u * u := wrap_in (by omega) (by omega)
  have w4 : wrap64 (t - b / u * u + u) = t - b / u * u + u := wrap_in (by omega) (by omega)
  have w5 : wrap64 (t - b / u * u + u - 1) = t - b / u * u + u - 1 := wrap_in (by omega) (by omega)
  have w6 : wrap64 (Int.tdiv (t - b / u * u + u - 1) u) = (t - b / u * u + u - 1) / u := by
    rw [Int.tdiv_eq_ediv_of_nonneg (by omega)]; exact wrap_in (by omega) (by omega)
  have w7 : wrap64 (e + 1) = e1 := by rw [h1]; exact wrap_in (by omega) (by omega)
  simp only [impl_Pack.l0]
  rw [hs, w1, w2, w3, w4, w5, w6, w7, if_pos (by omega), if_pos (by omega), if_neg (by omega)]
  unfold fits pkOf
  by_cases g1 : b / u ≤ 63
  · rw [if_pos g1]
    by_cases g2 : (t - b / u * u + u - 1) / u ≤ 63
    · rw [if_pos g2, if_pos (decide_eq_true ⟨g1, g2⟩)]
    · rw [if_neg g2, if_neg (by simp [g2])]
  · rw [if_neg g1, if_neg (by simp [g1])]
theorem spec_pk_round (k : Nat) {b t e u e1 : Int} (p : Nat) (hu : u = 2 ^ p) (he : e = p) (h1 : e1 = e + 1) (hp : p ≤ 6) (h : 0 ≤ b ∧ b ≤ t ∧ t ≤ 4096) (u0 : 0 < u) (u1 : u ≤ 64)
    (q0 : 0 ≤ b / u) (q1 : b / u * u ≤ b) (q2 : b / u ≤ b) (r0 : 0 ≤ (t - b / u * u + u - 1) / u) (r1 : (t - b / u * u + u - 1) / u ≤ 5000) :
    spec_Pack.l0 (k + 1) b t e = if fits b t u = true then some (pkOf b t e u) else spec_Pack.l0 k b t e1 := by
  have q3 : 0 ≤ b / u * u := Int.mul_nonneg q0 (by omega)
  have hs : shl .i64 1 e = u := by rw [shl_of (u := u) p hu he (by omega) (by omega) (by omega)]; omega
  have hr : ∀ x, shr .i64 x e = x / u := fun x => shr_of p hu he (by omega)
  have hl : shl .i64 (b / u) e = b / u * u := shl_of p hu he (by omega) (by omega) (by omega)
  have w3 : wrap64 (t - b / u * u) = t - b / u * u := wrap_in (by omega) (by omega)
  have w4 : wrap64 (t - b / u * u + u) = t - b / u * u + u := wrap_in (by omega) (by omega)
  have w5 : wrap64 (t - b / u * u + u - 1) = t - b / u * u + u - 1 := wrap_in (by omega) (by omega)
  have w7 : wrap64 (e + 1) = e1 := by rw [h1]; exact wrap_in (by omega) (by omega)
  simp only [spec_Pack.l0]
  rw [hs, hr b, hl, w3, w4, w5, hr, w7, if_pos (by omega), if_pos (by omega)]
  unfold fits pkOf
  by_cases g1 : b / u ≤ 63
  · rw [if_pos g1]
    by_cases g2 : (t - b / u * u + u - 1) / u ≤ 63
    · rw [if_pos g2, if_pos (decide_eq_true ⟨g1, g2⟩)]
    · rw [if_neg g2, if_neg (by simp [g2])]
  · rw [if_neg g1, if_neg (by simp [g1])]
theorem impl_Pack_eq (k : Nat) (a b : Int) : impl_Pack.f (k + 8) a b = some (packM a b) := by
  unfold impl_Pack.f packM
  rw [impl_BoundsOk_eq]; simp only [Option.bind_some]
  by_cases h : bOk a b = true
  · rw [if_pos h, if_pos h]
    have H := (bOk_iff a b).1 h
    rw [impl_pk_round (k + 7) (u := 1) (e1 := 1) 0 (by omega) (by omega) (by omega) (by omega) H (by omega) (by omega) (by omega) (by omega) (by omega) (by omega) (by omega),
      impl_pk_round (k + 6) (u := 2) (e1 := 2) 1 (by omega) (by omega) (by omega) (by omega) H (by omega) (by omega) (by omega) (by omega) (by omega) (by omega) (by omega),
      impl_pk_round (k + 5) (u := 4) (e1 := 3) 2 (by omega) (by omega) (by omega) (by omega) H (by omega) (by omega) (by omega) (by omega) (by omega) (by omega) (by omega),
      impl_pk_round (k + 4) (u := 8) (e1 := 4) 3 (by omega) (by omega) (by omega) (by omega) H (by omega) (by omega) (by omega) (by omega) (by omega) (by omega) (by omega),
      impl_pk_round (k + 3) (u := 16) (e1 := 5) 4 (by omega) (by omega) (by omega) (by omega) H (by omega) (by omega) (by omega) (by omega) (by omega) (by omega) (by omega),
      impl_pk_round (k + 2) (u := 32) (e1 := 6) 5 (by omega) (by omega) (by omega) (by omega) H (by omega) (by omega) (by omega) (by omega) (by omega) (by omega) (by omega),
      impl_pk_round (k + 1) (u := 64) (e1 := 7) 6 (by omega) (by omega) (by omega) (by omega) H (by omega) (by omega) (by omega) (by omega) (by omega) (by omega) (by omega)]
    have hz : impl_Pack.l0 (k + 1) a b 7 = some (0, 0, 0, false) := by simp only [impl_Pack.l0]; rw [if_neg (by omega)]
    rw [hz]
    repeat (first | rfl | (split; rfl))
  · rw [if_neg h, if_neg h]
theorem spec_Pack_eq (k : Nat) (a b : Int) : spec_Pack.f (k + 8) a b = some (packM a b) := by
  unfold spec_Pack.f packM
  rw [spec_BoundsOk_eq]; simp only [Option.bind_some]
  by_cases h : bOk a b = true
  · rw [if_pos h, if_pos h]
    have H := (bOk_iff a b).1 h
    rw [spec_pk_round (k + 7) (u := 1) (e1 := 1) 0 (by omega) (by omega) (by omega) (by omega) H (by omega) (by omega) (by omega) (by omega) (by omega) (by omega) (by omega),
      spec_pk_round (k + 6) (u := 2) (e1 := 2) 1 (by omega) (by omega) (by omega) (by omega) H (by omega) (by omega) (by omega) (by omega) (by omega) (by omega) (by omega),
      spec_pk_round (k + 5) (u := 4) (e1 := 3) 2 (by omega) (by omega) (by omega) (by omega) H (by omega) (by omega) (by omega) (by omega) (by omega) (by omega) (by omega),
      spec_pk_round (k + 4) (u := 8) (e1 := 4) 3 (by omega) (by omega) (by omega) (by omega) H (by omega) (by omega) (by omega) (by omega) (by omega) (by omega) (by omega),
      spec_pk_round (k + 3) (u := 16) (e1 := 5) 4 (by omega) (by omega) (by omega) (by omega) H (by omega) (by omega) (by omega) (by omega) (by omega) (by omega) (by omega),
      spec_pk_round (k + 2) (u := 32) (e1 := 6) 5 (by omega) (by omega) (by omega) (by omega) H (by omega) (by omega) (by omega) (by omega) (by omega) (by omega) (by omega),
      spec_pk_round (k + 1) (u := 64) (e1 := 7) 6 (by omega) (by omega) (by omega) (by omega) H (by omega) (by omega) (by omega) (by omega) (by omega) (by omega) (by omega)]
    have hz : spec_Pack.l0 (k + 1) a b 7 = some (0, 0, 0, false) := by simp only [spec_Pack.l0]; rw [if_neg (by omega)]
    rw [hz]
    repeat (first | rfl | (split; rfl))
  · rw [if_neg h, if_neg h]

def mn4 (x : Int) : Int := if x < 4096 then x else 4096
def unpM (e b l : Int) : Int × Int × Bool :=
  if 0 ≤ e ∧ e ≤ 6 ∧ 0 ≤ b ∧ b ≤ 63 ∧ 0 ≤ l ∧ l ≤ 63 then (b * 2 ^ e.toNat, mn4 ((b + l) * 2 ^ e.toNat), true) else (0, 0, false)
theorem pow_le6 {e : Int} (h : 0 ≤ e ∧ e ≤ 6) : 1 ≤ (2 : Int) ^ e.toNat ∧ (2 : Int) ^ e.toNat ≤ 64 := by
  have h' : e = 0 ∨ e = 1 ∨ e = 2 ∨ e = 3 ∨ e = 4 ∨ e = 5 ∨ e = 6 := by omega
  rcases h' with rfl | rfl | rfl | rfl | rfl | rfl | rfl <;> decide
theorem shl_small6 {x e : Int} (h : 0 ≤ e ∧ e ≤ 6) (hx : 0 ≤ x ∧ x ≤ 100000) : shl .i64 x e = x * 2 ^ e.toNat := by
  have hp := pow_le6 h
  have h0 : 0 ≤ x * 2 ^ e.toNat := Int.mul_nonneg hx.1 (by omega)
  have h1 : x * 2 ^ e.toNat ≤ 100000 * 64 := by
    have := Int.mul_le_mul hx.2 hp.2 (by omega) (by omega); omega
  exact shl_of e.toNat rfl (by omega) (by omega) (by omega) (by omega)
theorem impl_Unpack_eq (e b l : Int) : impl_Unpack.f e b l = some (unpM e b l) := by
  unfold impl_Unpack.f unpM
  simp only [impl_in_eq, Option.bind_some]
  by_cases h1 : 0 ≤ e ∧ e ≤ 6
  · rw [if_pos (decide_eq_true h1)]
    by_cases h2 : 0 ≤ b ∧ b ≤ 63
    · rw [if_pos (decide_eq_true h2)]
      by_cases h3 : 0 ≤ l ∧ l ≤ 63
      · rw [if_pos (decide_eq_true h3), if_pos h1.1, if_pos ⟨h1.1, h1.2, h2.1, h2.2, h3.1, h3.2⟩, shl_small6 h1 ⟨h2.1, by omega⟩,
          wrap_in (n := b + l) (by omega) (by omega), shl_small6 (x := b + l) h1 ⟨by omega, by omega⟩]
        rfl
      · rw [if_neg (by simpa using h3), if_neg (by omega)]
    · rw [if_neg (by simpa using h2), if_neg (by omega)]
  · rw [if_neg (by simpa using h1), if_neg (by omega)]
theorem spec_Min4 (a : Int) : spec_l1Min.f a 4096 = some (mn4 a) := by unfold spec_l1Min.f mn4; split <;> rfl
theorem spec_Unpack_eq (e b l : Int) : spec_Unpack.f e b l = some (unpM e b l) := by
  unfold spec_Unpack.f unpM
  simp only [spec_in_eq, spec_Min4, Option.bind_some]
  by_cases h1 : 0 ≤ e ∧ e ≤ 6
  · rw [if_pos (decide_eq_true h1)]
    by_cases h2 : 0 ≤ b ∧ b ≤ 63
    · rw [if_pos (decide_eq_true h2)]
      by_cases h3 : 0 ≤ l ∧ l ≤ 63
      · rw [if_pos (decide_eq_true h3), if_pos h1.1, if_pos ⟨h1.1, h1.2, h2.1, h2.2, h3.1, h3.2⟩, shl_small6 h1 ⟨h2.1, by omega⟩,
          wrap_in (n := b + l) (by omega) (by omega), shl_small6 (x := b + l) h1 ⟨by omega, by omega⟩]
      · rw [if_neg (by simpa using h3), if_neg (by omega)]
    · rw [if_neg (by simpa using h2), if_neg (by omega)]
  · rw [if_neg (by simpa using h1), if_neg (by omega)]

def wdOf (b t u : Int) : Int × Int := (b / u * u, mn4 ((b / u + (t - b / u * u + u - 1) / u) * u))
def wideM (b t : Int) : Int × Int :=
  if bOk b t = true then
    if fits b t 1 = true then wdOf b t 1 else if fits b t 2 = true then wdOf b t 2 else if fits b t 4 = true then wdOf b t 4
    else if fits b t 8 = true then wdOf b t 8 else if fits b t 16 = true then wdOf b t 16 else if fits b t 32 = true then wdOf b t 32
    else if fits b t 64 = true then wdOf b t 64 else (0, 4096)
  else (0, 0)
theorem unp_pk {b t e u : Int} (p : Nat) (hu : u = 2 ^ p) (he : e = p) (hp : p ≤ 6) (hf : fits b t u = true) (q0 : 0 ≤ b / u) (r0 : 0 ≤ (t - b / u * u + u - 1) / u) :
    unpM (pkOf b t e u).1 (pkOf b t e u).2.1 (pkOf b t e u).2.2.1 = ((wdOf b t u).1, (wdOf b t u).2, true) := by
  unfold fits at hf
  have hf := of_decide_eq_true hf
  unfold unpM pkOf wdOf
  simp only
  rw [if_pos ⟨by omega, by omega, q0, hf.1, r0, hf.2⟩]
  subst hu he
  rfl
theorem pk_ok (b t e u : Int) : (pkOf b t e u).2.2.2 = true := rfl
theorem wide_pack (b t : Int) : (if (packM b t).2.2.2 = true then ((unpM (packM b t).1 (packM b t).2.1 (packM b t).2.2.1).1, (unpM (packM b t).1 (packM b t).2.1 (packM b t).2.2.1).2.1) else if bOk b t = true then (0, 4096) else (0, 0)) = wideM b t := by
  unfold packM wideM
  by_cases h : bOk b t = true
  · simp only [if_pos h]
    have H := (bOk_iff b t).1 h
    by_cases f1 : fits b t 1 = true
    · simp only [if_pos f1]; rw [if_pos (pk_ok b t 0 1), unp_pk (u := 1) 0 (by omega) (by omega) (by omega) f1 (by omega) (by omega)]
    simp only [if_neg f1]
    by_cases f2 : fits b t 2 = true
    · simp only [if_pos f2]; rw [if_pos (pk_ok b t 1 2), unp_pk (u := 2) 1 (by omega) (by omega) (by omega) f2 (by omega) (by omega)]
    simp only [if_neg f2]
    by_cases f3 : fits b t 4 = true
    · simp only [if_pos f3]; rw [if_pos (pk_ok b t 2 4), unp_pk (u := 4) 2 (by omega) (by omega) (by omega) f3 (by omega) (by omega)]
    simp only [if_neg f3]
    by_cases f4 : fits b t 8 = true
    · simp only [if_pos f4]; rw [if_pos (pk_ok b t 3 8), unp_pk (u := 8) 3 (by omega) (by omega) (by omega) f4 (by omega) (by omega)]
    simp only [if_neg f4]
    by_cases f5 : fits b t 16 = true
    · simp only [if_pos f5]; rw [if_pos (pk_ok b t 4 16), unp_pk (u := 16) 4 (by omega) (by omega) (by omega) f5 (by omega) (by omega)]
    simp only [if_neg f5]
    by_cases f6 : fits b t 32 = true
    · simp only [if_pos f6]; rw [if_pos (pk_ok b t 5 32), unp_pk (u := 32) 5 (by omega) (by omega) (by omega) f6 (by omega) (by omega)]
    simp only [if_neg f6]
    by_cases f7 : fits b t 64 = true
    · simp only [if_pos f7]; rw [if_pos (pk_ok b t 6 64), unp_pk (u := 64) 6 (by omega) (by omega) (by omega) f7 (by omega) (by omega)]
    simp only [if_neg f7]
    rw [if_neg (by decide)]
  · simp only [if_neg h]
    rw [if_neg (by decide)]
theorem pack_bOk {b t : Int} (h : ¬ bOk b t = true) : (packM b t).2.2.2 = false := by unfold packM; rw [if_neg h]
theorem impl_Wide_eq (k : Nat) (a b : Int) : impl_Wide.f (k + 8) a b = some (wideM a b) := by
  unfold impl_Wide.f
  rw [impl_BoundsOk_eq, impl_Pack_eq]; simp only [Option.bind_some, impl_Unpack_eq]
  have hw := wide_pack a b
  by_cases h : bOk a b = true
  · rw [if_pos h]; rw [if_pos h] at hw
    rw [← hw]; split <;> rfl
  · rw [if_neg h]; unfold wideM; rw [if_neg h]
theorem spec_Wide_eq (k : Nat) (a b : Int) : spec_Wide.f (k + 8) a b = some (wideM a b) := by
  unfold spec_Wide.f
  rw [spec_BoundsOk_eq, spec_Pack_eq]; simp only [Option.bind_some, spec_Unpack_eq]
  rw [← wide_pack a b]
  by_cases h : (packM a b).2.2.2 = true
  · rw [if_pos h, if_pos h]
  · rw [if_neg h, if_neg h]; split <;> rfl

def exactM (b t : Int) : Bool := bOk b t && decide ((wideM b t).1 = b) && decide ((wideM b t).2 = t)
theorem impl_Exact_eq (k : Nat) (a b : Int) : impl_Exact.f (k + 8) a b = some (exactM a b) := by
  unfold impl_Exact.f exactM
  rw [impl_BoundsOk_eq, impl_Wide_eq]; simp only [Option.bind_some]
  cases bOk a b <;> simp only [Bool.false_and, Bool.true_and, if_true, if_false, Bool.false_eq_true]
  by_cases h : (wideM a b).1 = a
  · rw [if_pos h]; simp [h]; by_cases h2 : (wideM a b).2 = b <;> simp [h2]
  · rw [if_neg h]; simp [h]
theorem spec_Exact_eq (k : Nat) (a b : Int) : spec_Exact.f (k + 8) a b = some (exactM a b) := by
  unfold spec_Exact.f exactM
  rw [spec_BoundsOk_eq, spec_Wide_eq]; simp only [Option.bind_some]
  cases bOk a b <;> simp only [Bool.false_and, Bool.true_and, if_true, if_false, Bool.false_eq_true]
  by_cases h : (wideM a b).1 = a
  · rw [if_pos h]; simp [h]; by_cases h2 : (wideM a b).2 = b <;> simp [h2]
  · rw [if_neg h]; simp [h]

theorem toNat_wrap (v : BitVec 64) : IntKind.i64.wrap (v.toNat : Int) = v.toInt := by
  rw [IntKind.wrap_i64, BitVec.toInt_eq_toNat_cond]
  have := v.isLt
  split <;> omega
theorem ofInt_toInt {x : Int} (h0 : -9223372036854775808 ≤ x) (h1 : x ≤ 9223372036854775807) : (BitVec.ofInt 64 x).toInt = x := by
  rw [← toNat_wrap, BitVec.toNat_ofInt, IntKind.wrap_i64]
  omega
theorem bv_sub (a b : BitVec 64) : b &&& a = a ↔ a &&& ~~~b = 0#64 := by
  constructor
  · intro h
    rw [← h]
    ext i hi
    simp
    intro h1 h2
    simp [h1]
  · intro h
    ext i hi
    have := congrArg (fun v => v[i]) h
    simp at this ⊢
    exact this
theorem bits_and_bv (x y : Int) : bits .and .i64 x y = (BitVec.ofInt 64 x &&& BitVec.ofInt 64 y).toInt := toNat_wrap _
theorem bits_andNot_bv (x y : Int) : bits .andNot .i64 x y = (BitVec.ofInt 64 x &&& ~~~(BitVec.ofInt 64 y)).toInt := toNat_wrap _
theorem toInt_zero_iff (v : BitVec 64) : v.toInt = 0 ↔ v = 0#64 := by
  constructor
  · intro h; exact BitVec.eq_of_toInt_eq (by rw [h]; rfl)
  · rintro rfl; rfl
theorem sub_iff {p' : Int} (p : Int) (h0 : -9223372036854775808 ≤ p') (h1 : p' ≤ 9223372036854775807) : bits .and .i64 p p' = p' ↔ bits .andNot .i64 p' p = 0 := by
  rw [bits_and_bv, bits_andNot_bv, toInt_zero_iff, ← bv_sub]
  constructor
  · intro h; exact BitVec.eq_of_toInt_eq (by rw [h, ofInt_toInt h0 h1])
  · intro h; rw [h, ofInt_toInt h0 h1]
theorem sub_trans {a b c : Int} (h : bits .andNot .i64 b a = 0) (k : bits .andNot .i64 c b = 0) : bits .andNot .i64 c a = 0 := by
  rw [bits_andNot_bv, toInt_zero_iff] at *
  generalize BitVec.ofInt 64 a = x at *
  generalize BitVec.ofInt 64 b = y at *
  generalize BitVec.ofInt 64 c = z at *
  ext i hi
  have h1 := congrArg (fun v => v[i]) h
  have h2 := congrArg (fun v => v[i]) k
  simp at h1 h2 ⊢
  exact fun h3 => h1 (h2 h3)
theorem sub_refl (a : Int) : bits .andNot .i64 a a = 0 := by
  rw [bits_andNot_bv, toInt_zero_iff]
  ext i hi
  simp
theorem and_sub (a b : Int) : bits .andNot .i64 (bits .and .i64 a b) a = 0 := by
  rw [bits_andNot_bv, toInt_zero_iff, bits_and_bv, BitVec.ofInt_toInt]
  ext i hi
  simp
  intro h1 h2
  simp [h1]
theorem and_sub' (a b : Int) : bits .andNot .i64 (bits .and .i64 a b) b = 0 := by
  rw [bits_andNot_bv, toInt_zero_iff, bits_and_bv, BitVec.ofInt_toInt]
  ext i hi
  simp
theorem and_le63 {a : Int} (b : Int) (h : 0 ≤ a ∧ a ≤ 63) : 0 ≤ bits .and .i64 a b ∧ bits .and .i64 a b ≤ 63 := by
  rw [bits_and_bv]
  have h1 : (BitVec.ofInt 64 a &&& BitVec.ofInt 64 b).toNat ≤ 63 := by
    rw [BitVec.toNat_and]
    refine Nat.le_trans Nat.and_le_left ?_
    rw [BitVec.toNat_ofInt]
    omega
  rw [BitVec.toInt_eq_toNat_cond]
  split <;> omega
theorem sub63 {a : Int} (h : 0 ≤ a ∧ a ≤ 63) : bits .andNot .i64 a 63 = 0 := by
  have h' : a = 0 ∨ a = 1 ∨ a = 2 ∨ a = 3 ∨ 4 ≤ a := by omega
  rw [← sub_iff 63 (by omega) (by omega), bits_and_bv]
  have h1 : (BitVec.ofInt 64 63 &&& BitVec.ofInt 64 a).toNat = a.toNat := by
    rw [BitVec.toNat_and, show (BitVec.ofInt 64 63).toNat = 2 ^ 6 - 1 from by decide, Nat.and_comm, Nat.and_two_pow_sub_one_eq_mod, BitVec.toNat_ofInt]
    omega
  rw [BitVec.toInt_eq_toNat_cond, h1]
  split <;> omega

def kOk (b t p s : Int) : Bool := exactM b t && (decide (0 ≤ p ∧ p ≤ 63) && decide (0 ≤ s ∧ s ≤ 7))
theorem kOk_iff (b t p s : Int) : kOk b t p s = true ↔ (exactM b t = true ∧ (0 ≤ p ∧ p ≤ 63) ∧ (0 ≤ s ∧ s ≤ 7)) := by
  unfold kOk; simp only [Bool.and_eq_true, decide_eq_true_eq]

theorem impl_KeyOk_eq (k : Nat) (b t p s : Int) : impl_KeyOk.f (k + 8) b t p s = some (kOk b t p s) := by
  unfold impl_KeyOk.f kOk
  simp only [impl_Exact_eq, impl_in_eq, Option.bind_some]
  cases exactM b t <;> simp only [Bool.false_and, Bool.true_and, if_true, if_false, Bool.false_eq_true]
  cases decide (0 ≤ p ∧ p ≤ 63) <;> simp
theorem spec_KeyOk_eq (k : Nat) (b t p s : Int) : spec_KeyOk.f (k + 8) b t p s = some (kOk b t p s) := by
  unfold spec_KeyOk.f kOk
  simp only [spec_Exact_eq, spec_in_eq, Option.bind_some]
  cases exactM b t <;> simp only [Bool.false_and, Bool.true_and, if_true, if_false, Bool.false_eq_true]
  cases decide (0 ≤ p ∧ p ≤ 63) <;> simp

def wOk (n : Int) (i : Bool) (b t p s : Int) : Bool := decide (0 ≤ n ∧ n ≤ 65535) && (if i = true then kOk b t p s else (b == 0 && (t == 0 && (p == 0 && (s == 0)))))
theorem impl_WordOk_eq (k : Nat) (n : Int) (i : Bool) (b t p s : Int) : impl_WordOk.f (k + 8) n i b t p s = some (wOk n i b t p s) := by
  unfold impl_WordOk.f wOk
  simp only [impl_KeyOk_eq, impl_in_eq, Option.bind_some]
  cases decide (0 ≤ n ∧ n ≤ 65535) <;> cases i <;> simp
theorem spec_WordOk_eq (k : Nat) (n : Int) (i : Bool) (b t p s : Int) : spec_WordOk.f (k + 8) n i b t p s = some (wOk n i b t p s) := by
  unfold spec_WordOk.f wOk
  simp only [spec_KeyOk_eq, spec_in_eq, Option.bind_some]
  cases decide (0 ≤ n ∧ n ≤ 65535) <;> cases i <;> simp
  cases kOk b t p s <;> simp
theorem wOk_key {n b t p s : Int} (h : wOk n true b t p s = true) : (0 ≤ n ∧ n ≤ 65535) ∧ kOk b t p s = true := by
  unfold wOk at h; simpa only [Bool.and_eq_true, decide_eq_true_eq, if_true] using h

def opM (n : Int) (i : Bool) (b t p s : Int) : Bool := wOk n i b t p s && (i && (s == 0))
theorem impl_open_eq (k : Nat) (n : Int) (i : Bool) (b t p s : Int) : impl_open.f (k + 8) n i b t p s = some (opM n i b t p s) := by
  unfold impl_open.f opM
  simp only [impl_WordOk_eq, Option.bind_some]
  cases wOk n i b t p s <;> cases i <;> simp
theorem spec_Open_eq (k : Nat) (n : Int) (i : Bool) (b t p s : Int) : spec_l4Open.f (k + 8) n i b t p s = some (opM n i b t p s) := by
  unfold spec_l4Open.f opM
  simp only [spec_WordOk_eq, Option.bind_some]
  cases wOk n i b t p s <;> cases i <;> simp
theorem op_true {n : Int} {i : Bool} {b t p s : Int} (h : opM n i b t p s = true) : i = true ∧ s = 0 ∧ (0 ≤ n ∧ n ≤ 65535) ∧ kOk b t p s = true := by
  unfold opM at h
  simp only [Bool.and_eq_true, beq_iff_eq] at h
  obtain ⟨h1, rfl, h3⟩ := h
  have := wOk_key h1
  exact ⟨rfl, h3, this.1, this.2⟩

theorem bits_and_raw (n m : Int) (p : Nat) (hm : (BitVec.ofInt 64 m).toNat = 2 ^ p - 1) :
    bits .and .i64 n m = wrap64 (((n % ((2 ^ 64 : Nat) : Int)).toNat % 2 ^ p : Nat) : Int) := by
  have key : (BitVec.ofInt 64 n &&& BitVec.ofInt 64 m).toNat = (n % ((2 ^ 64 : Nat) : Int)).toNat % 2 ^ p := by
    rw [BitVec.toNat_and, BitVec.toNat_ofInt, hm, Nat.and_two_pow_sub_one_eq_mod]
  show IntKind.i64.wrap ((BitVec.ofInt 64 n &&& BitVec.ofInt 64 m).toNat : Nat) = _
  rw [key, wrap_i64']
theorem and_255 (n : Int) : bits .and .i64 n 255 = n % 256 := by rw [bits_and_raw n 255 8 (by decide)]; unfold wrap64; omega
theorem and_65535 (n : Int) : bits .and .i64 n 65535 = n % 65536 := by rw [bits_and_raw n 65535 16 (by decide)]; unfold wrap64; omega
theorem and_63 (n : Int) : bits .and .i64 n 63 = n % 64 := by rw [bits_and_raw n 63 6 (by decide)]; unfold wrap64; omega
theorem and_15 (n : Int) : bits .and .i64 n 15 = n % 16 := by rw [bits_and_raw n 15 4 (by decide)]; unfold wrap64; omega
theorem and_7 (n : Int) : bits .and .i64 n 7 = n % 8 := by rw [bits_and_raw n 7 3 (by decide)]; unfold wrap64; omega

def plainM (n : Int) : Int × Bool × Int × Int × Int × Int := (n % 65536, false, 0, 0, 0, 0)
theorem impl_Plain_eq (n : Int) : impl_Plain.f n = some (plainM n) := by unfold impl_Plain.f plainM; rw [and_65535]
theorem spec_Plain_eq (n : Int) : spec_Plain.f n = some (plainM n) := by unfold spec_Plain.f plainM; rw [and_65535]

def pointM (n : Int) (i : Bool) (b t p s m : Int) : Int × Bool × Int × Int × Int × Int := if opM n i b t p s = true then (m % 65536, true, b, t, p, s) else plainM m
theorem impl_Point_eq (k : Nat) (n : Int) (i : Bool) (b t p s m : Int) : impl_Point.f (k + 8) n i b t p s m = some (pointM n i b t p s m) := by
  unfold impl_Point.f pointM
  simp only [impl_open_eq, impl_Plain_eq, Option.bind_some]
  split <;> rfl
theorem spec_Point_eq (k : Nat) (n : Int) (i : Bool) (b t p s m : Int) : spec_Point.f (k + 8) n i b t p s m = some (pointM n i b t p s m) := by
  unfold spec_Point.f pointM
  simp only [spec_Open_eq, spec_Plain_eq, Option.bind_some, and_65535]
  split
  · rename_i h; rw [(op_true h).1]
  · rfl

def tryM (n : Int) (i : Bool) (b t p s m q : Int) : Int :=
  if (i && wOk n i b t p s) = true then (if s = 0 then (if bits .andNot .i64 q p = 0 then (if m < b then 4 else if t ≤ m then 4 else 0) else 3) else 2) else 1
theorem impl_Try_eq (k : Nat) (n : Int) (i : Bool) (b t p s m q : Int) : impl_Try.f (k + 10) n i b t p s m q = some (tryM n i b t p s m q) := by
  unfold impl_Try.f tryM
  simp only [impl_WordOk_eq, Option.bind_some]
  cases i
  · simp [impl_Try.j0]
  · cases hw : wOk n true b t p s
    · simp [impl_Try.j0]
    · simp only [impl_Try.j0, if_true, Bool.not_true, Bool.false_eq_true, if_false, Bool.and_self]
      by_cases h1 : s = 0 <;> by_cases h2 : bits .andNot .i64 q p = 0 <;> by_cases h3 : m < b <;> by_cases h4 : m ≥ t <;> simp [h1, h2, h3, h4] <;> (try omega)
theorem spec_Try_eq (k : Nat) (n : Int) (i : Bool) (b t p s m q : Int) (hq0 : -9223372036854775808 ≤ q) (hq1 : q ≤ 9223372036854775807) : spec_Try.f (k + 10) n i b t p s m q = some (tryM n i b t p s m q) := by
  unfold spec_Try.f tryM
  simp only [spec_WordOk_eq, Option.bind_some]
  cases i
  · cases wOk n false b t p s <;> simp [spec_Try.j0]
  · cases hw : wOk n true b t p s
    · simp [spec_Try.j0]
    · simp only [spec_Try.j0, if_true, Bool.not_true, Bool.false_eq_true, if_false, Bool.and_self]
      by_cases h1 : s = 0 <;> by_cases h2 : bits .andNot .i64 q p = 0 <;> by_cases h3 : m < b <;> by_cases h4 : m ≥ t <;> simp [h1, h2, h3, h4, sub_iff p hq0 hq1] <;> (try omega)

theorem impl_Bare_eq (n : Int) (i : Bool) (b t p s : Int) : impl_Bare.f n i b t p s = some (plainM n) := by unfold impl_Bare.f; rw [impl_Plain_eq]; rfl
theorem spec_Bare_eq (n : Int) (i : Bool) (b t p s : Int) : spec_Bare.f n i b t p s = some (plainM n) := by unfold spec_Bare.f; rw [spec_Plain_eq]; rfl

def weakM (n : Int) (i : Bool) (b t p s m : Int) : Int × Bool × Int × Int × Int × Int := if opM n i b t p s = true then (n, i, b, t, bits .and .i64 p (bits .and .i64 m 63), s) else plainM n
theorem impl_Weaken_eq (k : Nat) (n : Int) (i : Bool) (b t p s m : Int) : impl_Weaken.f (k + 8) n i b t p s m = some (weakM n i b t p s m) := by
  unfold impl_Weaken.f weakM
  simp only [impl_open_eq, impl_Bare_eq, Option.bind_some]
  split <;> rfl
theorem spec_Weaken_eq (k : Nat) (n : Int) (i : Bool) (b t p s m : Int) : spec_Weaken.f (k + 8) n i b t p s m = some (weakM n i b t p s m) := by
  unfold spec_Weaken.f weakM
  simp only [spec_Open_eq, spec_Bare_eq, Option.bind_some]
  split <;> rfl

def narrowM (n : Int) (i : Bool) (b t p s m : Int) : Int × Bool × Int × Int × Int × Int :=
  if (opM n i b t p s && (decide (0 ≤ m ∧ m ≤ 4096) && (bOk n (wrap64 (n + m)) && (decide (b ≤ (wideM n (wrap64 (n + m))).1) && decide ((wideM n (wrap64 (n + m))).2 ≤ t))))) = true
  then (n, i, (wideM n (wrap64 (n + m))).1, (wideM n (wrap64 (n + m))).2, p, s) else plainM n
theorem impl_Narrow_eq (k : Nat) (n : Int) (i : Bool) (b t p s m : Int) : impl_Narrow.f (k + 9) n i b t p s m = some (narrowM n i b t p s m) := by
  unfold impl_Narrow.f narrowM
  simp only [impl_open_eq, impl_BoundsOk_eq, Option.bind_some]
  have e : k + 9 = (k + 8) + 1 := rfl
  cases opM n i b t p s
  · rw [e]; simp [impl_Narrow.j0, impl_Bare_eq]
  by_cases h1 : m < 0
  · rw [e]; simp [impl_Narrow.j0, impl_Bare_eq, h1, show ¬ 0 ≤ m by omega]
  by_cases h2 : m > 4096
  · rw [e]; simp [impl_Narrow.j0, impl_Bare_eq, h1, h2, show ¬ m ≤ 4096 by omega]
  cases bOk n (wrap64 (n + m))
  · rw [e]; simp [impl_Narrow.j0, impl_Bare_eq, h1, h2]
  · rw [e]
    simp only [impl_Narrow.j0, impl_Bare_eq, impl_Wide_eq, h1, h2, if_true, if_false, Bool.not_true, Bool.false_eq_true, Option.bind_some, Bool.true_and, show (0 ≤ m ∧ m ≤ 4096) = True from eq_true ⟨by omega, by omega⟩, decide_true]
    by_cases h3 : (wideM n (wrap64 (n + m))).1 < b
    · simp [h3, show ¬ b ≤ (wideM n (wrap64 (n + m))).1 by omega]
    by_cases h4 : (wideM n (wrap64 (n + m))).2 > t
    · simp [h3, h4, show ¬ (wideM n (wrap64 (n + m))).2 ≤ t by omega]
    · simp [h3, h4, show b ≤ (wideM n (wrap64 (n + m))).1 by omega, show (wideM n (wrap64 (n + m))).2 ≤ t by omega]
theorem spec_Narrow_eq (k : Nat) (n : Int) (i : Bool) (b t p s m : Int) : spec_Narrow.f (k + 9) n i b t p s m = some (narrowM n i b t p s m) := by
  unfold spec_Narrow.f narrowM
  simp only [spec_Open_eq, spec_BoundsOk_eq, spec_in_eq, Option.bind_some]
  have e : k + 9 = (k + 8) + 1 := rfl
  cases opM n i b t p s
  · rw [e]; simp [spec_Narrow.j0, spec_Bare_eq]
  by_cases h1 : 0 ≤ m ∧ m ≤ 4096
  · cases bOk n (wrap64 (n + m))
    · rw [e]; simp [spec_Narrow.j0, spec_Bare_eq, h1]
    · rw [e]
      simp only [spec_Narrow.j0, spec_Bare_eq, spec_Wide_eq, h1, if_true, if_false, Bool.not_true, Bool.false_eq_true, Option.bind_some, Bool.true_and, and_self, decide_true]
      by_cases h3 : (wideM n (wrap64 (n + m))).1 < b
      · simp [h3, show ¬ b ≤ (wideM n (wrap64 (n + m))).1 by omega]
      by_cases h4 : (wideM n (wrap64 (n + m))).2 > t
      · simp [h3, h4, show ¬ (wideM n (wrap64 (n + m))).2 ≤ t by omega]
      · simp [h3, h4, show b ≤ (wideM n (wrap64 (n + m))).1 by omega, show (wideM n (wrap64 (n + m))).2 ≤ t by omega]
  · rw [e]; simp [spec_Narrow.j0, spec_Bare_eq, h1]

def sealsM (n : Int) (i : Bool) (b t p s : Int) : Bool := opM n i b t p s && (!(bits .and .i64 p 32 == 0) && (decide (b ≤ n) && (decide (n < t) && decide (1 ≤ n ∧ n ≤ 7))))
theorem impl_seals_eq (k : Nat) (n : Int) (i : Bool) (b t p s : Int) : impl_seals.f (k + 8) n i b t p s = some (sealsM n i b t p s) := by
  unfold impl_seals.f sealsM
  simp only [impl_open_eq, impl_in_eq, Option.bind_some]
  cases opM n i b t p s <;> by_cases h1 : bits .and .i64 p 32 = 0 <;> by_cases h2 : n ≥ b <;> by_cases h3 : n < t <;> simp [h1, h2, h3] <;> (try omega)
theorem spec_seals_eq (k : Nat) (n : Int) (i : Bool) (b t p s : Int) : spec_l4Sealer.f (k + 8) n i b t p s = some (sealsM n i b t p s) := by
  unfold spec_l4Sealer.f sealsM
  simp only [spec_Open_eq, spec_in_eq, Option.bind_some]
  cases opM n i b t p s <;> by_cases h1 : bits .and .i64 p 32 = 0 <;> by_cases h2 : n ≥ b <;> by_cases h3 : n < t <;> simp [h1, h2, h3] <;> (try omega)
theorem seals_true {n : Int} {i : Bool} {b t p s : Int} (h : sealsM n i b t p s = true) : opM n i b t p s = true ∧ (1 ≤ n ∧ n ≤ 7) := by
  unfold sealsM at h
  simp only [Bool.and_eq_true, decide_eq_true_eq] at h
  exact ⟨h.1, h.2.2.2.2⟩

def sealM (n : Int) (i : Bool) (b t p s n' : Int) (i' : Bool) (b' t' p' s' : Int) : Int × Bool × Int × Int × Int × Int :=
  if (opM n i b t p s && sealsM n' i' b' t' p' s') = true then (n, i, b, t, p, n') else plainM n
theorem impl_SealBy_eq (k : Nat) (n : Int) (i : Bool) (b t p s n' : Int) (i' : Bool) (b' t' p' s' : Int) : impl_SealBy.f (k + 8) n i b t p s n' i' b' t' p' s' = some (sealM n i b t p s n' i' b' t' p' s') := by
  unfold impl_SealBy.f sealM
  simp only [impl_open_eq, impl_seals_eq, impl_Bare_eq, Option.bind_some]
  cases opM n i b t p s <;> cases sealsM n' i' b' t' p' s' <;> simp
theorem spec_SealBy_eq (k : Nat) (n : Int) (i : Bool) (b t p s n' : Int) (i' : Bool) (b' t' p' s' : Int) : spec_SealBy.f (k + 8) n i b t p s n' i' b' t' p' s' = some (sealM n i b t p s n' i' b' t' p' s') := by
  unfold spec_SealBy.f sealM
  simp only [spec_Open_eq, spec_seals_eq, spec_Bare_eq, Option.bind_some]
  cases opM n i b t p s <;> cases sealsM n' i' b' t' p' s' <;> simp

def openM (n : Int) (i : Bool) (b t p s n' : Int) (i' : Bool) (b' t' p' s' : Int) : Int × Bool × Int × Int × Int × Int :=
  if (wOk n i b t p s && (i && (sealsM n' i' b' t' p' s' && (s == n')))) = true then (n, i, b, t, p, 0) else plainM n
theorem impl_OpenBy_eq (k : Nat) (n : Int) (i : Bool) (b t p s n' : Int) (i' : Bool) (b' t' p' s' : Int) : impl_OpenBy.f (k + 8) n i b t p s n' i' b' t' p' s' = some (openM n i b t p s n' i' b' t' p' s') := by
  unfold impl_OpenBy.f openM
  simp only [impl_WordOk_eq, impl_seals_eq, impl_Bare_eq, Option.bind_some]
  cases wOk n i b t p s <;> cases i <;> cases sealsM n' i' b' t' p' s' <;> by_cases h : s = n' <;> simp [h]
theorem spec_OpenBy_eq (k : Nat) (n : Int) (i : Bool) (b t p s n' : Int) (i' : Bool) (b' t' p' s' : Int) : spec_OpenBy.f (k + 8) n i b t p s n' i' b' t' p' s' = some (openM n i b t p s n' i' b' t' p' s') := by
  unfold spec_OpenBy.f openM
  simp only [spec_WordOk_eq, spec_seals_eq, spec_Bare_eq, Option.bind_some]
  cases wOk n i b t p s <;> cases i <;> cases sealsM n' i' b' t' p' s' <;> by_cases h : s = n' <;> simp [h]

theorem sets_R (op r a b n : Int) : spec_Sets.f op r a b n = some (if hR op = true then r else -1) := by
  obtain ⟨t, e, h1, _⟩ := has_bits4 op
  unfold spec_Sets.f
  rw [e]; simp only [Option.bind_some]
  cases hh : hR op with
  | false => rw [hh] at h1; have h2 : Go.bits .and .i64 t 1 = 0 := by simpa using h1
             rw [if_pos h2]; rfl
  | true => rw [hh] at h1; have h2 : ¬ Go.bits .and .i64 t 1 = 0 := by simpa using h1
            rw [if_neg h2]; rfl
theorem made_both (k : Nat) (op r a b n n1 : Int) (i1 : Bool) (b1 t1 p1 s1 n2 : Int) (i2 : Bool) (b2 t2 p2 s2 n3 : Int) (i3 : Bool) (b3 t3 p3 s3 : Int) (h : hR op = true) (h12 : op ≠ 12) : ∃ v, impl_made.f (k + 10) op r a b n n1 i1 b1 t1 p1 s1 n2 i2 b2 t2 p2 s2 n3 i3 b3 t3 p3 s3 = some v ∧ spec_l9Value.f (k + 10) op r a b n n1 i1 b1 t1 p1 s1 n2 i2 b2 t2 p2 s2 n3 i3 b3 t3 p3 s3 = some v := by
  unfold impl_made.f spec_l9Value.f
  have hr : 1 ≤ op ∧ op ≤ 10 := by unfold hR at h; simp only [decide_eq_true_eq] at h; omega
  by_cases e1 : op = 1
  · rw [if_pos e1, if_pos e1, impl_Plain_eq, spec_Plain_eq]; exact ⟨_, rfl, rfl⟩
  rw [if_neg e1, if_neg e1]
  by_cases e2 : op = 2
  · rw [if_pos e2, if_pos e2, impl_Plain_eq, spec_Plain_eq]; exact ⟨_, rfl, rfl⟩
  rw [if_neg e2, if_neg e2]
  by_cases e : op = 3
  · rw [if_pos e, if_pos e]; exact ⟨_, rfl, rfl⟩
  rw [if_neg e, if_neg e]
  by_cases e4 : op = 4
  · rw [if_pos e4, if_pos e4, show k + 10 = k + 2 + 8 from rfl, impl_Weaken_eq, spec_Weaken_eq]; exact ⟨_, rfl, rfl⟩
  rw [if_neg e4, if_neg e4]
  by_cases e5 : op = 5
  · rw [if_pos e5, if_pos e5, show k + 10 = k + 1 + 9 from rfl, impl_Narrow_eq, spec_Narrow_eq]; exact ⟨_, rfl, rfl⟩
  rw [if_neg e5, if_neg e5]
  by_cases e6 : op = 6
  · rw [if_pos e6, if_pos e6, show k + 10 = k + 2 + 8 from rfl, impl_Point_eq, spec_Point_eq]; exact ⟨_, rfl, rfl⟩
  rw [if_neg e6, if_neg e6]
  by_cases e7 : op = 7
  · rw [if_pos e7, if_pos e7, show k + 10 = k + 2 + 8 from rfl, impl_SealBy_eq, spec_SealBy_eq]; exact ⟨_, rfl, rfl⟩
  rw [if_neg e7, if_neg e7]
  by_cases e8 : op = 8
  · rw [if_pos e8, if_pos e8, show k + 10 = k + 2 + 8 from rfl, impl_OpenBy_eq, spec_OpenBy_eq]; exact ⟨_, rfl, rfl⟩
  rw [if_neg e8, if_neg e8]
  by_cases e9 : op = 9
  · rw [if_pos e9, if_neg (show ¬ op = 10 by omega)]
    cases i1
    · rw [if_neg (by decide), if_neg (by decide), impl_Plain_eq, spec_Plain_eq]; exact ⟨_, rfl, rfl⟩
    · rw [if_pos rfl, if_pos rfl, impl_Plain_eq, spec_Plain_eq]; exact ⟨_, rfl, rfl⟩
  · rw [if_neg e9, if_pos (show op = 10 by omega)]; exact ⟨_, rfl, rfl⟩
theorem work_both (k : Nat) (op r a b n n0 : Int) (i0 : Bool) (b0 t0 p0 s0 n1 : Int) (i1 : Bool) (b1 t1 p1 s1 n2 : Int) (i2 : Bool) (b2 t2 p2 s2 n3 : Int) (i3 : Bool) (b3 t3 p3 s3 : Int) : ∃ v, impl_Work.f (k + 12) op r a b n n0 i0 b0 t0 p0 s0 n1 i1 b1 t1 p1 s1 n2 i2 b2 t2 p2 s2 n3 i3 b3 t3 p3 s3 = some v ∧ spec_Work.f (k + 12) op r a b n n0 i0 b0 t0 p0 s0 n1 i1 b1 t1 p1 s1 n2 i2 b2 t2 p2 s2 n3 i3 b3 t3 p3 s3 = some v := by
  unfold impl_Work.f spec_Work.f
  rw [show k + 12 = k + 4 + 8 from rfl, impl_Point_eq, spec_Point_eq, show k + 4 + 8 = k + 2 + 10 from rfl]; simp only [Option.bind_some]
  by_cases e : op = 11
  · rw [if_pos e, if_pos e]; exact ⟨_, rfl, rfl⟩
  rw [if_neg e, if_neg e]
  by_cases h12 : op = 12
  · rw [if_pos h12, if_pos h12, impl_Try_eq, spec_Try_eq _ _ _ _ _ _ _ _ _ (by omega) (by omega)]; simp only [Option.bind_some]
    by_cases h : tryM n1 i1 b1 t1 p1 s1 n1 4 = 0
    · rw [if_pos h, if_pos h, h]; exact ⟨_, rfl, rfl⟩
    · rw [if_neg h, if_neg h]; exact ⟨_, rfl, rfl⟩
  rw [if_neg h12, if_neg h12]
  by_cases e : op = 13
  · rw [if_pos e, if_pos e]
    by_cases h : n1 = 0
    · rw [if_pos h, if_pos h, show k + 2 + 10 = k + 4 + 8 from rfl, impl_Point_eq, spec_Point_eq]; exact ⟨_, rfl, rfl⟩
    · rw [if_neg h, if_neg h]; exact ⟨_, rfl, rfl⟩
  rw [if_neg e, if_neg e]
  by_cases e : op = 14
  · rw [if_pos e, if_pos e, impl_Try_eq, spec_Try_eq _ _ _ _ _ _ _ _ _ (by omega) (by omega)]; simp only [Option.bind_some]
    by_cases h : tryM n1 i1 b1 t1 p1 s1 n1 32 = 0
    · rw [if_pos h, if_pos h, h]; exact ⟨_, rfl, rfl⟩
    · rw [if_neg h, if_neg h]; exact ⟨_, rfl, rfl⟩
  rw [if_neg e, if_neg e]
  by_cases e : op = 15
  · rw [if_pos e, if_pos e]; exact ⟨_, rfl, rfl⟩
  rw [if_neg e, if_neg e, hasPart_R _ op r a b n (by omega), sets_R]; simp only [Option.bind_some]
  by_cases hh : hR op = true
  · rw [if_pos hh, if_pos hh]
    by_cases h : r ≥ 0
    · rw [if_pos h, if_pos h]
      obtain ⟨v, e1, e2⟩ := made_both (k + 2) op r a b n n1 i1 b1 t1 p1 s1 n2 i2 b2 t2 p2 s2 n3 i3 b3 t3 p3 s3 hh h12
      rw [e1, e2]; exact ⟨_, rfl, rfl⟩
    · rw [if_neg h, if_neg h]; exact ⟨_, rfl, rfl⟩
  · rw [if_neg hh, if_neg hh]; exact ⟨_, rfl, rfl⟩

theorem eqKey_same (a b c d : Int) : laws_eqKey.f a b c d a b c d = some true := by unfold laws_eqKey.f; simp

theorem eqWord_same (n : Int) (i : Bool) (a b c d : Int) : laws_eqWord.f n i a b c d n i a b c d = some true := by
  unfold laws_eqWord.f; simp [eqKey_same]

theorem toKey_eq (a b c d : Int) : laws_toKey.f a b c d = some (a, b, c, d) := rfl

theorem toWord_eq (n : Int) (i : Bool) (a b c d : Int) : laws_toWord.f n i a b c d = some (n, i, a, b, c, d) := rfl

theorem FnExactWork : laws_FnExactWork.Mine := by
  intro op r a b n n0 i0 b0 t0 p0 s0 n1 i1 b1 t1 p1 s1 n2 i2 b2 t2 p2 s2 n3 i3 b3 t3 p3 s3
  intros
  refine ⟨0 + 12, ?_⟩
  unfold laws_FnExactWork.f laws_toIns.f
  simp only [toWord_eq, Option.bind_some]
  obtain ⟨v, e1, e2⟩ := work_both 0 op r a b n n0 i0 b0 t0 p0 s0 n1 i1 b1 t1 p1 s1 n2 i2 b2 t2 p2 s2 n3 i3 b3 t3 p3 s3
  rw [e1, e2]; simp only [Option.bind_some]
  unfold laws_eqEffect.f
  simp only [eqWord_same, Option.bind_some, if_true]

end Go.Proofs.Ytgfaicenpoahoaa.Pure
