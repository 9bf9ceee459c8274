/- The program's Fetch and the reference's give the same answer at all programs and words; no conditions. -/
import Derived.Test.YtopbiecjfhfhdaaPFnExactFetchx7
namespace Go.Proofs.Ytopbiecjfhfhdaa.Pure
open Go.RowKit Go.Proofs.Ytopbiecjfhfhdaa.PFnExactFetch Go.Proofs.YtopbiecjfhfhdaaW.PrintWords Go.Proofs.YtopbiecjfhfhdaaW.PrintLast Go.Proofs.YtopbiecjfhfhdaaW.PrintMore
set_option linter.unusedVariables false
set_option linter.unusedSimpArgs false

def laws_FnExactFetch.Mine : Prop := ∀ (l0 : List (S23)) (a1_0 : Int) (a1_1 : Bool) (a1_2 : Int) (a1_3 : Int) (a1_4 : Int) (a1_5 : Int), l0.length ≤ maxLen → (Lit.int .i64 a1_0).wf = true → (Lit.int .i64 a1_2).wf = true → (Lit.int .i64 a1_3).wf = true → (Lit.int .i64 a1_4).wf = true → (Lit.int .i64 a1_5).wf = true → ∃ k, laws_FnExactFetch.f k l0 a1_0 a1_1 a1_2 a1_3 a1_4 a1_5 = some true

theorem i64_bits : IntKind.i64.bits = 64 := rfl
theorem wrap_i64' (n : Int) : IntKind.i64.wrap n = wrap64 n := by unfold wrap64; exact IntKind.wrap_i64 n
theorem wrap_in {n : Int} (h0 : -9223372036854775808 ≤ n) (h1 : n ≤ 9223372036854775807) : wrap64 n = n := by unfold wrap64; omega
theorem wrap_lo (n : Int) : -9223372036854775808 ≤ wrap64 n ∧ wrap64 n ≤ 9223372036854775807 := by unfold wrap64; omega

def hR (op : Int) : Bool := decide ((1 ≤ op ∧ op ≤ 10) ∨ op = 12)
def hA (op : Int) : Bool := decide (2 ≤ op ∧ op ≤ 14)
def hB (op : Int) : Bool := decide (op = 2 ∨ (4 ≤ op ∧ op ≤ 8) ∨ op = 11)
def hN (op : Int) : Bool := decide (op = 1 ∨ op = 6 ∨ op = 10 ∨ op = 11 ∨ op = 13)
def hOp (op : Int) : Bool := decide (1 ≤ op ∧ op ≤ 15)
theorem op_cases (op : Int) : op = 1 ∨ op = 2 ∨ op = 3 ∨ op = 4 ∨ op = 5 ∨ op = 6 ∨ op = 7 ∨ op = 8 ∨ op = 9 ∨ op = 10 ∨ op = 11 ∨ op = 12 ∨ op = 13 ∨ op = 14 ∨ op = 15 ∨ ¬ (1 ≤ op ∧ op ≤ 15) := by omega
theorem formOf_none (k : Nat) (op : Int) (h : ¬ (1 ≤ op ∧ op ≤ 15)) : impl_formOf.f (k + 2) op = some ((⟨#[]⟩ : ByteArray), false) := by
  have ne : ∀ m : Int, 1 ≤ m → m ≤ 15 → op ≠ m := fun m _ _ => by omega
  unfold impl_formOf.f
  simp [impl_formOf.j0, impl_formOf.j1, ne]
theorem formOf_ok (k : Nat) (op : Int) : ∃ s, impl_formOf.f (k + 2) op = some (s, hOp op) := by
  rcases op_cases op with rfl | rfl | rfl | rfl | rfl | rfl | rfl | rfl | rfl | rfl | rfl | rfl | rfl | rfl | rfl | h
  case inr.inr.inr.inr.inr.inr.inr.inr.inr.inr.inr.inr.inr.inr.inr => exact ⟨(⟨#[]⟩ : ByteArray), by rw [formOf_none k op h]; simp [hOp, h]⟩
  all_goals exact ⟨_, rfl⟩
theorem hasPart_up {k : Nat} {op r a b n p : Int} {v : Bool} (hk : 12 ≤ k) (h : impl_hasPart.f 12 op 0 0 0 0 p = some v) : impl_hasPart.f k op r a b n p = some v :=
  at_rounds (fun k => impl_hasPart.mono op r a b n p k) hk h
theorem hasPart_none (k : Nat) (op r a b n p : Int) (hk : 12 ≤ k) (h : ¬ (1 ≤ op ∧ op ≤ 15)) : impl_hasPart.f k op r a b n p = some false := by
  refine at_rounds (fun k => impl_hasPart.mono op r a b n p k) hk ?_
  show impl_hasPart.f 12 op r a b n p = some false
  unfold impl_hasPart.f
  rw [formOf_none 10 op h]
  rfl
theorem hasPart_R (k : Nat) (op r a b n : Int) (hk : 12 ≤ k) : impl_hasPart.f k op r a b n 82 = some (hR op) := by
  rcases op_cases op with rfl | rfl | rfl | rfl | rfl | rfl | rfl | rfl | rfl | rfl | rfl | rfl | rfl | rfl | rfl | h
  case inr.inr.inr.inr.inr.inr.inr.inr.inr.inr.inr.inr.inr.inr.inr => rw [hasPart_none k op r a b n 82 hk h]; congr 1; symm; unfold hR; simp; omega
  all_goals exact hasPart_up hk (by decide +kernel)
theorem hasPart_A (k : Nat) (op r a b n : Int) (hk : 12 ≤ k) : impl_hasPart.f k op r a b n 65 = some (hA op) := by
  rcases op_cases op with rfl | rfl | rfl | rfl | rfl | rfl | rfl | rfl | rfl | rfl | rfl | rfl | rfl | rfl | rfl | h
  case inr.inr.inr.inr.inr.inr.inr.inr.inr.inr.inr.inr.inr.inr.inr => rw [hasPart_none k op r a b n 65 hk h]; congr 1; symm; unfold hA; simp; omega
  all_goals exact hasPart_up hk (by decide +kernel)
theorem hasPart_B (k : Nat) (op r a b n : Int) (hk : 12 ≤ k) : impl_hasPart.f k op r a b n 66 = some (hB op) := by
  rcases op_cases op with rfl | rfl | rfl | rfl | rfl | rfl | rfl | rfl | rfl | rfl | rfl | rfl | rfl | rfl | rfl | h
  case inr.inr.inr.inr.inr.inr.inr.inr.inr.inr.inr.inr.inr.inr.inr => rw [hasPart_none k op r a b n 66 hk h]; congr 1; symm; unfold hB; simp; omega
  all_goals exact hasPart_up hk (by decide +kernel)
theorem hasPart_N (k : Nat) (op r a b n : Int) (hk : 12 ≤ k) : impl_hasPart.f k op r a b n 78 = some (hN op) := by
  rcases op_cases op with rfl | rfl | rfl | rfl | rfl | rfl | rfl | rfl | rfl | rfl | rfl | rfl | rfl | rfl | rfl | h
  case inr.inr.inr.inr.inr.inr.inr.inr.inr.inr.inr.inr.inr.inr.inr => rw [hasPart_none k op r a b n 78 hk h]; congr 1; symm; unfold hN; simp; omega
  all_goals exact hasPart_up hk (by decide +kernel)

theorem impl_in_eq (n lo hi : Int) : impl_in.f n lo hi = some (decide (lo ≤ n ∧ n ≤ hi)) := by
  unfold impl_in.f; by_cases h : n ≥ lo
  · rw [if_pos h]; simp [show lo ≤ n from h]
  · rw [if_neg h]; simp [show ¬ lo ≤ n from h]
theorem spec_in_eq (n lo hi : Int) : spec_l1In.f n lo hi = some (decide (lo ≤ n ∧ n ≤ hi)) := by
  unfold spec_l1In.f; by_cases h : n ≥ lo
  · rw [if_pos h]; simp [show lo ≤ n from h]
  · rw [if_neg h]; simp [show ¬ lo ≤ n from h]

theorem has_bits4 (op : Int) : ∃ t, spec_l6Has.f op = some t ∧ ((bits .and .i64 t 1) != 0) = hR op ∧ ((bits .and .i64 t 2) != 0) = hA op ∧ ((bits .and .i64 t 4) != 0) = hB op ∧ ((bits .and .i64 t 8) = 0 ↔ hN op = false) := by
  rcases op_cases op with rfl | rfl | rfl | rfl | rfl | rfl | rfl | rfl | rfl | rfl | rfl | rfl | rfl | rfl | rfl | h
  case inr.inr.inr.inr.inr.inr.inr.inr.inr.inr.inr.inr.inr.inr.inr =>
    refine ⟨0, ?_, ?_, ?_, ?_, ?_⟩
    · unfold spec_l6Has.f; rw [spec_in_eq]; simp only [Option.bind_some]; rw [if_neg (by simpa using h)]
    · have : hR op = false := by unfold hR; simp; omega
      rw [this]; decide +kernel
    · have : hA op = false := by unfold hA; simp; omega
      rw [this]; decide +kernel
    · have : hB op = false := by unfold hB; simp; omega
      rw [this]; decide +kernel
    · have : hN op = false := by unfold hN; simp; omega
      rw [this]; decide +kernel
  all_goals exact ⟨_, rfl, by decide +kernel, by decide +kernel, by decide +kernel, by decide +kernel⟩

def fM (x : Int) (h : Bool) : Bool := decide (0 ≤ x ∧ x ≤ 7) && (h || x == 0)
def nM (x : Int) (h : Bool) : Bool := decide (-128 ≤ x ∧ x ≤ 127) && (h || x == 0)
def insM (op r a b n : Int) : Bool := hOp op && (fM r (hR op) && (fM a (hA op) && (fM b (hB op) && nM n (hN op))))
theorem fM_not (x : Int) : (x == 0) = fM x false := by
  unfold fM; by_cases h : x = 0
  · subst h; rfl
  · have : (x == 0) = false := by simpa using h
    rw [this]; simp
theorem nM_not (x : Int) : (x == 0) = nM x false := by
  unfold nM; by_cases h : x = 0
  · subst h; rfl
  · have : (x == 0) = false := by simpa using h
    rw [this]; simp
theorem fM_yes (x : Int) : decide (0 ≤ x ∧ x ≤ 7) = fM x true := by unfold fM; simp
theorem nM_yes (x : Int) : decide (-128 ≤ x ∧ x ≤ 127) = nM x true := by unfold nM; simp
theorem ok_step (k : Nat) (x4 : Bool) (op r a b n i i' c x : Int) (h : Bool) (hi : 0 ≤ i) (hi4 : i < 4) (hc : rd ([82, 65, 66, 78] : List Int) i = c) (hw : wrap64 (i + 1) = i') (hp : impl_partOf.f op r a b n c = some x) (hh : impl_hasPart.f k op r a b n c = some h) (hne : c ≠ 78) :
    impl_InsOk.l0 (k + 1) x4 i op r a b n = impl_InsOk.l0 k (x4 && fM x h) i' op r a b n := by
  simp only [impl_InsOk.l0]
  rw [if_pos hi4, if_pos hi]
  simp only [hc, hp, hh, hw, Option.bind_some]
  cases h with
  | false => cases x4 <;> simp [← fM_not]
  | true => cases x4 <;> simp [hne, impl_in_eq, ← fM_yes]
theorem ok_stepN (k : Nat) (x4 : Bool) (op r a b n : Int) (h : Bool) (hh : impl_hasPart.f k op r a b n 78 = some h) :
    impl_InsOk.l0 (k + 1) x4 3 op r a b n = impl_InsOk.l0 k (x4 && nM n h) 4 op r a b n := by
  have hp : impl_partOf.f op r a b n 78 = some n := by unfold impl_partOf.f; simp
  simp only [impl_InsOk.l0]
  rw [if_pos (by decide), if_pos (by decide), show rd ([82, 65, 66, 78] : List Int) 3 = 78 from rfl, show wrap64 (3 + 1) = 4 by unfold wrap64; omega]
  simp only [hp, hh, Option.bind_some]
  cases h with
  | false => cases x4 <;> simp [← nM_not]
  | true => cases x4 <;> simp [impl_in_eq, ← nM_yes]
theorem ok_stepE (k : Nat) (x4 : Bool) (op r a b n : Int) : impl_InsOk.l0 (k + 1) x4 4 op r a b n = some x4 := by
  simp only [impl_InsOk.l0]; rw [if_neg (by decide)]
theorem impl_InsOk_eq (k : Nat) (op r a b n : Int) (hk : 20 ≤ k) : impl_InsOk.f k op r a b n = some (insM op r a b n) := by
  obtain ⟨k, rfl⟩ : ∃ m, k = m + 20 := ⟨k - 20, by omega⟩
  obtain ⟨s, e⟩ := formOf_ok (k + 18) op
  unfold impl_InsOk.f
  rw [show k + 20 = k + 18 + 2 from rfl, e]; simp only [Option.bind_some]
  show impl_InsOk.l0 (k + 19 + 1) (hOp op) 0 op r a b n = _
  rw [ok_step (k + 19) (hOp op) op r a b n 0 1 82 r (hR op) (by omega) (by omega) rfl (by unfold wrap64; omega) (by unfold impl_partOf.f; simp) (hasPart_R _ _ _ _ _ _ (by omega)) (by omega),
    ok_step (k + 18) _ op r a b n 1 2 65 a (hA op) (by omega) (by omega) rfl (by unfold wrap64; omega) (by unfold impl_partOf.f; simp) (hasPart_A _ _ _ _ _ _ (by omega)) (by omega),
    ok_step (k + 17) _ op r a b n 2 3 66 b (hB op) (by omega) (by omega) rfl (by unfold wrap64; omega) (by unfold impl_partOf.f; simp) (hasPart_B _ _ _ _ _ _ (by omega)) (by omega),
    ok_stepN (k + 16) _ op r a b n (hN op) (hasPart_N _ _ _ _ _ _ (by omega)), ok_stepE (k + 15)]
  unfold insM; simp only [Bool.and_assoc]
theorem spec_Field_eq (x : Int) (h : Bool) : spec_l6Field.f x h = some (fM x h) := by
  unfold spec_l6Field.f fM; rw [spec_in_eq]; simp only [Option.bind_some]
  by_cases hx : 0 ≤ x ∧ x ≤ 7
  · rw [if_pos (decide_eq_true hx)]; cases h <;> simp [hx]
  · rw [if_neg (by simpa using hx)]; simp [hx]
theorem spec_InsOk_eq (op r a b n : Int) : spec_InsOk.f op r a b n = some (insM op r a b n) := by
  obtain ⟨t, e, h1, h2, h3, h4⟩ := has_bits4 op
  unfold spec_InsOk.f
  rw [e]; simp only [Option.bind_some, spec_in_eq, h1, h2, h3, spec_Field_eq]
  unfold insM hOp
  by_cases ho : 1 ≤ op ∧ op ≤ 15
  · rw [if_pos (decide_eq_true ho)]
    cases fM r (hR op) <;> cases fM a (hA op) <;> cases fM b (hB op) <;> simp [ho]
    unfold nM
    by_cases hn : -128 ≤ n ∧ n ≤ 127
    · rw [if_pos hn]; simp only [hn, and_self, decide_true, Bool.true_and]
      cases hh : hN op with
      | false => rw [if_pos (h4.mpr hh)]; simp
      | true => rw [if_neg (by rw [h4, hh]; simp)]; simp
    · rw [if_neg hn]; simp [hn]
  · rw [if_neg (by simpa using ho)]; simp [ho]

def insT (x : S25) : Bool := insM x.f0 x.f1 x.f2 x.f3 x.f4

def bOk (b t : Int) : Bool := decide (0 ≤ b ∧ b ≤ t ∧ t ≤ 4096)
theorem bOk_iff (b t : Int) : bOk b t = true ↔ (0 ≤ b ∧ b ≤ t ∧ t ≤ 4096) := by unfold bOk; simp
theorem impl_BoundsOk_eq (a b : Int) : impl_BoundsOk.f a b = some (bOk a b) := by
  unfold impl_BoundsOk.f bOk; rw [impl_in_eq]; simp only [Option.bind_some]
  by_cases h : 0 ≤ a ∧ a ≤ b
  · rw [if_pos (decide_eq_true h)]; simp [h.1, h.2]
  · rw [if_neg (by simpa using h)]; congr 1; symm; simp; omega
theorem spec_BoundsOk_eq (a b : Int) : spec_BoundsOk.f a b = some (bOk a b) := by
  unfold spec_BoundsOk.f bOk; rw [spec_in_eq, spec_in_eq]; simp only [Option.bind_some]
  by_cases h : 0 ≤ a ∧ a ≤ 4096
  · rw [if_pos (decide_eq_true h)]
    by_cases h2 : 0 ≤ b ∧ b ≤ 4096
    · rw [if_pos (decide_eq_true h2)]; congr 1; rw [decide_eq_decide]; omega
    · rw [if_neg (by simpa using h2)]; congr 1; symm; simp; omega
  · rw [if_neg (by simpa using h)]; congr 1; symm; simp; omega

theorem shl_of {x e u : Int} (p : Nat) (hu : u = 2 ^ p) (he : e = p) (hp : p ≤ 63) (h0 : -9223372036854775808 ≤ x * u) (h1 : x * u ≤ 9223372036854775807) : shl .i64 x e = x * u := by
  subst hu he
  unfold shl
  rw [i64_bits, wrap_i64', Int.toNat_natCast, Nat.min_eq_left (by omega)]
  exact wrap_in h0 h1
theorem shr_of {x e u : Int} (p : Nat) (hu : u = 2 ^ p) (he : e = p) (hp : p ≤ 63) : shr .i64 x e = x / u := by
  subst hu he
  unfold shr
  rw [i64_bits, Int.toNat_natCast, Nat.min_eq_left (by omega)]

def fits (b t u : Int) : Bool := decide (b / u ≤ 63 ∧ (t - b / u * u + u - 1) / u ≤ 63)
def pkOf (b t e u : Int) : Int × Int × Int × Bool := (e, b / u, (t - b / u * u + u - 1) / u, true)
def packM (b t : Int) : Int × Int × Int × Bool :=
  if bOk b t = true then
    if fits b t 1 = true then pkOf b t 0 1 else if fits b t 2 = true then pkOf b t 1 2 else if fits b t 4 = true then pkOf b t 2 4
    else if fits b t 8 = true then pkOf b t 3 8 else if fits b t 16 = true then pkOf b t 4 16 else if fits b t 32 = true then pkOf b t 5 32
    else if fits b t 64 = true then pkOf b t 6 64 else (0, 0, 0, false)
  else (0, 0, 0, false)
theorem impl_pk_round (k : Nat) {b t e u e1 : Int} (p : Nat) (hu : u = 2 ^ p) (he : e = p) (h1 : e1 = e + 1) (hp : p ≤ 6) (h : 0 ≤ b ∧ b ≤ t ∧ t ≤ 4096) (u0 : 0 < u) (u1 : u ≤ 64)
    (q0 : 0 ≤ b / u) (q1 : b / u * u ≤ b) (q2 : b / u ≤ b) (r0 : 0 ≤ (t - b / u * u + u - 1) / u) (r1 : (t - b / u * u + u - 1) / u ≤ 5000) :
    impl_Pack.l0 (k + 1) b t e = if fits b t u = true then some (pkOf b t e u) else impl_Pack.l0 k b t e1 := by
  have hs : shl .i64 1 e = u := by rw [shl_of (u := u) p hu he (by omega) (by omega) (by omega)]; omega
  have q3 : 0 ≤ b / u * u := Int.mul_nonneg q0 (by omega)
  have w1 : wrap64 (Int.tdiv b u) = b / u := by rw [Int.tdiv_eq_ediv_of_nonneg (by omega)]; exact wrap_in (by omega) (by omega)
  have w2 : wrap64 (b / u * u) = b / u * u := wrap_in (by omega) (by omega)
  have w3 : wrap64 (t - b / u * u) = t - b / u * u := wrap_in (by omega) (by omega)
  have w4 : wrap64 (t - b / u * u + u) = t - b / u * u + u := wrap_in (by omega) (by omega)
  have w5 : wrap64 (t - b / u * u + u - 1) = t - b / u * u + u - 1 := wrap_in (by omega) (by omega)
  have w6 : wrap64 (Int.tdiv (t - b / u * u + u - 1) u) = (t - b / u * u + u - 1) / u := by
    rw [Int.tdiv_eq_ediv_of_nonneg (by omega)]; exact wrap_in (by omega) (by omega)
  have w7 : wrap64 (e + 1) = e1 := by rw [h1]; exact wrap_in (by omega) (by omega)
  simp only [impl_Pack.l0]
  rw [hs, w1, w2, w3, w4, w5, w6, w7, if_pos (by omega), if_pos (by omega), if_neg (by omega)]
  unfold fits pkOf
  by_cases g1 : b / u ≤ 63
  · rw [if_pos g1]
    by_cases g2 : (t - b / u * u + u - 1) / u ≤ 63
    · rw [if_pos g2, if_pos (decide_eq_true ⟨g1, g2⟩)]
    · rw [if_neg g2, if_neg (by simp [g2])]
  · rw [if_neg g1, if_neg (by simp [g1])]
theorem spec_pk_round (k : Nat) {b t e u e1 : Int} (p : Nat) (hu : u = 2 ^ p) (he : e = p) (h1 : e1 = e + 1) (hp : p ≤ 6) (h : 0 ≤ b ∧ b ≤ t ∧ t ≤ 4096) (u0 : 0 < u) (u1 : u ≤ 64)
    (q0 : 0 ≤ b / u) (q1 : b / u * u ≤ b) (q2 : b / u ≤ b) (r0 : 0 ≤ (t - b / u * u + u - 1) / u) (r1 : (t - b / u * u + u - 1) / u ≤ 5000) :
    spec_Pack.l0 (k + 1) b t e = if fits b t u = true then some (pkOf b t e u) else spec_Pack.l0 k b t e1 := by
  have q3 : 0 ≤ b / u * u := Int.mul_nonneg q0 (by omega)
  have hs : shl .i64 1 e = u := by rw [shl_of (u := u) p hu he (by omega) (by omega) (by omega)]; omega
  have hr : ∀ x, shr .i64 x e = x / u := fun x => shr_of p hu he (by omega)
  have hl : shl .i64 (b / u) e = b / u * u := shl_of p hu he (by omega) (by omega) (by omega)
  have w3 : wrap64 (t - b / u * u) = t - b / u * u := wrap_in (by omega) (by omega)
  have w4 : wrap64 (t - b / u * u + u) = t - b / u * u + u := wrap_in (by omega) (by omega)
  have w5 : wrap64 (t - b / u * u + u - 1) = t - b / u * u + u - 1 := wrap_in (by omega) (by omega)
  have w7 : wrap64 (e + 1) = e1 := by rw [h1]; exact wrap_in (by omega) (by omega)
  simp only [spec_Pack.l0]
  rw [hs, hr b, hl, w3, w4, w5, hr, w7, if_pos (by omega), if_pos (by omega)]
  unfold fits pkOf
  by_cases g1 : b / u ≤ 63
  · rw [if_pos g1]
    by_cases g2 : (t - b / u * u + u - 1) / u ≤ 63
    · rw [if_pos g2, if_pos (decide_eq_true ⟨g1, g2⟩)]
    · rw [if_neg g2, if_neg (by simp [g2])]
  · rw [if_neg g1, if_neg (by simp [g1])]
theorem impl_Pack_eq (k : Nat) (a b : Int) : impl_Pack.f (k + 8) a b = some (packM a b) := by
  unfold impl_Pack.f packM
  rw [impl_BoundsOk_eq]; simp only [Option.bind_some]
  by_cases h : bOk a b = true
  · rw [if_pos h, if_pos h]
    have H := (bOk_iff a b).1 h
    rw [impl_pk_round (k + 7) (u := 1) (e1 := 1) 0 (by omega) (by omega) (by omega) (by omega) H (by omega) (by omega) (by omega) (by omega) (by omega) (by omega) (by omega),
      impl_pk_round (k + 6) (u := 2) (e1 := 2) 1 (by omega) (by omega) (by omega) (by omega) H (by omega) (by omega) (by omega) (by omega) (by omega) (by omega) (by omega),
      impl_pk_round (k + 5) (u := 4) (e1 := 3) 2 (by omega) (by omega) (by omega) (by omega) H (by omega) (by omega) (by omega) (by omega) (by omega) (by omega) (by omega),
      impl_pk_round (k + 4) (u := 8) (e1 := 4) 3 (by omega) (by omega) (by omega) (by omega) H (by omega) (by omega) (by omega) (by omega) (by omega) (by omega) (by omega),
      impl_pk_round (k + 3) (u := 16) (e1 := 5) 4 (by omega) (by omega) (by omega) (by omega) H (by omega) (by omega) (by omega) (by omega) (by omega) (by omega) (by omega),
      impl_pk_round (k + 2) (u := 32) (e1 := 6) 5 (by omega) (by omega) (by omega) (by omega) H (by omega) (by omega) (by omega) (by omega) (by omega) (by omega) (by omega),
      impl_pk_round (k + 1) (u := 64) (e1 := 7) 6 (by omega) (by omega) (by omega) (by omega) H (by omega) (by omega) (by omega) (by omega) (by omega) (by omega) (by omega)]
    have hz : impl_Pack.l0 (k + 1) a b 7 = some (0, 0, 0, false) := by simp only [impl_Pack.l0]; rw [if_neg (by omega)]
    rw [hz]
    repeat (first | rfl | (split; rfl))
  · rw [if_neg h, if_neg h]
theorem spec_Pack_eq (k : Nat) (a b : Int) : spec_Pack.f (k + 8) a b = some (packM a b) := by
  unfold spec_Pack.f packM
  rw [spec_BoundsOk_eq]; simp only [Option.bind_some]
  by_cases h : bOk a b = true
  · rw [if_pos h, if_pos h]
    have H := (bOk_iff a b).1 h
    rw [spec_pk_round (k + 7) (u := 1) (e1 := 1) 0 (by omega) (by omega) (by omega) (by omega) H (by omega) (by omega) (by omega) (by omega) (by omega) (by omega) (by omega),
      spec_pk_round (k + 6) (u := 2) (e1 := 2) 1 (by omega) (by omega) (by omega) (by omega) H (by omega) (by omega) (by omega) (by omega) (by omega) (by omega) (by omega),
      spec_pk_round (k + 5) (u := 4) (e1 := 3) 2 (by omega) (by omega) (by omega) (by omega) H (by omega) (by omega) (by omega) (by omega) (by omega) (by omega) (by omega),
      spec_pk_round (k + 4) (u := 8) (e1 := 4) 3 (by omega) (by omega) (by omega) (by omega) H (by omega) (by omega) (by omega) (by omega) (by omega) (by omega) (by omega),
      spec_pk_round (k + 3) (u := 16) (e1 := 5) 4 (by omega) (by omega) (by omega) (by omega) H (by omega) (by omega) (by omega) (by omega) (by omega) (by omega) (by omega),
      spec_pk_round (k + 2) (u := 32) (e1 := 6) 5 (by omega) (by omega) (by omega) (by omega) H (by omega) (by omega) (by omega) (by omega) (by omega) (by omega) (by omega),
      spec_pk_round (k + 1) (u := 64) (e1 := 7) 6 (by omega) (by omega) (by omega) (by omega) H (by omega) (by omega) (by omega) (by omega) (by omega) (by omega) (by omega)]
    have hz : spec_Pack.l0 (k + 1) a b 7 = some (0, 0, 0, false) := by simp only [spec_Pack.l0]; rw [if_neg (by omega)]
    rw [hz]
    repeat (first | rfl | (split; rfl))
  · rw [if_neg h, if_neg h]

def mn4 (x : Int) : Int := if x < 4096 then x else 4096
def unpM (e b l : Int) : Int × Int × Bool :=
  if 0 ≤ e ∧ e ≤ 6 ∧ 0 ≤ b ∧ b ≤ 63 ∧ 0 ≤ l ∧ l ≤ 63 then (b * 2 ^ e.toNat, mn4 ((b + l) * 2 ^ e.toNat), true) else (0, 0, false)
theorem pow_le6 {e : Int} (h : 0 ≤ e ∧ e ≤ 6) : 1 ≤ (2 : Int) ^ e.toNat ∧ (2 : Int) ^ e.toNat ≤ 64 := by
  have h' : e = 0 ∨ e = 1 ∨ e = 2 ∨ e = 3 ∨ e = 4 ∨ e = 5 ∨ e = 6 := by omega
  rcases h' with rfl | rfl | rfl | rfl | rfl | rfl | rfl <;> decide
theorem shl_small6 {x e : Int} (h : 0 ≤ e ∧ e ≤ 6) (hx : 0 ≤ x ∧ x ≤ 100000) : shl .i64 x e = x * 2 ^ e.toNat := by
  have hp := pow_le6 h
  have h0 : 0 ≤ x * 2 ^ e.toNat := Int.mul_nonneg hx.1 (by omega)
  have h1 : x * 2 ^ e.toNat ≤ 100000 * 64 := by
    have := Int.mul_le_mul hx.2 hp.2 (by omega) (by omega); omega
  exact shl_of e.toNat rfl (by omega) (by omega) (by omega) (by omega)
theorem impl_Unpack_eq (e b l : Int) : impl_Unpack.f e b l = some (unpM e b l) := by
  unfold impl_Unpack.f unpM
  simp only [impl_in_eq, Option.bind_some]
  by_cases h1 : 0 ≤ e ∧ e ≤ 6
  · rw [if_pos (decide_eq_true h1)]
    by_cases h2 : 0 ≤ b ∧ b ≤ 63
    · rw [if_pos (decide_eq_true h2)]
      by_cases h3 : 0 ≤ l ∧ l ≤ 63
      · rw [if_pos (decide_eq_true h3), if_pos h1.1, if_pos ⟨h1.1, h1.2, h2.1, h2.2, h3.1, h3.2⟩, shl_small6 h1 ⟨h2.1, by omega⟩,
          wrap_in (n := b + l) (by omega) (by omega), shl_small6 (x := b + l) h1 ⟨by omega, by omega⟩]
        rfl
      · rw [if_neg (by simpa using h3), if_neg (by omega)]
    · rw [if_neg (by simpa using h2), if_neg (by omega)]
  · rw [if_neg (by simpa using h1), if_neg (by omega)]
theorem spec_Min4 (a : Int) : spec_l1Min.f a 4096 = some (mn4 a) := by unfold spec_l1Min.f mn4; split <;> rfl
theorem spec_Unpack_eq (e b l : Int) : spec_Unpack.f e b l = some (unpM e b l) := by
  unfold spec_Unpack.f unpM
  simp only [spec_in_eq, spec_Min4, Option.bind_some]
  by_cases h1 : 0 ≤ e ∧ e ≤ 6
  · rw [if_pos (decide_eq_true h1)]
    by_cases h2 : 0 ≤ b ∧ b ≤ 63
    · rw [if_pos (decide_eq_true h2)]
      by_cases h3 : 0 ≤ l ∧ l ≤ 63
      · rw [if_pos (decide_eq_true h3), if_pos h1.1, if_pos ⟨h1.1, h1.2, h2.1, h2.2, h3.1, h3.2⟩, shl_small6 h1 ⟨h2.1, by omega⟩,
          wrap_in (n := b + l) (by omega) (by omega), shl_small6 (x := b + l) h1 ⟨by omega, by omega⟩]
      · rw [if_neg (by simpa using h3), if_neg (by omega)]
    · rw [if_neg (by simpa using h2), if_neg (by omega)]
  · rw [if_neg (by simpa using h1), if_neg (by omega)]

def wdOf (b t u : Int) : Int × Int := (b / u * u, mn4 ((b / u + (t - b / u * u + u - 1) / u) * u))
def wideM (b t : Int) : Int × Int :=
  if bOk b t = true then
    if fits b t 1 = true then wdOf b t 1 else if fits b t 2 = true then wdOf b t 2 else if fits b t 4 = true then wdOf b t 4
    else if fits b t 8 = true then wdOf b t 8 else if fits b t 16 = true then wdOf b t 16 else if fits b t 32 = true then wdOf b t 32
    else if fits b t 64 = true then wdOf b t 64 else (0, 4096)
  else (0, 0)
theorem unp_pk {b t e u : Int} (p : Nat) (hu : u = 2 ^ p) (he : e = p) (hp : p ≤ 6) (hf : fits b t u = true) (q0 : 0 ≤ b / u) (r0 : 0 ≤ (t - b / u * u + u - 1) / u) :
    unpM (pkOf b t e u).1 (pkOf b t e u).2.1 (pkOf b t e u).2.2.1 = ((wdOf b t u).1, (wdOf b t u).2, true) := by
  unfold fits at hf
  have hf := of_decide_eq_true hf
  unfold unpM pkOf wdOf
  simp only
  rw [if_pos ⟨by omega, by omega, q0, hf.1, r0, hf.2⟩]
  subst hu he
  rfl
theorem pk_ok (b t e u : Int) : (pkOf b t e u).2.2.2 = true := rfl
theorem wide_pack (b t : Int) : (if (packM b t).2.2.2 = true then ((unpM (packM b t).1 (packM b t).2.1 (packM b t).2.2.1).1, (unpM (packM b t).1 (packM b t).2.1 (packM b t).2.2.1).2.1) else if bOk b t = true then (0, 4096) else (0, 0)) = wideM b t := by
  unfold packM wideM
  by_cases h : bOk b t = true
  · simp only [if_pos h]
    have H := (bOk_iff b t).1 h
    by_cases f1 : fits b t 1 = true
    · simp only [if_pos f1]; rw [if_pos (pk_ok b t 0 1), unp_pk (u := 1) 0 (by omega) (by omega) (by omega) f1 (by omega) (by omega)]
    simp only [if_neg f1]
    by_cases f2 : fits b t 2 = true
    · simp only [if_pos f2]; rw [if_pos (pk_ok b t 1 2), unp_pk (u := 2) 1 (by omega) (by omega) (by omega) f2 (by omega) (by omega)]
    simp only [if_neg f2]
    by_cases f3 : fits b t 4 = true
    · simp only [if_pos f3]; rw [if_pos (pk_ok b t 2 4), unp_pk (u := 4) 2 (by omega) (by omega) (by omega) f3 (by omega) (by omega)]
    simp only [if_neg f3]
    by_cases f4 : fits b t 8 = true
    · simp only [if_pos f4]; rw [if_pos (pk_ok b t 3 8), unp_pk (u := 8) 3 (by omega) (by omega) (by omega) f4 (by omega) (by omega)]
    simp only [if_neg f4]
    by_cases f5 : fits b t 16 = true
    · simp only [if_pos f5]; rw [if_pos (pk_ok b t 4 16), unp_pk (u := 16) 4 (by omega) (by omega) (by omega) f5 (by omega) (by omega)]
    simp only [if_neg f5]
    by_cases f6 : fits b t 32 = true
    · simp only [if_pos f6]; rw [if_pos (pk_ok b t 5 32), unp_pk (u := 32) 5 (by omega) (by omega) (by omega) f6 (by omega) (by omega)]
    simp only [if_neg f6]
    by_cases f7 : fits b t 64 = true
    · simp only [if_pos f7]; rw [if_pos (pk_ok b t 6 64), unp_pk (u := 64) 6 (by omega) (by omega) (by omega) f7 (by omega) (by omega)]
    simp only [if_neg f7]
    rw [if_neg (by decide)]
  · simp only [if_neg h]
    rw [if_neg (by decide)]
theorem pack_bOk {b t : Int} (h : ¬ bOk b t = true) : (packM b t).2.2.2 = false := by unfold packM; rw [if_neg h]
theorem impl_Wide_eq (k : Nat) (a b : Int) : impl_Wide.f (k + 8) a b = some (wideM a b) := by
  unfold impl_Wide.f
  rw [impl_BoundsOk_eq, impl_Pack_eq]; simp only [Option.bind_some, impl_Unpack_eq]
  have hw := wide_pack a b
  by_cases h : bOk a b = true
  · rw [if_pos h]; rw [if_pos h] at hw
    rw [← hw]; split <;> rfl
  · rw [if_neg h]; unfold wideM; rw [if_neg h]
theorem spec_Wide_eq (k : Nat) (a b : Int) : spec_Wide.f (k + 8) a b = some (wideM a b) := by
  unfold spec_Wide.f
  rw [spec_BoundsOk_eq, spec_Pack_eq]; simp only [Option.bind_some, spec_Unpack_eq]
  rw [← wide_pack a b]
  by_cases h : (packM a b).2.2.2 = true
  · rw [if_pos h, if_pos h]
  · rw [if_neg h, if_neg h]; split <;> rfl

def exactM (b t : Int) : Bool := bOk b t && decide ((wideM b t).1 = b) && decide ((wideM b t).2 = t)
theorem impl_Exact_eq (k : Nat) (a b : Int) : impl_Exact.f (k + 8) a b = some (exactM a b) := by
  unfold impl_Exact.f exactM
  rw [impl_BoundsOk_eq, impl_Wide_eq]; simp only [Option.bind_some]
  cases bOk a b <;> simp only [Bool.false_and, Bool.true_and, if_true, if_false, Bool.false_eq_true]
  by_cases h : (wideM a b).1 = a
  · rw [if_pos h]; simp [h]; by_cases h2 : (wideM a b).2 = b <;> simp [h2]
  · rw [if_neg h]; simp [h]
theorem spec_Exact_eq (k : Nat) (a b : Int) : spec_Exact.f (k + 8) a b = some (exactM a b) := by
  unfold spec_Exact.f exactM
  rw [spec_BoundsOk_eq, spec_Wide_eq]; simp only [Option.bind_some]
  cases bOk a b <;> simp only [Bool.false_and, Bool.true_and, if_true, if_false, Bool.false_eq_true]
  by_cases h : (wideM a b).1 = a
  · rw [if_pos h]; simp [h]; by_cases h2 : (wideM a b).2 = b <;> simp [h2]
  · rw [if_neg h]; simp [h]

theorem toNat_wrap (v : BitVec 64) : IntKind.i64.wrap (v.toNat : Int) = v.toInt := by
  rw [IntKind.wrap_i64, BitVec.toInt_eq_toNat_cond]
  have := v.isLt
  split <;> omega
theorem ofInt_toInt {x : Int} (h0 : -9223372036854775808 ≤ x) (h1 : x ≤ 9223372036854775807) : (BitVec.ofInt 64 x).toInt = x := by
  rw [← toNat_wrap, BitVec.toNat_ofInt, IntKind.wrap_i64]
  omega
theorem bv_sub (a b : BitVec 64) : b &&& a = a ↔ a &&& ~~~b = 0#64 := by
  constructor
  · intro h
    rw [← h]
    ext i hi
    simp
    intro h1 h2
    simp [h1]
  · intro h
    ext i hi
    have := congrArg (fun v => v[i]) h
    simp at this ⊢
    exact this
theorem bits_and_bv (x y : Int) : bits .and .i64 x y = (BitVec.ofInt 64 x &&& BitVec.ofInt 64 y).toInt := toNat_wrap _
theorem bits_andNot_bv (x y : Int) : bits .andNot .i64 x y = (BitVec.ofInt 64 x &&& ~~~(BitVec.ofInt 64 y)).toInt := toNat_wrap _
theorem toInt_zero_iff (v : BitVec 64) : v.toInt = 0 ↔ v = 0#64 := by
  constructor
  · intro h; exact BitVec.eq_of_toInt_eq (by rw [h]; rfl)
  · rintro rfl; rfl
theorem sub_iff {p' : Int} (p : Int) (h0 : -9223372036854775808 ≤ p') (h1 : p' ≤ 9223372036854775807) : bits .and .i64 p p' = p' ↔ bits .andNot .i64 p' p = 0 := by
  rw [bits_and_bv, bits_andNot_bv, toInt_zero_iff, ← bv_sub]
  constructor
  · intro h; exact BitVec.eq_of_toInt_eq (by rw [h, ofInt_toInt h0 h1])
  · intro h; rw [h, ofInt_toInt h0 h1]
theorem sub_trans {a b c : Int} (h : bits .andNot .i64 b a = 0) (k : bits .andNot .i64 c b = 0) : bits .andNot .i64 c a = 0 := by
  rw [bits_andNot_bv, toInt_zero_iff] at *
  generalize BitVec.ofInt 64 a = x at *
  generalize BitVec.ofInt 64 b = y at *
  generalize BitVec.ofInt 64 c = z at *
  ext i hi
  have h1 := congrArg (fun v => v[i]) h
  have h2 := congrArg (fun v => v[i]) k
  simp at h1 h2 ⊢
  exact fun h3 => h1 (h2 h3)
theorem sub_refl (a : Int) : bits .andNot .i64 a a = 0 := by
  rw [bits_andNot_bv, toInt_zero_iff]
  ext i hi
  simp
theorem and_sub (a b : Int) : bits .andNot .i64 (bits .and .i64 a b) a = 0 := by
  rw [bits_andNot_bv, toInt_zero_iff, bits_and_bv, BitVec.ofInt_toInt]
  ext i hi
  simp
  intro h1 h2
  simp [h1]
theorem and_sub' (a b : Int) : bits .andNot .i64 (bits .and .i64 a b) b = 0 := by
  rw [bits_andNot_bv, toInt_zero_iff, bits_and_bv, BitVec.ofInt_toInt]
  ext i hi
  simp
theorem and_le63 {a : Int} (b : Int) (h : 0 ≤ a ∧ a ≤ 63) : 0 ≤ bits .and .i64 a b ∧ bits .and .i64 a b ≤ 63 := by
  rw [bits_and_bv]
  have h1 : (BitVec.ofInt 64 a &&& BitVec.ofInt 64 b).toNat ≤ 63 := by
    rw [BitVec.toNat_and]
    refine Nat.le_trans Nat.and_le_left ?_
    rw [BitVec.toNat_ofInt]
    omega
  rw [BitVec.toInt_eq_toNat_cond]
  split <;> omega
theorem sub63 {a : Int} (h : 0 ≤ a ∧ a ≤ 63) : bits .andNot .i64 a 63 = 0 := by
  have h' : a = 0 ∨ a = 1 ∨ a = 2 ∨ a = 3 ∨ 4 ≤ a := by omega
  rw [← sub_iff 63 (by omega) (by omega), bits_and_bv]
  have h1 : (BitVec.ofInt 64 63 &&& BitVec.ofInt 64 a).toNat = a.toNat := by
    rw [BitVec.toNat_and, show (BitVec.ofInt 64 63).toNat = 2 ^ 6 - 1 from by decide, Nat.and_comm, Nat.and_two_pow_sub_one_eq_mod, BitVec.toNat_ofInt]
    omega
  rw [BitVec.toInt_eq_toNat_cond, h1]
  split <;> omega

def kOk (b t p s : Int) : Bool := exactM b t && (decide (0 ≤ p ∧ p ≤ 63) && decide (0 ≤ s ∧ s ≤ 7))
theorem kOk_iff (b t p s : Int) : kOk b t p s = true ↔ (exactM b t = true ∧ (0 ≤ p ∧ p ≤ 63) ∧ (0 ≤ s ∧ s ≤ 7)) := by
  unfold kOk; simp only [Bool.and_eq_true, decide_eq_true_eq]

theorem impl_KeyOk_eq (k : Nat) (b t p s : Int) : impl_KeyOk.f (k + 8) b t p s = some (kOk b t p s) := by
  unfold impl_KeyOk.f kOk
  simp only [impl_Exact_eq, impl_in_eq, Option.bind_some]
  cases exactM b t <;> simp only [Bool.false_and, Bool.true_and, if_true, if_false, Bool.false_eq_true]
  cases decide (0 ≤ p ∧ p ≤ 63) <;> simp
theorem spec_KeyOk_eq (k : Nat) (b t p s : Int) : spec_KeyOk.f (k + 8) b t p s = some (kOk b t p s) := by
  unfold spec_KeyOk.f kOk
  simp only [spec_Exact_eq, spec_in_eq, Option.bind_some]
  cases exactM b t <;> simp only [Bool.false_and, Bool.true_and, if_true, if_false, Bool.false_eq_true]
  cases decide (0 ≤ p ∧ p ≤ 63) <;> simp

def wOk (n : Int) (i : Bool) (b t p s : Int) : Bool := decide (0 ≤ n ∧ n ≤ 65535) && (if i = true then kOk b t p s else (b == 0 && (t == 0 && (p == 0 && (s == 0)))))
theorem impl_WordOk_eq (k : Nat) (n : Int) (i : Bool) (b t p s : Int) : impl_WordOk.f (k + 8) n i b t p s = some (wOk n i b t p s) := by
  unfold impl_WordOk.f wOk
  simp only [impl_KeyOk_eq, impl_in_eq, Option.bind_some]
  cases decide (0 ≤ n ∧ n ≤ 65535) <;> cases i <;> simp
theorem spec_WordOk_eq (k : Nat) (n : Int) (i : Bool) (b t p s : Int) : spec_WordOk.f (k + 8) n i b t p s = some (wOk n i b t p s) := by
  unfold spec_WordOk.f wOk
  simp only [spec_KeyOk_eq, spec_in_eq, Option.bind_some]
  cases decide (0 ≤ n ∧ n ≤ 65535) <;> cases i <;> simp
  cases kOk b t p s <;> simp
theorem wOk_key {n b t p s : Int} (h : wOk n true b t p s = true) : (0 ≤ n ∧ n ≤ 65535) ∧ kOk b t p s = true := by
  unfold wOk at h; simpa only [Bool.and_eq_true, decide_eq_true_eq, if_true] using h

def tryM (n : Int) (i : Bool) (b t p s m q : Int) : Int :=
  if (i && wOk n i b t p s) = true then (if s = 0 then (if bits .andNot .i64 q p = 0 then (if m < b then 4 else if t ≤ m then 4 else 0) else 3) else 2) else 1
theorem impl_Try_eq (k : Nat) (n : Int) (i : Bool) (b t p s m q : Int) : impl_Try.f (k + 10) n i b t p s m q = some (tryM n i b t p s m q) := by
  unfold impl_Try.f tryM
  simp only [impl_WordOk_eq, Option.bind_some]
  cases i
  · simp [impl_Try.j0]
  · cases hw : wOk n true b t p s
    · simp [impl_Try.j0]
    · simp only [impl_Try.j0, if_true, Bool.not_true, Bool.false_eq_true, if_false, Bool.and_self]
      by_cases h1 : s = 0 <;> by_cases h2 : bits .andNot .i64 q p = 0 <;> by_cases h3 : m < b <;> by_cases h4 : m ≥ t <;> simp [h1, h2, h3, h4] <;> (try omega)
theorem spec_Try_eq (k : Nat) (n : Int) (i : Bool) (b t p s m q : Int) (hq0 : -9223372036854775808 ≤ q) (hq1 : q ≤ 9223372036854775807) : spec_Try.f (k + 10) n i b t p s m q = some (tryM n i b t p s m q) := by
  unfold spec_Try.f tryM
  simp only [spec_WordOk_eq, Option.bind_some]
  cases i
  · cases wOk n false b t p s <;> simp [spec_Try.j0]
  · cases hw : wOk n true b t p s
    · simp [spec_Try.j0]
    · simp only [spec_Try.j0, if_true, Bool.not_true, Bool.false_eq_true, if_false, Bool.and_self]
      by_cases h1 : s = 0 <;> by_cases h2 : bits .andNot .i64 q p = 0 <;> by_cases h3 : m < b <;> by_cases h4 : m ≥ t <;> simp [h1, h2, h3, h4, sub_iff p hq0 hq1] <;> (try omega)

def fetchM (l : List S25) (n : Int) (i : Bool) (b t p s : Int) : Int × Int × Int × Int × Int × Int :=
  if tryM n i b t p s n 4 = 0 then (if 0 ≤ n ∧ n < (l.length : Int) then (if insT (rd_T25 l n) = true then ((rd_T25 l n).f0, (rd_T25 l n).f1, (rd_T25 l n).f2, (rd_T25 l n).f3, (rd_T25 l n).f4, 0) else (0, 0, 0, 0, 0, 4)) else (0, 0, 0, 0, 0, 4)) else (0, 0, 0, 0, 0, tryM n i b t p s n 4)
theorem impl_Fetch_eq (k : Nat) (l : List S25) (n : Int) (i : Bool) (b t p s : Int) (hl : l.length ≤ 2000000) : impl_Fetch.f (k + 20) l n i b t p s = some (fetchM l n i b t p s) := by
  unfold impl_Fetch.f fetchM
  rw [show k + 20 = k + 10 + 10 from rfl, impl_Try_eq]; simp only [Option.bind_some]
  by_cases h : tryM n i b t p s n 4 = 0
  · rw [if_pos h, if_pos h, show wrap64 ((l.length : Int) - 1) = (l.length : Int) - 1 from wrap_in (by omega) (by omega), impl_in_eq]; simp only [Option.bind_some]
    by_cases h2 : 0 ≤ n ∧ n < (l.length : Int)
    · rw [if_pos (decide_eq_true (by omega)), if_pos h2.1, if_pos h2.2, if_pos h2, impl_InsOk_eq _ _ _ _ _ _ (by omega)]; simp only [Option.bind_some]
      rw [show insM (rd_T25 l n).f0 (rd_T25 l n).f1 (rd_T25 l n).f2 (rd_T25 l n).f3 (rd_T25 l n).f4 = insT (rd_T25 l n) from rfl]
      cases insT (rd_T25 l n) <;> simp
    · rw [if_neg (by simp; omega), if_neg h2]
  · rw [if_neg h, if_neg h]
theorem spec_Fetch_eq (k : Nat) (l : List S25) (n : Int) (i : Bool) (b t p s : Int) (hl : l.length ≤ 2000000) : spec_Fetch.f (k + 20) l n i b t p s = some (fetchM l n i b t p s) := by
  unfold spec_Fetch.f fetchM
  rw [show k + 20 = k + 10 + 10 from rfl, spec_Try_eq _ _ _ _ _ _ _ _ _ (by omega) (by omega)]; simp only [Option.bind_some]
  by_cases h : tryM n i b t p s n 4 = 0
  · rw [if_pos h, if_pos h, show wrap64 ((l.length : Int) - 1) = (l.length : Int) - 1 from wrap_in (by omega) (by omega), spec_in_eq]; simp only [Option.bind_some]
    by_cases h2 : 0 ≤ n ∧ n < (l.length : Int)
    · rw [if_pos (decide_eq_true (by omega)), if_pos h2.1, if_pos h2.2, if_pos h2, spec_InsOk_eq]; simp only [Option.bind_some]
      rw [show insM (rd_T25 l n).f0 (rd_T25 l n).f1 (rd_T25 l n).f2 (rd_T25 l n).f3 (rd_T25 l n).f4 = insT (rd_T25 l n) from rfl]
      cases insT (rd_T25 l n) <;> simp
    · rw [if_neg (by simp; omega), if_neg h2]
  · rw [if_neg h, if_neg h]

theorem eqIns_same (a b c d e : Int) : laws_eqIns.f a b c d e a b c d e = some true := by unfold laws_eqIns.f; simp

theorem toIns_eq (a b c d e : Int) : laws_toIns.f a b c d e = some (a, b, c, d, e) := rfl

theorem toInsS_rounds (l : List S23) (hl : l.length ≤ 2000000) (d : Nat) : ∀ (k : Nat) (x : List S25) (i : Int), 0 ≤ i → x.length = l.length → (l.length : Int) - i = d → d < k → ∃ r, laws_toInsS.l0 k l x i = some r ∧ r.length = l.length := by
  induction d with
  | zero =>
    intro k x i h0 hx hd hk
    obtain ⟨k, rfl⟩ : ∃ m, k = m + 1 := ⟨k - 1, by omega⟩
    simp only [laws_toInsS.l0]; rw [if_neg (by omega)]; exact ⟨x, rfl, hx⟩
  | succ d ih =>
    intro k x i h0 hx hd hk
    obtain ⟨k, rfl⟩ : ∃ m, k = m + 1 := ⟨k - 1, by omega⟩
    simp only [laws_toInsS.l0]; rw [if_pos (by omega), if_pos h0]; simp only [toIns_eq, Option.bind_some]
    rw [if_pos (by omega), show wrap64 (i + 1) = i + 1 from wrap_in (by omega) (by omega)]
    exact ih k _ (i + 1) (by omega) (by simpa using hx) (by omega) (by omega)
theorem toInsS_all (l : List S23) (hl : l.length ≤ 1048576) : ∃ a, (∀ k, l.length < k → laws_toInsS.f k l = some a) ∧ a.length = l.length := by
  obtain ⟨a, e, ha⟩ : ∃ r, laws_toInsS.f (l.length + 1) l = some r ∧ r.length = l.length := by
    unfold laws_toInsS.f
    rw [if_pos (by omega), if_pos (by omega)]
    exact toInsS_rounds l (by omega) l.length _ _ 0 (by omega) (by simp) (by omega) (by omega)
  exact ⟨a, fun k h => at_rounds (fun k => laws_toInsS.mono l k) h e, ha⟩
theorem eqInsS_rounds (l : List S25) (hl : l.length ≤ 2000000) (d : Nat) : ∀ (k : Nat) (i : Int), 0 ≤ i → (l.length : Int) - i = d → d < k → laws_eqInsS.l0 k l l i = some true := by
  induction d with
  | zero =>
    intro k i h0 hd hk
    obtain ⟨k, rfl⟩ : ∃ m, k = m + 1 := ⟨k - 1, by omega⟩
    simp only [laws_eqInsS.l0]; rw [if_neg (by omega)]
  | succ d ih =>
    intro k i h0 hd hk
    obtain ⟨k, rfl⟩ : ∃ m, k = m + 1 := ⟨k - 1, by omega⟩
    simp only [laws_eqInsS.l0]; rw [if_pos (by omega), if_pos h0, if_pos (by omega), eqIns_same]; simp only [Option.bind_some, if_true]
    rw [show wrap64 (i + 1) = i + 1 from wrap_in (by omega) (by omega)]
    exact ih k (i + 1) (by omega) (by omega) (by omega)
theorem eqInsS_same (l : List S25) (k : Nat) (hl : l.length ≤ 2000000) (hk : l.length < k) : laws_eqInsS.f k l l = some true := by
  unfold laws_eqInsS.f; rw [if_pos rfl]; exact eqInsS_rounds l hl l.length k 0 (by omega) (by omega) hk
theorem szInsS_eq (l : List S23) (hl : l.length ≤ maxLen) : ∃ z, laws_szInsS.f l 1048576 = some z ∧ (0 ≤ z → l.length ≤ 1048576) := by
  unfold maxLen at hl
  unfold laws_szInsS.f
  rw [show wrap64 (1048576 - (l.length : Int)) = 1048576 - l.length from wrap_in (by omega) (by omega)]
  by_cases h : (l.length : Int) ≤ 1048576
  · rw [if_neg (by omega)]; exact ⟨_, rfl, fun _ => by omega⟩
  · rw [if_pos (by omega)]; exact ⟨_, rfl, fun h => by omega⟩

theorem toKey_eq (a b c d : Int) : laws_toKey.f a b c d = some (a, b, c, d) := rfl

theorem toWord_eq (n : Int) (i : Bool) (a b c d : Int) : laws_toWord.f n i a b c d = some (n, i, a, b, c, d) := rfl

theorem FnExactFetch : laws_FnExactFetch.Mine := by
  intro l n i b t p s hl _ _ _ _ _
  refine ⟨l.length + 30 + 20, ?_⟩
  unfold laws_FnExactFetch.f
  obtain ⟨z, e, hz⟩ := szInsS_eq l hl
  rw [e]; simp only [Option.bind_some]
  by_cases h : z < 0
  · rw [if_pos h]
  rw [if_neg h]
  have h1 := hz (by omega)
  obtain ⟨a, e2, ha⟩ := toInsS_all l h1
  rw [e2 _ (by omega)]; simp only [Option.bind_some, toWord_eq]
  rw [spec_Fetch_eq _ _ _ _ _ _ _ _ (by omega), impl_Fetch_eq _ _ _ _ _ _ _ _ (by omega)]
  simp only [Option.bind_some, eqIns_same, if_true, bne_self_eq_false]
  rw [show l.length + 30 + 20 = (l.length + 49) + 1 from rfl]
  simp only [laws_FnExactFetch.j0]
  rw [if_neg (by decide), e2 _ (by omega)]; simp only [Option.bind_some]
  rw [eqInsS_same _ _ (by omega) (by omega)]
  simp

end Go.Proofs.Ytopbiecjfhfhdaa.Pure
