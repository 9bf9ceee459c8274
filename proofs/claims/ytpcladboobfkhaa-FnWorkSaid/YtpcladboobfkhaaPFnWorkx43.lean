/- Plain laws of the printed functions. -/
import Derived.Test.YtpcladboobfkhaaPFnWorkx13
import Derived.Test.YtpcladboobfkhaaPFnWorkx16
import Derived.Test.YtpcladboobfkhaaPFnWorkx21
import Derived.Test.YtpcladboobfkhaaPFnWorkx22
import Derived.Test.YtpcladboobfkhaaPFnWorkx24
import Derived.Test.YtpcladboobfkhaaPFnWorkx25
import Derived.Test.YtpcladboobfkhaaPFnWorkx26
import Derived.Test.YtpcladboobfkhaaPFnWorkx27
import Derived.Test.YtpcladboobfkhaaPFnWorkx40
namespace Go.Proofs.Ytpcladboobfkhaa.Pure
open Go.RowKit Go.Proofs.Ytpcladboobfkhaa.PFnWork Go.Proofs.YtpcladboobfkhaaW.PrintWords Go.Proofs.YtpcladboobfkhaaW.PrintLast Go.Proofs.YtpcladboobfkhaaW.PrintMore
set_option linter.unusedVariables false
set_option linter.unusedSimpArgs false

theorem formOf_none (k : Nat) (op : Int) (h : ¬ (1 ≤ op ∧ op ≤ 15)) : impl_formOf.f (k + 2) op = some ((⟨#[]⟩ : ByteArray), false) := by
  have ne : ∀ m : Int, 1 ≤ m → m ≤ 15 → op ≠ m := fun m _ _ => by omega
  unfold impl_formOf.f
  simp [impl_formOf.j0, impl_formOf.j1, ne]
theorem formOf_ok (k : Nat) (op : Int) : ∃ s, impl_formOf.f (k + 2) op = some (s, hOp op) := by
  rcases op_cases op with rfl | rfl | rfl | rfl | rfl | rfl | rfl | rfl | rfl | rfl | rfl | rfl | rfl | rfl | rfl | h
  case inr.inr.inr.inr.inr.inr.inr.inr.inr.inr.inr.inr.inr.inr.inr => exact ⟨(⟨#[]⟩ : ByteArray), by rw [formOf_none k op h]; simp [hOp, h]⟩
  all_goals exact ⟨_, rfl⟩
theorem hasPart_up {k : Nat} {op r a b n p : Int} {v : Bool} (hk : 12 ≤ k) (h : impl_hasPart.f 12 op 0 0 0 0 p = some v) : impl_hasPart.f k op r a b n p = some v :=
  at_rounds (fun k => impl_hasPart.mono op r a b n p k) hk h
theorem hasPart_none (k : Nat) (op r a b n p : Int) (hk : 12 ≤ k) (h : ¬ (1 ≤ op ∧ op ≤ 15)) : impl_hasPart.f k op r a b n p = some false := by
  refine at_rounds (fun k => impl_hasPart.mono op r a b n p k) hk ?_
  show impl_hasPart.f 12 op r a b n p = some false
  unfold impl_hasPart.f
  rw [formOf_none 10 op h]
  rfl
theorem hasPart_R (k : Nat) (op r a b n : Int) (hk : 12 ≤ k) : impl_hasPart.f k op r a b n 82 = some (hR op) := by
  rcases op_cases op with rfl | rfl | rfl | rfl | rfl | rfl | rfl | rfl | rfl | rfl | rfl | rfl | rfl | rfl | rfl | h
  case inr.inr.inr.inr.inr.inr.inr.inr.inr.inr.inr.inr.inr.inr.inr => rw [hasPart_none k op r a b n 82 hk h]; congr 1; symm; unfold hR; simp; omega
  all_goals exact hasPart_up hk (by decide +kernel)
theorem hasPart_A (k : Nat) (op r a b n : Int) (hk : 12 ≤ k) : impl_hasPart.f k op r a b n 65 = some (hA op) := by
  rcases op_cases op with rfl | rfl | rfl | rfl | rfl | rfl | rfl | rfl | rfl | rfl | rfl | rfl | rfl | rfl | rfl | h
  case inr.inr.inr.inr.inr.inr.inr.inr.inr.inr.inr.inr.inr.inr.inr => rw [hasPart_none k op r a b n 65 hk h]; congr 1; symm; unfold hA; simp; omega
  all_goals exact hasPart_up hk (by decide +kernel)
theorem hasPart_B (k : Nat) (op r a b n : Int) (hk : 12 ≤ k) : impl_hasPart.f k op r a b n 66 = some (hB op) := by
  rcases op_cases op with rfl | rfl | rfl | rfl | rfl | rfl | rfl | rfl | rfl | rfl | rfl | rfl | rfl | rfl | rfl | h
  case inr.inr.inr.inr.inr.inr.inr.inr.inr.inr.inr.inr.inr.inr.inr => rw [hasPart_none k op r a b n 66 hk h]; congr 1; symm; unfold hB; simp; omega
  all_goals exact hasPart_up hk (by decide +kernel)
theorem hasPart_N (k : Nat) (op r a b n : Int) (hk : 12 ≤ k) : impl_hasPart.f k op r a b n 78 = some (hN op) := by
  rcases op_cases op with rfl | rfl | rfl | rfl | rfl | rfl | rfl | rfl | rfl | rfl | rfl | rfl | rfl | rfl | rfl | h
  case inr.inr.inr.inr.inr.inr.inr.inr.inr.inr.inr.inr.inr.inr.inr => rw [hasPart_none k op r a b n 78 hk h]; congr 1; symm; unfold hN; simp; omega
  all_goals exact hasPart_up hk (by decide +kernel)

theorem impl_in_eq (n lo hi : Int) : impl_in.f n lo hi = some (decide (lo ≤ n ∧ n ≤ hi)) := by
  unfold impl_in.f; by_cases h : n ≥ lo
  · rw [if_pos h]; simp [show lo ≤ n from h]
  · rw [if_neg h]; simp [show ¬ lo ≤ n from h]

theorem impl_BoundsOk_eq (a b : Int) : impl_BoundsOk.f a b = some (bOk a b) := by
  unfold impl_BoundsOk.f bOk; rw [impl_in_eq]; simp only [Option.bind_some]
  by_cases h : 0 ≤ a ∧ a ≤ b
  · rw [if_pos (decide_eq_true h)]; simp [h.1, h.2]
  · rw [if_neg (by simpa using h)]; congr 1; symm; simp; omega

theorem impl_pk_round (k : Nat) {b t e u e1 : Int} (p : Nat) (hu : u = 2 ^ p) (he : e = p) (h1 : e1 = e + 1) (hp : p ≤ 6) (h : 0 ≤ b ∧ b ≤ t ∧ t ≤ 4096) (u0 : 0 < u) (u1 : u ≤ 64)
    (q0 : 0 ≤ b / u) (q1 : b / u * u ≤ b) (q2 : b / u ≤ b) (r0 : 0 ≤ (t - b / u * u + u - 1) / u) (r1 : (t - b / u * u + u - 1) / u ≤ 5000) :
    impl_Pack.l0 (k + 1) b t e = if fits b t u = true then some (pkOf b t e u) else impl_Pack.l0 k b t e1 := by
  have hs : shl .i64 1 e = u := by rw [shl_of (u := u) p hu he (by omega) (by omega) (by omega)]; omega
  have q3 : 0 ≤ b / u * u := Int.mul_nonneg q0 (by omega)
  have w1 : wrap64 (Int.tdiv b u) = b / u := by rw [Int.tdiv_eq_ediv_of_nonneg (by omega)]; exact wrap_in (by omega) (by omega)
  have w2 : wrap64 (b / u * u) = b / u * u := wrap_in (by omega) (by omega)
  have w3 : wrap64 (t - b / u * u) = t - b / u * u := wrap_in (by omega) (by omega)
  have w4 : wrap64 (t - b / u * u + u) = t - b / u * u + u := wrap_in (by omega) (by omega)
  have w5 : wrap64 (t - b / u * u + u - 1) = t - b / u * u + u - 1 := wrap_in (by omega) (by omega)
  have w6 : wrap64 (Int.tdiv (t - b / u * u + u - 1) u) = (t - b / u * u + u - 1) / u := by
    rw [Int.tdiv_eq_ediv_of_nonneg (by omega)]; exact wrap_in (by omega) (by omega)
  have w7 : wrap64 (e + 1) = e1 := by rw [h1]; exact wrap_in (by omega) (by omega)
  simp only [impl_Pack.l0]
  rw [hs, w1, w2, w3, w4, w5, w6, w7, if_pos (by omega), if_pos (by omega), if_neg (by omega)]
  unfold fits pkOf
  by_cases g1 : b / u ≤ 63
  · rw [if_pos g1]
    by_cases g2 : (t - b / u * u + u - 1) / u ≤ 63
    · rw [if_pos g2, if_pos (decide_eq_true ⟨g1, g2⟩)]
    · rw [if_neg g2, if_neg (by simp [g2])]
  · rw [if_neg g1, if_neg (by simp [g1])]
theorem impl_Pack_eq (k : Nat) (a b : Int) : impl_Pack.f (k + 8) a b = some (packM a b) := by
  unfold impl_Pack.f packM
  rw [impl_BoundsOk_eq]; simp only [Option.bind_some]
  by_cases h : bOk a b = true
  · rw [if_pos h, if_pos h]
    have H := (bOk_iff a b).1 h
    rw [impl_pk_round (k + 7) (u := 1) (e1 := 1) 0 (by omega) (by omega) (by omega) (by omega) H (by omega) (by omega) (by omega) (by omega) (by omega) (by omega) (by omega),
      impl_pk_round (k + 6) (u := 2) (e1 := 2) 1 (by omega) (by omega) (by omega) (by omega) H (by omega) (by omega) (by omega) (by omega) (by omega) (by omega) (by omega),
      impl_pk_round (k + 5) (u := 4) (e1 := 3) 2 (by omega) (by omega) (by omega) (by omega) H (by omega) (by omega) (by omega) (by omega) (by omega) (by omega) (by omega),
      impl_pk_round (k + 4) (u := 8) (e1 := 4) 3 (by omega) (by omega) (by omega) (by omega) H (by omega) (by omega) (by omega) (by omega) (by omega) (by omega) (by omega),
      impl_pk_round (k + 3) (u := 16) (e1 := 5) 4 (by omega) (by omega) (by omega) (by omega) H (by omega) (by omega) (by omega) (by omega) (by omega) (by omega) (by omega),
      impl_pk_round (k + 2) (u := 32) (e1 := 6) 5 (by omega) (by omega) (by omega) (by omega) H (by omega) (by omega) (by omega) (by omega) (by omega) (by omega) (by omega),
      impl_pk_round (k + 1) (u := 64) (e1 := 7) 6 (by omega) (by omega) (by omega) (by omega) H (by omega) (by omega) (by omega) (by omega) (by omega) (by omega) (by omega)]
    have hz : impl_Pack.l0 (k + 1) a b 7 = some (0, 0, 0, false) := by simp only [impl_Pack.l0]; rw [if_neg (by omega)]
    rw [hz]
    repeat (first | rfl | (split; rfl))
  · rw [if_neg h, if_neg h]
theorem impl_Unpack_eq (e b l : Int) : impl_Unpack.f e b l = some (unpM e b l) := by
  unfold impl_Unpack.f unpM
  simp only [impl_in_eq, Option.bind_some]
  by_cases h1 : 0 ≤ e ∧ e ≤ 6
  · rw [if_pos (decide_eq_true h1)]
    by_cases h2 : 0 ≤ b ∧ b ≤ 63
    · rw [if_pos (decide_eq_true h2)]
      by_cases h3 : 0 ≤ l ∧ l ≤ 63
      · rw [if_pos (decide_eq_true h3), if_pos h1.1, if_pos ⟨h1.1, h1.2, h2.1, h2.2, h3.1, h3.2⟩, shl_small6 h1 ⟨h2.1, by omega⟩,
          wrap_in (n := b + l) (by omega) (by omega), shl_small6 (x := b + l) h1 ⟨by omega, by omega⟩]
        rfl
      · rw [if_neg (by simpa using h3), if_neg (by omega)]
    · rw [if_neg (by simpa using h2), if_neg (by omega)]
  · rw [if_neg (by simpa using h1), if_neg (by omega)]
theorem impl_Wide_eq (k : Nat) (a b : Int) : impl_Wide.f (k + 8) a b = some (wideM a b) := by
  unfold impl_Wide.f
  rw [impl_BoundsOk_eq, impl_Pack_eq]; simp only [Option.bind_some, impl_Unpack_eq]
  have hw := wide_pack a b
  by_cases h : bOk a b = true
  · rw [if_pos h]; rw [if_pos h] at hw
    rw [← hw]; split <;> rfl
  · rw [if_neg h]; unfold wideM; rw [if_neg h]
theorem impl_Exact_eq (k : Nat) (a b : Int) : impl_Exact.f (k + 8) a b = some (exactM a b) := by
  unfold impl_Exact.f exactM
  rw [impl_BoundsOk_eq, impl_Wide_eq]; simp only [Option.bind_some]
  cases bOk a b <;> simp only [Bool.false_and, Bool.true_and, if_true, if_false, Bool.false_eq_true]
  by_cases h : (wideM a b).1 = a
  · rw [if_pos h]; simp [h]; by_cases h2 : (wideM a b).2 = b <;> simp [h2]
  · rw [if_neg h]; simp [h]


theorem impl_KeyOk_eq (k : Nat) (b t p s : Int) : impl_KeyOk.f (k + 8) b t p s = some (kOk b t p s) := by
  unfold impl_KeyOk.f kOk
  simp only [impl_Exact_eq, impl_in_eq, Option.bind_some]
  cases exactM b t <;> simp only [Bool.false_and, Bool.true_and, if_true, if_false, Bool.false_eq_true]
  cases decide (0 ≤ p ∧ p ≤ 63) <;> simp
def wOk (n : Int) (i : Bool) (b t p s : Int) : Bool := decide (0 ≤ n ∧ n ≤ 65535) && (if i = true then kOk b t p s else (b == 0 && (t == 0 && (p == 0 && (s == 0)))))
theorem impl_WordOk_eq (k : Nat) (n : Int) (i : Bool) (b t p s : Int) : impl_WordOk.f (k + 8) n i b t p s = some (wOk n i b t p s) := by
  unfold impl_WordOk.f wOk
  simp only [impl_KeyOk_eq, impl_in_eq, Option.bind_some]
  cases decide (0 ≤ n ∧ n ≤ 65535) <;> cases i <;> simp
theorem spec_WordOk_eq (k : Nat) (n : Int) (i : Bool) (b t p s : Int) : spec_WordOk.f (k + 8) n i b t p s = some (wOk n i b t p s) := by
  unfold spec_WordOk.f wOk
  simp only [spec_KeyOk_eq, spec_in_eq, Option.bind_some]
  cases decide (0 ≤ n ∧ n ≤ 65535) <;> cases i <;> simp
  cases kOk b t p s <;> simp
theorem wOk_key {n b t p s : Int} (h : wOk n true b t p s = true) : (0 ≤ n ∧ n ≤ 65535) ∧ kOk b t p s = true := by
  unfold wOk at h; simpa only [Bool.and_eq_true, decide_eq_true_eq, if_true] using h

def opM (n : Int) (i : Bool) (b t p s : Int) : Bool := wOk n i b t p s && (i && (s == 0))
theorem impl_open_eq (k : Nat) (n : Int) (i : Bool) (b t p s : Int) : impl_open.f (k + 8) n i b t p s = some (opM n i b t p s) := by
  unfold impl_open.f opM
  simp only [impl_WordOk_eq, Option.bind_some]
  cases wOk n i b t p s <;> cases i <;> simp
theorem spec_Open_eq (k : Nat) (n : Int) (i : Bool) (b t p s : Int) : spec_l4Open.f (k + 8) n i b t p s = some (opM n i b t p s) := by
  unfold spec_l4Open.f opM
  simp only [spec_WordOk_eq, Option.bind_some]
  cases wOk n i b t p s <;> cases i <;> simp
theorem op_true {n : Int} {i : Bool} {b t p s : Int} (h : opM n i b t p s = true) : i = true ∧ s = 0 ∧ (0 ≤ n ∧ n ≤ 65535) ∧ kOk b t p s = true := by
  unfold opM at h
  simp only [Bool.and_eq_true, beq_iff_eq] at h
  obtain ⟨h1, rfl, h3⟩ := h
  have := wOk_key h1
  exact ⟨rfl, h3, this.1, this.2⟩


theorem impl_Plain_eq (n : Int) : impl_Plain.f n = some (plainM n) := by unfold impl_Plain.f plainM; rw [and_65535]
def pointM (n : Int) (i : Bool) (b t p s m : Int) : Int × Bool × Int × Int × Int × Int := if opM n i b t p s = true then (m % 65536, true, b, t, p, s) else plainM m
theorem impl_Point_eq (k : Nat) (n : Int) (i : Bool) (b t p s m : Int) : impl_Point.f (k + 8) n i b t p s m = some (pointM n i b t p s m) := by
  unfold impl_Point.f pointM
  simp only [impl_open_eq, impl_Plain_eq, Option.bind_some]
  split <;> rfl
theorem spec_Point_eq (k : Nat) (n : Int) (i : Bool) (b t p s m : Int) : spec_Point.f (k + 8) n i b t p s m = some (pointM n i b t p s m) := by
  unfold spec_Point.f pointM
  simp only [spec_Open_eq, spec_Plain_eq, Option.bind_some, and_65535]
  split
  · rename_i h; rw [(op_true h).1]
  · rfl

def tryM (n : Int) (i : Bool) (b t p s m q : Int) : Int :=
  if (i && wOk n i b t p s) = true then (if s = 0 then (if bits .andNot .i64 q p = 0 then (if m < b then 4 else if t ≤ m then 4 else 0) else 3) else 2) else 1
theorem impl_Try_eq (k : Nat) (n : Int) (i : Bool) (b t p s m q : Int) : impl_Try.f (k + 10) n i b t p s m q = some (tryM n i b t p s m q) := by
  unfold impl_Try.f tryM
  simp only [impl_WordOk_eq, Option.bind_some]
  cases i
  · simp [impl_Try.j0]
  · cases hw : wOk n true b t p s
    · simp [impl_Try.j0]
    · simp only [impl_Try.j0, if_true, Bool.not_true, Bool.false_eq_true, if_false, Bool.and_self]
      by_cases h1 : s = 0 <;> by_cases h2 : bits .andNot .i64 q p = 0 <;> by_cases h3 : m < b <;> by_cases h4 : m ≥ t <;> simp [h1, h2, h3, h4] <;> (try omega)
theorem spec_Try_eq (k : Nat) (n : Int) (i : Bool) (b t p s m q : Int) (hq0 : -9223372036854775808 ≤ q) (hq1 : q ≤ 9223372036854775807) : spec_Try.f (k + 10) n i b t p s m q = some (tryM n i b t p s m q) := by
  unfold spec_Try.f tryM
  simp only [spec_WordOk_eq, Option.bind_some]
  cases i
  · cases wOk n false b t p s <;> simp [spec_Try.j0]
  · cases hw : wOk n true b t p s
    · simp [spec_Try.j0]
    · simp only [spec_Try.j0, if_true, Bool.not_true, Bool.false_eq_true, if_false, Bool.and_self]
      by_cases h1 : s = 0 <;> by_cases h2 : bits .andNot .i64 q p = 0 <;> by_cases h3 : m < b <;> by_cases h4 : m ≥ t <;> simp [h1, h2, h3, h4, sub_iff p hq0 hq1] <;> (try omega)

theorem impl_Bare_eq (n : Int) (i : Bool) (b t p s : Int) : impl_Bare.f n i b t p s = some (plainM n) := by unfold impl_Bare.f; rw [impl_Plain_eq]; rfl
theorem spec_Bare_eq (n : Int) (i : Bool) (b t p s : Int) : spec_Bare.f n i b t p s = some (plainM n) := by unfold spec_Bare.f; rw [spec_Plain_eq]; rfl

def weakM (n : Int) (i : Bool) (b t p s m : Int) : Int × Bool × Int × Int × Int × Int := if opM n i b t p s = true then (n, i, b, t, bits .and .i64 p (bits .and .i64 m 63), s) else plainM n
theorem impl_Weaken_eq (k : Nat) (n : Int) (i : Bool) (b t p s m : Int) : impl_Weaken.f (k + 8) n i b t p s m = some (weakM n i b t p s m) := by
  unfold impl_Weaken.f weakM
  simp only [impl_open_eq, impl_Bare_eq, Option.bind_some]
  split <;> rfl
theorem spec_Weaken_eq (k : Nat) (n : Int) (i : Bool) (b t p s m : Int) : spec_Weaken.f (k + 8) n i b t p s m = some (weakM n i b t p s m) := by
  unfold spec_Weaken.f weakM
  simp only [spec_Open_eq, spec_Bare_eq, Option.bind_some]
  split <;> rfl

def narrowM (n : Int) (i : Bool) (b t p s m : Int) : Int × Bool × Int × Int × Int × Int :=
  if (opM n i b t p s && (decide (0 ≤ m ∧ m ≤ 4096) && (bOk n (wrap64 (n + m)) && (decide (b ≤ (wideM n (wrap64 (n + m))).1) && decide ((wideM n (wrap64 (n + m))).2 ≤ t))))) = true
  then (n, i, (wideM n (wrap64 (n + m))).1, (wideM n (wrap64 (n + m))).2, p, s) else plainM n
theorem impl_Narrow_eq (k : Nat) (n : Int) (i : Bool) (b t p s m : Int) : impl_Narrow.f (k + 9) n i b t p s m = some (narrowM n i b t p s m) := by
  unfold impl_Narrow.f narrowM
  simp only [impl_open_eq, impl_BoundsOk_eq, Option.bind_some]
  have e : k + 9 = (k + 8) + 1 := rfl
  cases opM n i b t p s
  · rw [e]; simp [impl_Narrow.j0, impl_Bare_eq]
  by_cases h1 : m < 0
  · rw [e]; simp [impl_Narrow.j0, impl_Bare_eq, h1, show ¬ 0 ≤ m by omega]
  by_cases h2 : m > 4096
  · rw [e]; simp [impl_Narrow.j0, impl_Bare_eq, h1, h2, show ¬ m ≤ 4096 by omega]
  cases bOk n (wrap64 (n + m))
  · rw [e]; simp [impl_Narrow.j0, impl_Bare_eq, h1, h2]
  · rw [e]
    simp only [impl_Narrow.j0, impl_Bare_eq, impl_Wide_eq, h1, h2, if_true, if_false, Bool.not_true, Bool.false_eq_true, Option.bind_some, Bool.true_and, show (0 ≤ m ∧ m ≤ 4096) = True from eq_true ⟨by omega, by omega⟩, decide_true]
    by_cases h3 : (wideM n (wrap64 (n + m))).1 < b
    · simp [h3, show ¬ b ≤ (wideM n (wrap64 (n + m))).1 by omega]
    by_cases h4 : (wideM n (wrap64 (n + m))).2 > t
    · simp [h3, h4, show ¬ (wideM n (wrap64 (n + m))).2 ≤ t by omega]
    · simp [h3, h4, show b ≤ (wideM n (wrap64 (n + m))).1 by omega, show (wideM n (wrap64 (n + m))).2 ≤ t by omega]
theorem spec_Narrow_eq (k : Nat) (n : Int) (i : Bool) (b t p s m : Int) : spec_Narrow.f (k + 9) n i b t p s m = some (narrowM n i b t p s m) := by
  unfold spec_Narrow.f narrowM
  simp only [spec_Open_eq, spec_BoundsOk_eq, spec_in_eq, Option.bind_some]
  have e : k + 9 = (k + 8) + 1 := rfl
  cases opM n i b t p s
  · rw [e]; simp [spec_Narrow.j0, spec_Bare_eq]
  by_cases h1 : 0 ≤ m ∧ m ≤ 4096
  · cases bOk n (wrap64 (n + m))
    · rw [e]; simp [spec_Narrow.j0, spec_Bare_eq, h1]
    · rw [e]
      simp only [spec_Narrow.j0, spec_Bare_eq, spec_Wide_eq, h1, if_true, if_false, Bool.not_true, Bool.false_eq_true, Option.bind_some, Bool.true_and, and_self, decide_true]
      by_cases h3 : (wideM n (wrap64 (n + m))).1 < b
      · simp [h3, show ¬ b ≤ (wideM n (wrap64 (n + m))).1 by omega]
      by_cases h4 : (wideM n (wrap64 (n + m))).2 > t
      · simp [h3, h4, show ¬ (wideM n (wrap64 (n + m))).2 ≤ t by omega]
      · simp [h3, h4, show b ≤ (wideM n (wrap64 (n + m))).1 by omega, show (wideM n (wrap64 (n + m))).2 ≤ t by omega]
  · rw [e]; simp [spec_Narrow.j0, spec_Bare_eq, h1]

def sealsM (n : Int) (i : Bool) (b t p s : Int) : Bool := opM n i b t p s && (!(bits .and .i64 p 32 == 0) && (decide (b ≤ n) && (decide (n < t) && decide (1 ≤ n ∧ n ≤ 7))))
theorem impl_seals_eq (k : Nat) (n : Int) (i : Bool) (b t p s : Int) : impl_seals.f (k + 8) n i b t p s = some (sealsM n i b t p s) := by
  unfold impl_seals.f sealsM
  simp only [impl_open_eq, impl_in_eq, Option.bind_some]
  cases opM n i b t p s <;> by_cases h1 : bits .and .i64 p 32 = 0 <;> by_cases h2 : n ≥ b <;> by_cases h3 : n < t <;> simp [h1, h2, h3] <;> (try omega)
theorem spec_seals_eq (k : Nat) (n : Int) (i : Bool) (b t p s : Int) : spec_l4Sealer.f (k + 8) n i b t p s = some (sealsM n i b t p s) := by
  unfold spec_l4Sealer.f sealsM
  simp only [spec_Open_eq, spec_in_eq, Option.bind_some]
  cases opM n i b t p s <;> by_cases h1 : bits .and .i64 p 32 = 0 <;> by_cases h2 : n ≥ b <;> by_cases h3 : n < t <;> simp [h1, h2, h3] <;> (try omega)
theorem seals_true {n : Int} {i : Bool} {b t p s : Int} (h : sealsM n i b t p s = true) : opM n i b t p s = true ∧ (1 ≤ n ∧ n ≤ 7) := by
  unfold sealsM at h
  simp only [Bool.and_eq_true, decide_eq_true_eq] at h
  exact ⟨h.1, h.2.2.2.2⟩

def sealM (n : Int) (i : Bool) (b t p s n' : Int) (i' : Bool) (b' t' p' s' : Int) : Int × Bool × Int × Int × Int × Int :=
  if (opM n i b t p s && sealsM n' i' b' t' p' s') = true then (n, i, b, t, p, n') else plainM n
theorem impl_SealBy_eq (k : Nat) (n : Int) (i : Bool) (b t p s n' : Int) (i' : Bool) (b' t' p' s' : Int) : impl_SealBy.f (k + 8) n i b t p s n' i' b' t' p' s' = some (sealM n i b t p s n' i' b' t' p' s') := by
  unfold impl_SealBy.f sealM
  simp only [impl_open_eq, impl_seals_eq, impl_Bare_eq, Option.bind_some]
  cases opM n i b t p s <;> cases sealsM n' i' b' t' p' s' <;> simp
theorem spec_SealBy_eq (k : Nat) (n : Int) (i : Bool) (b t p s n' : Int) (i' : Bool) (b' t' p' s' : Int) : spec_SealBy.f (k + 8) n i b t p s n' i' b' t' p' s' = some (sealM n i b t p s n' i' b' t' p' s') := by
  unfold spec_SealBy.f sealM
  simp only [spec_Open_eq, spec_seals_eq, spec_Bare_eq, Option.bind_some]
  cases opM n i b t p s <;> cases sealsM n' i' b' t' p' s' <;> simp

def openM (n : Int) (i : Bool) (b t p s n' : Int) (i' : Bool) (b' t' p' s' : Int) : Int × Bool × Int × Int × Int × Int :=
  if (wOk n i b t p s && (i && (sealsM n' i' b' t' p' s' && (s == n')))) = true then (n, i, b, t, p, 0) else plainM n
theorem impl_OpenBy_eq (k : Nat) (n : Int) (i : Bool) (b t p s n' : Int) (i' : Bool) (b' t' p' s' : Int) : impl_OpenBy.f (k + 8) n i b t p s n' i' b' t' p' s' = some (openM n i b t p s n' i' b' t' p' s') := by
  unfold impl_OpenBy.f openM
  simp only [impl_WordOk_eq, impl_seals_eq, impl_Bare_eq, Option.bind_some]
  cases wOk n i b t p s <;> cases i <;> cases sealsM n' i' b' t' p' s' <;> by_cases h : s = n' <;> simp [h]
theorem spec_OpenBy_eq (k : Nat) (n : Int) (i : Bool) (b t p s n' : Int) (i' : Bool) (b' t' p' s' : Int) : spec_OpenBy.f (k + 8) n i b t p s n' i' b' t' p' s' = some (openM n i b t p s n' i' b' t' p' s') := by
  unfold spec_OpenBy.f openM
  simp only [spec_WordOk_eq, spec_seals_eq, spec_Bare_eq, Option.bind_some]
  cases wOk n i b t p s <;> cases i <;> cases sealsM n' i' b' t' p' s' <;> by_cases h : s = n' <;> simp [h]

theorem sets_R (op r a b n : Int) : spec_Sets.f op r a b n = some (if hR op = true then r else -1) := by
  obtain ⟨t, e, h1, _⟩ := has_bits4 op
  unfold spec_Sets.f
  rw [e]; simp only [Option.bind_some]
  cases hh : hR op with
  | false => rw [hh] at h1; have h2 : Go.bits .and .i64 t 1 = 0 := by simpa using h1
             rw [if_pos h2]; rfl
  | true => rw [hh] at h1; have h2 : ¬ Go.bits .and .i64 t 1 = 0 := by simpa using h1
            rw [if_neg h2]; rfl
theorem made_both (k : Nat) (op r a b n n1 : Int) (i1 : Bool) (b1 t1 p1 s1 n2 : Int) (i2 : Bool) (b2 t2 p2 s2 n3 : Int) (i3 : Bool) (b3 t3 p3 s3 : Int) (h : hR op = true) (h12 : op ≠ 12) : ∃ v, impl_made.f (k + 10) op r a b n n1 i1 b1 t1 p1 s1 n2 i2 b2 t2 p2 s2 n3 i3 b3 t3 p3 s3 = some v ∧ spec_l9Value.f (k + 10) op r a b n n1 i1 b1 t1 p1 s1 n2 i2 b2 t2 p2 s2 n3 i3 b3 t3 p3 s3 = some v := by
  unfold impl_made.f spec_l9Value.f
  have hr : 1 ≤ op ∧ op ≤ 10 := by unfold hR at h; simp only [decide_eq_true_eq] at h; omega
  by_cases e1 : op = 1
  · rw [if_pos e1, if_pos e1, impl_Plain_eq, spec_Plain_eq]; exact ⟨_, rfl, rfl⟩
  rw [if_neg e1, if_neg e1]
  by_cases e2 : op = 2
  · rw [if_pos e2, if_pos e2, impl_Plain_eq, spec_Plain_eq]; exact ⟨_, rfl, rfl⟩
  rw [if_neg e2, if_neg e2]
  by_cases e : op = 3
  · rw [if_pos e, if_pos e]; exact ⟨_, rfl, rfl⟩
  rw [if_neg e, if_neg e]
  by_cases e4 : op = 4
  · rw [if_pos e4, if_pos e4, show k + 10 = k + 2 + 8 from rfl, impl_Weaken_eq, spec_Weaken_eq]; exact ⟨_, rfl, rfl⟩
  rw [if_neg e4, if_neg e4]
  by_cases e5 : op = 5
  · rw [if_pos e5, if_pos e5, show k + 10 = k + 1 + 9 from rfl, impl_Narrow_eq, spec_Narrow_eq]; exact ⟨_, rfl, rfl⟩
  rw [if_neg e5, if_neg e5]
  by_cases e6 : op = 6
  · rw [if_pos e6, if_pos e6, show k + 10 = k + 2 + 8 from rfl, impl_Point_eq, spec_Point_eq]; exact ⟨_, rfl, rfl⟩
  rw [if_neg e6, if_neg e6]
  by_cases e7 : op = 7
  · rw [if_pos e7, if_pos e7, show k + 10 = k + 2 + 8 from rfl, impl_SealBy_eq, spec_SealBy_eq]; exact ⟨_, rfl, rfl⟩
  rw [if_neg e7, if_neg e7]
  by_cases e8 : op = 8
  · rw [if_pos e8, if_pos e8, show k + 10 = k + 2 + 8 from rfl, impl_OpenBy_eq, spec_OpenBy_eq]; exact ⟨_, rfl, rfl⟩
  rw [if_neg e8, if_neg e8]
  by_cases e9 : op = 9
  · rw [if_pos e9, if_neg (show ¬ op = 10 by omega)]
    cases i1
    · rw [if_neg (by decide), if_neg (by decide), impl_Plain_eq, spec_Plain_eq]; exact ⟨_, rfl, rfl⟩
    · rw [if_pos rfl, if_pos rfl, impl_Plain_eq, spec_Plain_eq]; exact ⟨_, rfl, rfl⟩
  · rw [if_neg e9, if_pos (show op = 10 by omega)]; exact ⟨_, rfl, rfl⟩
theorem work_both (k : Nat) (op r a b n n0 : Int) (i0 : Bool) (b0 t0 p0 s0 n1 : Int) (i1 : Bool) (b1 t1 p1 s1 n2 : Int) (i2 : Bool) (b2 t2 p2 s2 n3 : Int) (i3 : Bool) (b3 t3 p3 s3 : Int) : ∃ v, impl_Work.f (k + 12) op r a b n n0 i0 b0 t0 p0 s0 n1 i1 b1 t1 p1 s1 n2 i2 b2 t2 p2 s2 n3 i3 b3 t3 p3 s3 = some v ∧ spec_Work.f (k + 12) op r a b n n0 i0 b0 t0 p0 s0 n1 i1 b1 t1 p1 s1 n2 i2 b2 t2 p2 s2 n3 i3 b3 t3 p3 s3 = some v := by
  unfold impl_Work.f spec_Work.f
  rw [show k + 12 = k + 4 + 8 from rfl, impl_Point_eq, spec_Point_eq, show k + 4 + 8 = k + 2 + 10 from rfl]; simp only [Option.bind_some]
  by_cases e : op = 11
  · rw [if_pos e, if_pos e]; exact ⟨_, rfl, rfl⟩
  rw [if_neg e, if_neg e]
  by_cases h12 : op = 12
  · rw [if_pos h12, if_pos h12, impl_Try_eq, spec_Try_eq _ _ _ _ _ _ _ _ _ (by omega) (by omega)]; simp only [Option.bind_some]
    by_cases h : tryM n1 i1 b1 t1 p1 s1 n1 4 = 0
    · rw [if_pos h, if_pos h, h]; exact ⟨_, rfl, rfl⟩
    · rw [if_neg h, if_neg h]; exact ⟨_, rfl, rfl⟩
  rw [if_neg h12, if_neg h12]
  by_cases e : op = 13
  · rw [if_pos e, if_pos e]
    by_cases h : n1 = 0
    · rw [if_pos h, if_pos h, show k + 2 + 10 = k + 4 + 8 from rfl, impl_Point_eq, spec_Point_eq]; exact ⟨_, rfl, rfl⟩
    · rw [if_neg h, if_neg h]; exact ⟨_, rfl, rfl⟩
  rw [if_neg e, if_neg e]
  by_cases e : op = 14
  · rw [if_pos e, if_pos e, impl_Try_eq, spec_Try_eq _ _ _ _ _ _ _ _ _ (by omega) (by omega)]; simp only [Option.bind_some]
    by_cases h : tryM n1 i1 b1 t1 p1 s1 n1 32 = 0
    · rw [if_pos h, if_pos h, h]; exact ⟨_, rfl, rfl⟩
    · rw [if_neg h, if_neg h]; exact ⟨_, rfl, rfl⟩
  rw [if_neg e, if_neg e]
  by_cases e : op = 15
  · rw [if_pos e, if_pos e]; exact ⟨_, rfl, rfl⟩
  rw [if_neg e, if_neg e, hasPart_R _ op r a b n (by omega), sets_R]; simp only [Option.bind_some]
  by_cases hh : hR op = true
  · rw [if_pos hh, if_pos hh]
    by_cases h : r ≥ 0
    · rw [if_pos h, if_pos h]
      obtain ⟨v, e1, e2⟩ := made_both (k + 2) op r a b n n1 i1 b1 t1 p1 s1 n2 i2 b2 t2 p2 s2 n3 i3 b3 t3 p3 s3 hh h12
      rw [e1, e2]; exact ⟨_, rfl, rfl⟩
    · rw [if_neg h, if_neg h]; exact ⟨_, rfl, rfl⟩
  · rw [if_neg hh, if_neg hh]; exact ⟨_, rfl, rfl⟩

def covM (b t p s b' t' p' s' : Int) : Bool := kOk b t p s && (kOk b' t' p' s' && (decide (b ≤ b') && (decide (t' ≤ t) && (bits .andNot .i64 p' p == 0))))
theorem cov_iff (b t p s b' t' p' s' : Int) : covM b t p s b' t' p' s' = true ↔ (kOk b t p s = true ∧ kOk b' t' p' s' = true ∧ b ≤ b' ∧ t' ≤ t ∧ bits .andNot .i64 p' p = 0) := by
  unfold covM; simp only [Bool.and_eq_true, decide_eq_true_eq, beq_iff_eq]


def dropU (l : List S29) : List S29 := l
theorem drop_rdU (l : List S29) (i : Int) (h0 : 0 ≤ i) (h : i < (l.length : Int)) : l.drop i.toNat = rd_T29 l i :: l.drop (i + 1).toNat := by
  rw [List.drop_eq_getElem_cons (by omega), show (i + 1).toNat = i.toNat + 1 by omega]
  congr 1
  unfold rd_T29
  rw [List.getD_eq_getElem?_getD, List.getElem?_eq_getElem (by omega)]; rfl
theorem drop_endU (l : List S29) (i : Int) (h : ¬ i < (l.length : Int)) : l.drop i.toNat = [] := List.drop_eq_nil_of_le (by omega)
def undT (b t p s : Int) (x : S29) : Bool := x.f1 && covM x.f2.f0 x.f2.f1 x.f2.f2 x.f2.f3 b t p s
def underM (i : Bool) (b t p s : Int) (l : List S29) : Bool := !i || l.any (undT b t p s)
def unitOk (u : Int) : Prop := u = 1 ∨ u = 2 ∨ u = 4 ∨ u = 8 ∨ u = 16 ∨ u = 32 ∨ u = 64
theorem fits_iff (b t u : Int) : fits b t u = true ↔ (b / u ≤ 63 ∧ (t - b / u * u + u - 1) / u ≤ 63) := by unfold fits; simp
theorem mn4_eq (x : Int) : (x < 4096 ∧ mn4 x = x) ∨ (4096 ≤ x ∧ mn4 x = 4096) := by unfold mn4; split <;> omega
theorem wd_facts {b t u : Int} (hu : unitOk u) (h : 0 ≤ b ∧ b ≤ t ∧ t ≤ 4096) (f : fits b t u = true) :
    0 ≤ (wdOf b t u).1 ∧ (wdOf b t u).1 ≤ b ∧ t ≤ (wdOf b t u).2 ∧ (wdOf b t u).2 ≤ 4096 ∧ (wdOf b t u).1 % u = 0 ∧ (wdOf b t u).2 % u = 0 ∧
      (wdOf b t u).2 - (wdOf b t u).1 ≤ t - b + 126 ∧ fits (wdOf b t u).1 (wdOf b t u).2 u = true := by
  have F := (fits_iff b t u).1 f
  unfold wdOf
  simp only [fits_iff]
  have M := mn4_eq ((b / u + (t - b / u * u + u - 1) / u) * u)
  generalize hm : mn4 ((b / u + (t - b / u * u + u - 1) / u) * u) = m at *
  rcases hu with rfl | rfl | rfl | rfl | rfl | rfl | rfl <;> (refine ⟨by omega, by omega, by omega, by omega, by omega, by omega, by omega, by omega, by omega⟩)
theorem wd_same {lo hi u : Int} (hu : unitOk u) (h : 0 ≤ lo ∧ lo ≤ hi ∧ hi ≤ 4096) (h1 : lo % u = 0) (h2 : hi % u = 0) : wdOf lo hi u = (lo, hi) := by
  unfold wdOf
  have M := mn4_eq ((lo / u + (hi - lo / u * u + u - 1) / u) * u)
  generalize hm : mn4 ((lo / u + (hi - lo / u * u + u - 1) / u) * u) = m at *
  rw [Prod.mk.injEq]
  rcases hu with rfl | rfl | rfl | rfl | rfl | rfl | rfl <;> (refine ⟨by omega, by omega⟩)
theorem wide_same {lo hi u : Int} (hu : unitOk u) (h : 0 ≤ lo ∧ lo ≤ hi ∧ hi ≤ 4096) (h1 : lo % u = 0) (h2 : hi % u = 0) (f : fits lo hi u = true) : wideM lo hi = (lo, hi) := by
  unfold wideM
  rw [if_pos ((bOk_iff lo hi).2 h)]
  by_cases f1 : fits lo hi 1 = true
  · rw [if_pos f1]; exact wd_same (by unfold unitOk; omega) h (by omega) (by omega)
  rw [if_neg f1]
  by_cases f2 : fits lo hi 2 = true
  · rw [if_pos f2]; rcases hu with rfl | rfl | rfl | rfl | rfl | rfl | rfl <;> first | exact absurd f ‹_› | exact wd_same (by unfold unitOk; omega) h (by omega) (by omega)
  rw [if_neg f2]
  by_cases f3 : fits lo hi 4 = true
  · rw [if_pos f3]; rcases hu with rfl | rfl | rfl | rfl | rfl | rfl | rfl <;> first | exact absurd f ‹_› | exact wd_same (by unfold unitOk; omega) h (by omega) (by omega)
  rw [if_neg f3]
  by_cases f4 : fits lo hi 8 = true
  · rw [if_pos f4]; rcases hu with rfl | rfl | rfl | rfl | rfl | rfl | rfl <;> first | exact absurd f ‹_› | exact wd_same (by unfold unitOk; omega) h (by omega) (by omega)
  rw [if_neg f4]
  by_cases f5 : fits lo hi 16 = true
  · rw [if_pos f5]; rcases hu with rfl | rfl | rfl | rfl | rfl | rfl | rfl <;> first | exact absurd f ‹_› | exact wd_same (by unfold unitOk; omega) h (by omega) (by omega)
  rw [if_neg f5]
  by_cases f6 : fits lo hi 32 = true
  · rw [if_pos f6]; rcases hu with rfl | rfl | rfl | rfl | rfl | rfl | rfl <;> first | exact absurd f ‹_› | exact wd_same (by unfold unitOk; omega) h (by omega) (by omega)
  rw [if_neg f6]
  by_cases f7 : fits lo hi 64 = true
  · rw [if_pos f7]; rcases hu with rfl | rfl | rfl | rfl | rfl | rfl | rfl <;> first | exact absurd f ‹_› | exact wd_same (by unfold unitOk; omega) h (by omega) (by omega)
  rcases hu with rfl | rfl | rfl | rfl | rfl | rfl | rfl <;> exact absurd f ‹_›
theorem wide_cases (b t : Int) (h : bOk b t = true) : (∃ u, unitOk u ∧ fits b t u = true ∧ wideM b t = wdOf b t u) ∨ wideM b t = (0, 4096) := by
  unfold wideM
  rw [if_pos h]
  by_cases f1 : fits b t 1 = true
  · rw [if_pos f1]; exact .inl ⟨1, by unfold unitOk; omega, f1, rfl⟩
  rw [if_neg f1]
  by_cases f2 : fits b t 2 = true
  · rw [if_pos f2]; exact .inl ⟨2, by unfold unitOk; omega, f2, rfl⟩
  rw [if_neg f2]
  by_cases f3 : fits b t 4 = true
  · rw [if_pos f3]; exact .inl ⟨4, by unfold unitOk; omega, f3, rfl⟩
  rw [if_neg f3]
  by_cases f4 : fits b t 8 = true
  · rw [if_pos f4]; exact .inl ⟨8, by unfold unitOk; omega, f4, rfl⟩
  rw [if_neg f4]
  by_cases f5 : fits b t 16 = true
  · rw [if_pos f5]; exact .inl ⟨16, by unfold unitOk; omega, f5, rfl⟩
  rw [if_neg f5]
  by_cases f6 : fits b t 32 = true
  · rw [if_pos f6]; exact .inl ⟨32, by unfold unitOk; omega, f6, rfl⟩
  rw [if_neg f6]
  by_cases f7 : fits b t 64 = true
  · rw [if_pos f7]; exact .inl ⟨64, by unfold unitOk; omega, f7, rfl⟩
  rw [if_neg f7]; exact .inr rfl
theorem wide_all : wideM 0 4096 = (0, 4096) := by decide
theorem wide_facts (b t : Int) (h : bOk b t = true) :
    0 ≤ (wideM b t).1 ∧ (wideM b t).1 ≤ b ∧ t ≤ (wideM b t).2 ∧ (wideM b t).2 ≤ 4096 ∧ exactM (wideM b t).1 (wideM b t).2 = true ∧
      ((wideM b t).2 - (wideM b t).1 ≤ t - b + 126 ∨ (wideM b t).2 - (wideM b t).1 = 4096) := by
  have H := (bOk_iff b t).1 h
  rcases wide_cases b t h with ⟨u, hu, f, e⟩ | e
  · have W := wd_facts hu H f
    rw [e]
    generalize wdOf b t u = p at *
    obtain ⟨lo, hi⟩ := p
    simp only at W ⊢
    have S := wide_same hu (lo := lo) (hi := hi) ⟨by omega, by omega, by omega⟩ W.2.2.2.2.1 W.2.2.2.2.2.1 W.2.2.2.2.2.2.2
    refine ⟨W.1, W.2.1, W.2.2.1, W.2.2.2.1, ?_, .inl W.2.2.2.2.2.2.1⟩
    unfold exactM
    rw [S]
    simp only [decide_true, Bool.and_true]
    exact (bOk_iff lo hi).2 ⟨by omega, by omega, by omega⟩
  · rw [e]
    refine ⟨by decide, by simp only; omega, by simp only; omega, by decide, ?_, .inr rfl⟩
    unfold exactM
    rw [wide_all]
    decide
theorem exact_iff (b t : Int) : exactM b t = true ↔ ((0 ≤ b ∧ b ≤ t ∧ t ≤ 4096) ∧ wideM b t = (b, t)) := by
  unfold exactM
  simp only [Bool.and_eq_true, decide_eq_true_eq, bOk_iff]
  constructor
  · rintro ⟨⟨h, h1⟩, h2⟩; exact ⟨h, Prod.ext h1 h2⟩
  · rintro ⟨h, h1⟩; rw [h1]; exact ⟨⟨h, rfl⟩, rfl⟩
theorem unp_bOk {e b l : Int} (h : (unpM e b l).2.2 = true) : bOk (unpM e b l).1 (unpM e b l).2.1 = true := by
  unfold unpM at *
  by_cases g : 0 ≤ e ∧ e ≤ 6 ∧ 0 ≤ b ∧ b ≤ 63 ∧ 0 ≤ l ∧ l ≤ 63
  · rw [if_pos g]
    rw [bOk_iff]
    simp only
    have M := mn4_eq ((b + l) * 2 ^ e.toNat)
    obtain ⟨h0, h6, hr⟩ := g
    have h' : e = 0 ∨ e = 1 ∨ e = 2 ∨ e = 3 ∨ e = 4 ∨ e = 5 ∨ e = 6 := by omega
    rcases h' with rfl | rfl | rfl | rfl | rfl | rfl | rfl <;> simp at M ⊢ <;> omega
  · rw [if_neg g] at h; exact absurd h (by decide)

theorem kOk_bounds {b t p s : Int} (h : kOk b t p s = true) : (0 ≤ b ∧ b ≤ t ∧ t ≤ 4096) ∧ (0 ≤ p ∧ p ≤ 63) := by
  have H := (kOk_iff b t p s).1 h
  exact ⟨((exact_iff b t).1 H.1).1, H.2.1⟩
theorem cov_trans {b t p s b' t' p' s' b'' t'' p'' s'' : Int} (h : covM b t p s b' t' p' s' = true) (k : covM b' t' p' s' b'' t'' p'' s'' = true) : covM b t p s b'' t'' p'' s'' = true := by
  rw [cov_iff] at *
  exact ⟨h.1, k.2.1, by omega, by omega, sub_trans h.2.2.2.2 k.2.2.2.2⟩
theorem cov_self {b t p s : Int} (h : kOk b t p s = true) : covM b t p s b t p s = true := by
  rw [cov_iff]; exact ⟨h, h, by omega, by omega, sub_refl p⟩
theorem root_ok : kOk 0 4096 63 0 = true := by decide
theorem cov_root {b t p s : Int} (h : kOk b t p s = true) : covM 0 4096 63 0 b t p s = true := by
  have := kOk_bounds h
  rw [cov_iff]; exact ⟨root_ok, h, by omega, by omega, sub63 this.2⟩


theorem under_bare (n : Int) (b t p s : Int) (l : List S29) : underM false b t p s l = true := rfl
theorem wOk_plain (n : Int) : wOk (n % 65536) false 0 0 0 0 = true := by
  unfold wOk; simp; omega
theorem wOk_keyWord (b t p s n : Int) : wOk (keyWordM b t p s n).1 (keyWordM b t p s n).2.1 (keyWordM b t p s n).2.2.1 (keyWordM b t p s n).2.2.2.1 (keyWordM b t p s n).2.2.2.2.1 (keyWordM b t p s n).2.2.2.2.2 = true := by
  unfold keyWordM
  by_cases h : kOk b t p s = true
  · rw [if_pos h]; unfold wOk; simp [h]; omega
  · rw [if_neg h]; exact wOk_plain n
theorem under_self {n : Int} {i : Bool} {b t p s : Int} (h : wOk n i b t p s = true) : underM i b t p s [⟨n, i, ⟨b, t, p, s⟩⟩] = true := by
  unfold underM
  cases i with
  | false => rfl
  | true =>
    have hk := (wOk_key h).2
    simp only [List.any_cons, List.any_nil, undT, cov_self hk]; rfl

def goodW (i : Bool) (b t p s : Int) (x : Int × Bool × Int × Int × Int × Int) (n : Int) : Prop :=
  wOk x.1 x.2.1 x.2.2.1 x.2.2.2.1 x.2.2.2.2.1 x.2.2.2.2.2 = true ∧ underM x.2.1 x.2.2.1 x.2.2.2.1 x.2.2.2.2.1 x.2.2.2.2.2 [⟨n, i, ⟨b, t, p, s⟩⟩] = true
theorem good_plain (i : Bool) (b t p s n m : Int) : goodW i b t p s (plainM m) n := ⟨wOk_plain m, rfl⟩
theorem good_key {b t p s n m b' t' p' s' : Int} (hm : 0 ≤ m ∧ m ≤ 65535) (hc : covM b t p s b' t' p' s' = true) : goodW true b t p s (m, true, b', t', p', s') n := by
  have h := (cov_iff b t p s b' t' p' s').1 hc
  refine ⟨?_, ?_⟩
  · unfold wOk; simp [hm.1, hm.2, h.2.1]
  · unfold underM; simp only [List.any_cons, List.any_nil, undT, hc]; rfl
theorem kOk_seal {b t p s s' : Int} (h : kOk b t p s = true) (hs : 0 ≤ s' ∧ s' ≤ 7) : kOk b t p s' = true := by
  rw [kOk_iff] at *; exact ⟨h.1, h.2.1, hs⟩
theorem cov_seal {b t p s s' : Int} (h : kOk b t p s = true) (hs : 0 ≤ s' ∧ s' ≤ 7) : covM b t p s b t p s' = true := by
  rw [cov_iff]; exact ⟨h, kOk_seal h hs, by omega, by omega, sub_refl p⟩
theorem good_weak (n : Int) (i : Bool) (b t p s m : Int) : goodW i b t p s (weakM n i b t p s m) n := by
  unfold weakM
  by_cases h : opM n i b t p s = true
  · rw [if_pos h]
    obtain ⟨rfl, rfl, hn, hk⟩ := op_true h
    have hp := (kOk_bounds hk).2
    refine good_key hn ?_
    rw [cov_iff]
    refine ⟨hk, ?_, by omega, by omega, and_sub _ _⟩
    rw [kOk_iff] at *; exact ⟨hk.1, and_le63 _ hp, hk.2.2⟩
  · rw [if_neg h]; exact good_plain _ _ _ _ _ _ _
theorem good_narrow (n : Int) (i : Bool) (b t p s m : Int) : goodW i b t p s (narrowM n i b t p s m) n := by
  unfold narrowM
  by_cases h : (opM n i b t p s && (decide (0 ≤ m ∧ m ≤ 4096) && (bOk n (wrap64 (n + m)) && (decide (b ≤ (wideM n (wrap64 (n + m))).1) && decide ((wideM n (wrap64 (n + m))).2 ≤ t))))) = true
  · rw [if_pos h]
    simp only [Bool.and_eq_true, decide_eq_true_eq] at h
    obtain ⟨rfl, rfl, hn, hk⟩ := op_true h.1
    have W := wide_facts n (wrap64 (n + m)) h.2.2.1
    refine good_key hn ?_
    rw [cov_iff]
    refine ⟨hk, ?_, h.2.2.2.1, h.2.2.2.2, sub_refl p⟩
    rw [kOk_iff] at *; exact ⟨W.2.2.2.2.1, hk.2.1, hk.2.2⟩
  · rw [if_neg h]; exact good_plain _ _ _ _ _ _ _
theorem good_point (n : Int) (i : Bool) (b t p s m : Int) : goodW i b t p s (pointM n i b t p s m) n := by
  unfold pointM
  by_cases h : opM n i b t p s = true
  · rw [if_pos h]
    obtain ⟨rfl, rfl, hn, hk⟩ := op_true h
    exact good_key (by omega) (cov_self hk)
  · rw [if_neg h]; exact good_plain _ _ _ _ _ _ _
theorem good_seal (n : Int) (i : Bool) (b t p s n' : Int) (i' : Bool) (b' t' p' s' : Int) : goodW i b t p s (sealM n i b t p s n' i' b' t' p' s') n := by
  unfold sealM
  by_cases h : (opM n i b t p s && sealsM n' i' b' t' p' s') = true
  · rw [if_pos h]
    simp only [Bool.and_eq_true] at h
    obtain ⟨rfl, rfl, hn, hk⟩ := op_true h.1
    have hs := (seals_true h.2).2
    exact good_key hn (cov_seal hk (by omega))
  · rw [if_neg h]; exact good_plain _ _ _ _ _ _ _
theorem good_open (n : Int) (i : Bool) (b t p s n' : Int) (i' : Bool) (b' t' p' s' : Int) : goodW i b t p s (openM n i b t p s n' i' b' t' p' s') n := by
  unfold openM
  by_cases h : (wOk n i b t p s && (i && (sealsM n' i' b' t' p' s' && (s == n')))) = true
  · rw [if_pos h]
    simp only [Bool.and_eq_true] at h
    obtain ⟨hw, rfl, _⟩ := h
    have hk := wOk_key hw
    exact good_key hk.1 (cov_seal hk.2 (by omega))
  · rw [if_neg h]; exact good_plain _ _ _ _ _ _ _

def gL (ws : List S29) (n : Int) (i : Bool) (b t p s : Int) : Prop := wOk n i b t p s = true ∧ underM i b t p s ws = true
theorem gL_of {ws : List S29} {i : Bool} {b t p s n : Int} {x : Int × Bool × Int × Int × Int × Int} (h : goodW i b t p s x n) (hm : (⟨n, i, ⟨b, t, p, s⟩⟩ : S29) ∈ ws) : gL ws x.1 x.2.1 x.2.2.1 x.2.2.2.1 x.2.2.2.2.1 x.2.2.2.2.2 := by
  refine ⟨h.1, ?_⟩
  have h2 := h.2
  unfold underM at h2 ⊢
  cases hx : x.2.1 with
  | false => simp
  | true =>
    rw [hx] at h2
    simp only [Bool.not_true, Bool.false_or, List.any_cons, List.any_nil, Bool.or_false] at h2 ⊢
    exact List.any_eq_true.mpr ⟨_, hm, h2⟩
theorem gL_self {ws : List S29} {n : Int} {i : Bool} {b t p s : Int} (h : wOk n i b t p s = true) (hm : (⟨n, i, ⟨b, t, p, s⟩⟩ : S29) ∈ ws) : gL ws n i b t p s :=
  gL_of (x := (n, i, b, t, p, s)) ⟨h, under_self h⟩ hm
theorem gL_zero (ws : List S29) : gL ws 0 false 0 0 0 0 := ⟨by decide, rfl⟩
theorem gL_plain (ws : List S29) (m : Int) : gL ws (plainM m).1 (plainM m).2.1 (plainM m).2.2.1 (plainM m).2.2.2.1 (plainM m).2.2.2.2.1 (plainM m).2.2.2.2.2 := ⟨wOk_plain m, rfl⟩
theorem made_good (k : Nat) (ws : List S29) (op r a b n n1 : Int) (i1 : Bool) (b1 t1 p1 s1 n2 : Int) (i2 : Bool) (b2 t2 p2 s2 n3 : Int) (i3 : Bool) (b3 t3 p3 s3 : Int) (h : hR op = true) (h12 : op ≠ 12)
    (o1 : wOk n1 i1 b1 t1 p1 s1 = true) (m1 : (⟨n1, i1, ⟨b1, t1, p1, s1⟩⟩ : S29) ∈ ws) (o3 : wOk n3 i3 b3 t3 p3 s3 = true) (m3 : (⟨n3, i3, ⟨b3, t3, p3, s3⟩⟩ : S29) ∈ ws) :
    ∃ v, impl_made.f (k + 10) op r a b n n1 i1 b1 t1 p1 s1 n2 i2 b2 t2 p2 s2 n3 i3 b3 t3 p3 s3 = some v ∧ spec_l9Value.f (k + 10) op r a b n n1 i1 b1 t1 p1 s1 n2 i2 b2 t2 p2 s2 n3 i3 b3 t3 p3 s3 = some v ∧ gL ws v.1 v.2.1 v.2.2.1 v.2.2.2.1 v.2.2.2.2.1 v.2.2.2.2.2 := by
  unfold impl_made.f spec_l9Value.f
  have hr : 1 ≤ op ∧ op ≤ 10 := by unfold hR at h; simp only [decide_eq_true_eq] at h; omega
  by_cases e1 : op = 1
  · rw [if_pos e1, if_pos e1, impl_Plain_eq, spec_Plain_eq]; exact ⟨_, rfl, rfl, gL_plain _ _⟩
  rw [if_neg e1, if_neg e1]
  by_cases e2 : op = 2
  · rw [if_pos e2, if_pos e2, impl_Plain_eq, spec_Plain_eq]; exact ⟨_, rfl, rfl, gL_plain _ _⟩
  rw [if_neg e2, if_neg e2]
  by_cases e : op = 3
  · rw [if_pos e, if_pos e]; exact ⟨_, rfl, rfl, gL_self o1 m1⟩
  rw [if_neg e, if_neg e]
  by_cases e4 : op = 4
  · rw [if_pos e4, if_pos e4, show k + 10 = k + 2 + 8 from rfl, impl_Weaken_eq, spec_Weaken_eq]; exact ⟨_, rfl, rfl, gL_of (good_weak _ _ _ _ _ _ _) m1⟩
  rw [if_neg e4, if_neg e4]
  by_cases e5 : op = 5
  · rw [if_pos e5, if_pos e5, show k + 10 = k + 1 + 9 from rfl, impl_Narrow_eq, spec_Narrow_eq]; exact ⟨_, rfl, rfl, gL_of (good_narrow _ _ _ _ _ _ _) m1⟩
  rw [if_neg e5, if_neg e5]
  by_cases e6 : op = 6
  · rw [if_pos e6, if_pos e6, show k + 10 = k + 2 + 8 from rfl, impl_Point_eq, spec_Point_eq]; exact ⟨_, rfl, rfl, gL_of (good_point _ _ _ _ _ _ _) m1⟩
  rw [if_neg e6, if_neg e6]
  by_cases e7 : op = 7
  · rw [if_pos e7, if_pos e7, show k + 10 = k + 2 + 8 from rfl, impl_SealBy_eq, spec_SealBy_eq]; exact ⟨_, rfl, rfl, gL_of (good_seal _ _ _ _ _ _ _ _ _ _ _ _) m1⟩
  rw [if_neg e7, if_neg e7]
  by_cases e8 : op = 8
  · rw [if_pos e8, if_pos e8, show k + 10 = k + 2 + 8 from rfl, impl_OpenBy_eq, spec_OpenBy_eq]; exact ⟨_, rfl, rfl, gL_of (good_open _ _ _ _ _ _ _ _ _ _ _ _) m1⟩
  rw [if_neg e8, if_neg e8]
  by_cases e9 : op = 9
  · rw [if_pos e9, if_neg (show ¬ op = 10 by omega)]
    cases i1
    · rw [if_neg (by decide), if_neg (by decide), impl_Plain_eq, spec_Plain_eq]; exact ⟨_, rfl, rfl, gL_plain _ _⟩
    · rw [if_pos rfl, if_pos rfl, impl_Plain_eq, spec_Plain_eq]; exact ⟨_, rfl, rfl, gL_plain _ _⟩
  · rw [if_neg e9, if_pos (show op = 10 by omega)]; exact ⟨_, rfl, rfl, gL_self o3 m3⟩
def goodE (ws : List S29) : Int × Int × Int × Bool × Int × Int × Int × Int × Int × Bool × Int × Int × Int × Int × Int × Int × Bool × Int × Int × Int × Int × Int → Prop
  | (tr, r, n1, i1, b1, t1, p1, s1, n2, i2, b2, t2, p2, s2, at_, n3, i3, b3, t3, p3, s3, dr) => gL ws n1 i1 b1 t1 p1 s1 ∧ gL ws n2 i2 b2 t2 p2 s2 ∧ gL ws n3 i3 b3 t3 p3 s3 ∧ (tr = 0 ∨ (r = -1 ∧ at_ = -1 ∧ dr = -1))
theorem work_good (k : Nat) (op r a b n n0 : Int) (i0 : Bool) (b0 t0 p0 s0 n1 : Int) (i1 : Bool) (b1 t1 p1 s1 n2 : Int) (i2 : Bool) (b2 t2 p2 s2 n3 : Int) (i3 : Bool) (b3 t3 p3 s3 : Int) (ws : List S29)
    (o0 : wOk n0 i0 b0 t0 p0 s0 = true) (m0 : (⟨n0, i0, ⟨b0, t0, p0, s0⟩⟩ : S29) ∈ ws) (o1 : wOk n1 i1 b1 t1 p1 s1 = true) (m1 : (⟨n1, i1, ⟨b1, t1, p1, s1⟩⟩ : S29) ∈ ws) (o2 : wOk n2 i2 b2 t2 p2 s2 = true) (m2 : (⟨n2, i2, ⟨b2, t2, p2, s2⟩⟩ : S29) ∈ ws) (o3 : wOk n3 i3 b3 t3 p3 s3 = true) (m3 : (⟨n3, i3, ⟨b3, t3, p3, s3⟩⟩ : S29) ∈ ws) :
    ∃ v, impl_Work.f (k + 12) op r a b n n0 i0 b0 t0 p0 s0 n1 i1 b1 t1 p1 s1 n2 i2 b2 t2 p2 s2 n3 i3 b3 t3 p3 s3 = some v ∧ spec_Work.f (k + 12) op r a b n n0 i0 b0 t0 p0 s0 n1 i1 b1 t1 p1 s1 n2 i2 b2 t2 p2 s2 n3 i3 b3 t3 p3 s3 = some v ∧ goodE ws v := by
  have P0 := fun m => gL_of (good_point n0 i0 b0 t0 p0 s0 m) m0
  have Z := gL_zero ws
  have T0 := gL_self o0 m0
  unfold impl_Work.f spec_Work.f
  rw [show k + 12 = k + 4 + 8 from rfl, impl_Point_eq, spec_Point_eq, show k + 4 + 8 = k + 2 + 10 from rfl]; simp only [Option.bind_some]
  by_cases e : op = 11
  · rw [if_pos e, if_pos e]; exact ⟨_, rfl, rfl, Z, P0 _, gL_self o2 m2, Or.inl rfl⟩
  rw [if_neg e, if_neg e]
  by_cases h12 : op = 12
  · rw [if_pos h12, if_pos h12, impl_Try_eq, spec_Try_eq _ _ _ _ _ _ _ _ _ (by omega) (by omega)]; simp only [Option.bind_some]
    by_cases h : tryM n1 i1 b1 t1 p1 s1 n1 4 = 0
    · rw [if_pos h, if_pos h, h]; exact ⟨_, rfl, rfl, P0 _, gL_self o1 m1, Z, Or.inl rfl⟩
    · rw [if_neg h, if_neg h]; exact ⟨_, rfl, rfl, Z, T0, Z, Or.inr ⟨rfl, rfl, rfl⟩⟩
  rw [if_neg h12, if_neg h12]
  by_cases e : op = 13
  · rw [if_pos e, if_pos e]
    by_cases h : n1 = 0
    · rw [if_pos h, if_pos h, show k + 2 + 10 = k + 4 + 8 from rfl, impl_Point_eq, spec_Point_eq]; exact ⟨_, rfl, rfl, Z, P0 _, Z, Or.inl rfl⟩
    · rw [if_neg h, if_neg h]; exact ⟨_, rfl, rfl, Z, P0 _, Z, Or.inl rfl⟩
  rw [if_neg e, if_neg e]
  by_cases e : op = 14
  · rw [if_pos e, if_pos e, impl_Try_eq, spec_Try_eq _ _ _ _ _ _ _ _ _ (by omega) (by omega)]; simp only [Option.bind_some]
    by_cases h : tryM n1 i1 b1 t1 p1 s1 n1 32 = 0
    · rw [if_pos h, if_pos h, h]; exact ⟨_, rfl, rfl, Z, P0 _, Z, Or.inl rfl⟩
    · rw [if_neg h, if_neg h]; exact ⟨_, rfl, rfl, Z, T0, Z, Or.inr ⟨rfl, rfl, rfl⟩⟩
  rw [if_neg e, if_neg e]
  by_cases e : op = 15
  · rw [if_pos e, if_pos e]; exact ⟨_, rfl, rfl, Z, T0, Z, Or.inr ⟨rfl, rfl, rfl⟩⟩
  rw [if_neg e, if_neg e, hasPart_R _ op r a b n (by omega), sets_R]; simp only [Option.bind_some]
  by_cases hh : hR op = true
  · rw [if_pos hh, if_pos hh]
    by_cases h : r ≥ 0
    · rw [if_pos h, if_pos h]
      obtain ⟨v, e1, e2, hv⟩ := made_good (k + 2) ws op r a b n n1 i1 b1 t1 p1 s1 n2 i2 b2 t2 p2 s2 n3 i3 b3 t3 p3 s3 hh h12 o1 m1 o3 m3
      rw [e1, e2]; exact ⟨_, rfl, rfl, hv, P0 _, Z, Or.inl rfl⟩
    · rw [if_neg h, if_neg h]; exact ⟨_, rfl, rfl, Z, P0 _, Z, Or.inl rfl⟩
  · rw [if_neg hh, if_neg hh]; exact ⟨_, rfl, rfl, Z, P0 _, Z, Or.inl rfl⟩










def wOkT (x : S29) : Bool := wOk x.f0 x.f1 x.f2.f0 x.f2.f1 x.f2.f2 x.f2.f3
theorem drop_rdW (l : List S29) (i : Int) (h0 : 0 ≤ i) (h : i < (l.length : Int)) : l.drop i.toNat = rd_T29 l i :: l.drop (i + 1).toNat := by
  rw [List.drop_eq_getElem_cons (by omega), show (i + 1).toNat = i.toNat + 1 by omega]
  congr 1
  unfold rd_T29
  rw [List.getD_eq_getElem?_getD, List.getElem?_eq_getElem (by omega)]; rfl
theorem drop_endW (l : List S29) (i : Int) (h : ¬ i < (l.length : Int)) : l.drop i.toNat = [] := List.drop_eq_nil_of_le (by omega)

theorem spM_rounds (l : List S29) (g : List Bool) (hl : l.length = 24) (d : Nat) : ∀ (k : Nat) (i : Int), 0 ≤ i → (l.length : Int) - i = d → d + 9 < k → spec_MemoryOk.l0 k i l g = some ((l.drop i.toNat).all wOkT) := by
  induction d with
  | zero =>
    intro k i h0 hd hk
    obtain ⟨k, rfl⟩ : ∃ m, k = m + 1 := ⟨k - 1, by omega⟩
    simp only [spec_MemoryOk.l0]; rw [if_neg (by omega), drop_endW l i (by omega)]; rfl
  | succ d ih =>
    intro k i h0 hd hk
    obtain ⟨k, rfl⟩ : ∃ m, k = m + 9 := ⟨k - 9, by omega⟩
    simp only [spec_MemoryOk.l0]; rw [if_pos (by omega), if_pos h0, if_pos (by omega)]
    rw [spec_WordOk_eq, drop_rdW l i h0 (by omega)]; simp only [Option.bind_some, List.all_cons]
    rw [show wOk (rd_T29 l i).f0 (rd_T29 l i).f1 (rd_T29 l i).f2.f0 (rd_T29 l i).f2.f1 (rd_T29 l i).f2.f2 (rd_T29 l i).f2.f3 = wOkT (rd_T29 l i) from rfl]
    cases wOkT (rd_T29 l i) with
    | false => simp
    | true =>
      simp only [if_true, Bool.true_and]
      rw [show wrap64 (i + 1) = i + 1 from wrap_in (by omega) (by omega)]; exact ih (k + 8) (i + 1) (by omega) (by omega) (by omega)
def memM (l : List S29) (g : List Bool) : Bool := decide (l.length = 24 ∧ g.length = 24) && l.all wOkT
theorem spec_MemoryOk_eq (k : Nat) (l : List S29) (g : List Bool) (hk : 40 ≤ k) : spec_MemoryOk.f k l g = some (memM l g) := by
  obtain ⟨k, rfl⟩ : ∃ m, k = m + 1 := ⟨k - 1, by omega⟩
  unfold spec_MemoryOk.f memM
  by_cases h : l.length = 24
  · rw [if_pos (by omega)]; simp only [spec_MemoryOk.j0]
    by_cases h2 : g.length = 24
    · rw [if_neg (by simp; omega), spM_rounds l g h 24 k 0 (by omega) (by omega) (by omega)]; simp [h, h2]
    · rw [if_pos (by simp; omega)]; simp [h2]
  · rw [if_neg (by omega)]; simp only [spec_MemoryOk.j0]; simp [h]

theorem mem_l1 (d : Nat) : ∀ (k : Nat) (x : Int) (s : List Int) (i h : Int) (m : List S29) (g : List Bool), (4 : Int) - x ≤ d → 0 ≤ x → d < k → s.length ≤ maxLen → 0 ≤ i → m.length = 24 → g.length = 24 → Tells (spec_l8DrawRight.l1 k x s i h m g) (fun r => r.1.length = 24 ∧ r.2.1.length = 24 ∧ 0 ≤ r.2.2.1) := by
  induction d with
  | zero =>
    intro k x s i h m g hx hx0 hk hs h0 hm hg
    obtain ⟨k, rfl⟩ : ∃ q, k = q + 1 := ⟨k - 1, by omega⟩
    rw [spec_l8DrawRight.l1]
    refine Tells.bind (below_T _ _ _ _ hs h0 (by omega)) (fun r p => ?_)
    rw [if_neg (by omega)]
    exact Tells.some ⟨hm, hg, p.1⟩
  | succ d ih =>
    intro k x s i h m g hx hx0 hk hs h0 hm hg
    obtain ⟨k, rfl⟩ : ∃ q, k = q + 1 := ⟨k - 1, by omega⟩
    rw [spec_l8DrawRight.l1]
    refine Tells.bind (below_T _ _ _ _ hs h0 (by omega)) (fun r p => ?_)
    refine Tells.ite (fun hxr => ?_) (fun _ => Tells.some ⟨hm, hg, p.1⟩)
    refine Tells.bind (below_T _ _ _ _ hs p.1 (by omega)) (fun q pq => ?_)
    rw [if_pos pq.2.1, if_pos (by omega), show wrap64 (x + 1) = x + 1 from wrap_in (by omega) (by omega)]
    exact ih k (x + 1) s _ _ _ _ (by omega) (by omega) (by omega) hs pq.1 hm (by rw [List.length_set]; exact hg)
theorem mem_l0 (d : Nat) : ∀ (k : Nat) (x : Int) (s : List Int) (i h : Int) (m : List S29) (g : List Bool), (12 : Int) - x ≤ d → 0 ≤ x → d + 20 < k → s.length ≤ maxLen → 0 ≤ i → m.length = 24 → g.length = 24 → Tells (spec_l8DrawRight.l0 k x s i h m g) (fun r => r.1.length = 24 ∧ r.2.1.length = 24 ∧ 0 ≤ r.2.2.1) := by
  induction d with
  | zero =>
    intro k x s i h m g hx hx0 hk hs h0 hm hg
    obtain ⟨k, rfl⟩ : ∃ q, k = q + 1 := ⟨k - 1, by omega⟩
    rw [spec_l8DrawRight.l0]
    refine Tells.bind (below_T _ _ _ _ hs h0 (by omega)) (fun r p => ?_)
    rw [if_neg (by omega)]
    exact mem_l1 4 k 0 s _ _ _ _ (by omega) (by omega) (by omega) hs p.1 hm hg
  | succ d ih =>
    intro k x s i h m g hx hx0 hk hs h0 hm hg
    obtain ⟨k, rfl⟩ : ∃ q, k = q + 8 + 1 := ⟨k - 9, by omega⟩
    rw [spec_l8DrawRight.l0]
    refine Tells.bind (below_T _ _ _ _ hs h0 (by omega)) (fun r p => ?_)
    refine Tells.ite (fun hxr => ?_) (fun _ => mem_l1 4 _ 0 s _ _ _ _ (by omega) (by omega) (by omega) hs p.1 hm hg)
    refine Tells.bind (below_T _ _ _ _ hs p.1 (by omega)) (fun q pq => ?_)
    refine Tells.bind (wright_T k s _ _ hs pq.1) (fun w pw => ?_)
    rw [if_pos pq.2.1, if_pos (by omega), show wrap64 (x + 1) = x + 1 from wrap_in (by omega) (by omega)]
    exact ih (k + 8) (x + 1) s _ _ _ _ (by omega) (by omega) (by omega) hs pw (by rw [List.length_set]; exact hm) hg
theorem mright_T (k : Nat) (s : List Int) (i h : Int) (hk : 40 ≤ k) (hs : s.length ≤ maxLen) (h0 : 0 ≤ i) : Tells (spec_l8DrawRight.f k s i h) (fun r => r.1.length = 24 ∧ r.2.1.length = 24 ∧ 0 ≤ r.2.2.1) := by
  unfold spec_l8DrawRight.f spec_MemoryNew.f
  rw [if_pos (by omega), if_pos (by omega)]; simp only [Option.bind_some]
  exact mem_l0 12 k 0 s i h _ _ (by omega) (by omega) (by omega) hs h0 (List.length_replicate ..) (List.length_replicate ..)
def stM (l : List S29) (n : Int) (i : Bool) (b t p s : Int) (m : List S29) (g : List Bool) (tr : Int) : Bool :=
  decide (l.length = 8) && (l.all wOkT && (wOk n i b t p s && (memM m g && decide (0 ≤ tr ∧ tr ≤ 5))))
theorem spS_rounds (l : List S29) (hl : l.length ≤ 2000000) (n : Int) (i : Bool) (b t p s : Int) (m : List S29) (g : List Bool) (tr : Int) (d : Nat) : ∀ (k : Nat) (j : Int), 0 ≤ j → (l.length : Int) - j = d → d + 50 < k →
    spec_StateOk.l0 k j l n i b t p s m g tr = some ((l.drop j.toNat).all wOkT && (decide (l.length = 8) && (wOk n i b t p s && (memM m g && decide (0 ≤ tr ∧ tr ≤ 5))))) := by
  induction d with
  | zero =>
    intro k j h0 hd hk
    obtain ⟨k, rfl⟩ : ∃ m, k = m + 9 := ⟨k - 9, by omega⟩
    simp only [spec_StateOk.l0]; rw [if_neg (by omega), drop_endW l j (by omega)]
    by_cases h : l.length = 8
    · rw [if_pos (by omega), spec_WordOk_eq, spec_MemoryOk_eq _ _ _ (by omega), spec_in_eq]
      simp only [h, decide_true, Bool.true_and, Option.bind_some, List.all_nil]
      cases wOk n i b t p s <;> cases memM m g <;> simp
    · rw [if_neg (by omega)]; simp [h]
  | succ d ih =>
    intro k j h0 hd hk
    obtain ⟨k, rfl⟩ : ∃ m, k = m + 9 := ⟨k - 9, by omega⟩
    simp only [spec_StateOk.l0]; rw [if_pos (by omega), if_pos h0]
    rw [spec_WordOk_eq, drop_rdW l j h0 (by omega)]; simp only [Option.bind_some, List.all_cons]
    rw [show wOk (rd_T29 l j).f0 (rd_T29 l j).f1 (rd_T29 l j).f2.f0 (rd_T29 l j).f2.f1 (rd_T29 l j).f2.f2 (rd_T29 l j).f2.f3 = wOkT (rd_T29 l j) from rfl]
    cases wOkT (rd_T29 l j) with
    | false => simp
    | true =>
      simp only [if_true, Bool.true_and]
      rw [show wrap64 (j + 1) = j + 1 from wrap_in (by omega) (by omega)]; exact ih (k + 8) (j + 1) (by omega) (by omega) (by omega)
theorem spec_StateOk_eq (k : Nat) (l : List S29) (n : Int) (i : Bool) (b t p s : Int) (m : List S29) (g : List Bool) (tr : Int) (hl : l.length ≤ 2000000) (hk : l.length + 51 ≤ k) : spec_StateOk.f k l n i b t p s m g tr = some (stM l n i b t p s m g tr) := by
  unfold spec_StateOk.f stM
  rw [spS_rounds l hl n i b t p s m g tr l.length k 0 (by omega) (by omega) (by omega)]
  congr 1
  simp only [Int.toNat_zero, List.drop_zero]
  cases l.all wOkT <;> cases decide (l.length = 8) <;> simp

def fM (x : Int) (h : Bool) : Bool := decide (0 ≤ x ∧ x ≤ 7) && (h || x == 0)
def nM (x : Int) (h : Bool) : Bool := decide (-128 ≤ x ∧ x ≤ 127) && (h || x == 0)
def insM (op r a b n : Int) : Bool := hOp op && (fM r (hR op) && (fM a (hA op) && (fM b (hB op) && nM n (hN op))))
theorem fM_not (x : Int) : (x == 0) = fM x false := by
  unfold fM; by_cases h : x = 0
  · subst h; rfl
  · have : (x == 0) = false := by simpa using h
    rw [this]; simp
theorem nM_not (x : Int) : (x == 0) = nM x false := by
  unfold nM; by_cases h : x = 0
  · subst h; rfl
  · have : (x == 0) = false := by simpa using h
    rw [this]; simp
theorem fM_yes (x : Int) : decide (0 ≤ x ∧ x ≤ 7) = fM x true := by unfold fM; simp
theorem nM_yes (x : Int) : decide (-128 ≤ x ∧ x ≤ 127) = nM x true := by unfold nM; simp
theorem spec_Field_eq (x : Int) (h : Bool) : spec_l6Field.f x h = some (fM x h) := by
  unfold spec_l6Field.f fM; rw [spec_in_eq]; simp only [Option.bind_some]
  by_cases hx : 0 ≤ x ∧ x ≤ 7
  · rw [if_pos (decide_eq_true hx)]; cases h <;> simp [hx]
  · rw [if_neg (by simpa using hx)]; simp [hx]
theorem spec_InsOk_eq (op r a b n : Int) : spec_InsOk.f op r a b n = some (insM op r a b n) := by
  obtain ⟨t, e, h1, h2, h3, h4⟩ := has_bits4 op
  unfold spec_InsOk.f
  rw [e]; simp only [Option.bind_some, spec_in_eq, h1, h2, h3, spec_Field_eq]
  unfold insM hOp
  by_cases ho : 1 ≤ op ∧ op ≤ 15
  · rw [if_pos (decide_eq_true ho)]
    cases fM r (hR op) <;> cases fM a (hA op) <;> cases fM b (hB op) <;> simp [ho]
    unfold nM
    by_cases hn : -128 ≤ n ∧ n ≤ 127
    · rw [if_pos hn]; simp only [hn, and_self, decide_true, Bool.true_and]
      cases hh : hN op with
      | false => rw [if_pos (h4.mpr hh)]; simp
      | true => rw [if_neg (by rw [h4, hh]; simp)]; simp
    · rw [if_neg hn]; simp [hn]
  · rw [if_neg (by simpa using ho)]; simp [ho]

def insT (x : S25) : Bool := insM x.f0 x.f1 x.f2 x.f3 x.f4

def fetchM (l : List S25) (n : Int) (i : Bool) (b t p s : Int) : Int × Int × Int × Int × Int × Int :=
  if tryM n i b t p s n 4 = 0 then (if 0 ≤ n ∧ n < (l.length : Int) then (if insT (rd_T25 l n) = true then ((rd_T25 l n).f0, (rd_T25 l n).f1, (rd_T25 l n).f2, (rd_T25 l n).f3, (rd_T25 l n).f4, 0) else (0, 0, 0, 0, 0, 4)) else (0, 0, 0, 0, 0, 4)) else (0, 0, 0, 0, 0, tryM n i b t p s n 4)
theorem spec_Fetch_eq (k : Nat) (l : List S25) (n : Int) (i : Bool) (b t p s : Int) (hl : l.length ≤ 2000000) : spec_Fetch.f (k + 20) l n i b t p s = some (fetchM l n i b t p s) := by
  unfold spec_Fetch.f fetchM
  rw [show k + 20 = k + 10 + 10 from rfl, spec_Try_eq _ _ _ _ _ _ _ _ _ (by omega) (by omega)]; simp only [Option.bind_some]
  by_cases h : tryM n i b t p s n 4 = 0
  · rw [if_pos h, if_pos h, show wrap64 ((l.length : Int) - 1) = (l.length : Int) - 1 from wrap_in (by omega) (by omega), spec_in_eq]; simp only [Option.bind_some]
    by_cases h2 : 0 ≤ n ∧ n < (l.length : Int)
    · rw [if_pos (decide_eq_true (by omega)), if_pos h2.1, if_pos h2.2, if_pos h2, spec_InsOk_eq]; simp only [Option.bind_some]
      rw [show insM (rd_T25 l n).f0 (rd_T25 l n).f1 (rd_T25 l n).f2 (rd_T25 l n).f3 (rd_T25 l n).f4 = insT (rd_T25 l n) from rfl]
      cases insT (rd_T25 l n) <;> simp
    · rw [if_neg (by simp; omega), if_neg h2]
  · rw [if_neg h, if_neg h]

def filterM (g : List Bool) (n : Int) (i : Bool) (b t p s : Int) : Int × Bool × Int × Int × Int × Int :=
  if (i && (decide (0 ≤ b ∧ b < (g.length : Int)) && rdOf false g b)) = true then plainM n else (n, i, b, t, p, s)
theorem spec_Filter_eq (l : List S29) (g : List Bool) (n : Int) (i : Bool) (b t p s : Int) (hg : g.length ≤ 2000000) : spec_Filter.f l g n i b t p s = some (filterM g n i b t p s) := by
  unfold spec_Filter.f filterM
  simp only [spec_in_eq, spec_Bare_eq, Option.bind_some, show wrap64 ((g.length : Int) - 1) = g.length - 1 from wrap_in (by omega) (by omega)]
  cases i
  · simp
  · by_cases h : 0 ≤ b ∧ b < (g.length : Int)
    · have e1 : decide (0 ≤ b ∧ b ≤ (g.length : Int) - 1) = true := decide_eq_true ⟨h.1, by omega⟩
      have e2 : decide (0 ≤ b ∧ b < (g.length : Int)) = true := decide_eq_true h
      rw [e1, e2]
      simp only [if_true, Bool.true_and]
      rw [if_pos h.1, if_pos h.2]
      cases rdOf false g b <;> simp
    · have h' : ¬ (0 ≤ b ∧ b ≤ (g.length : Int) - 1) := by omega
      simp [h, h']

def takenM (p' n : Int) (i : Bool) (b t p s : Int) : Int × Bool × Int × Int × Int × Int := if bits .and .i64 p' 8 = 0 then plainM n else (n, i, b, t, p, s)
theorem spec_Taken_eq (n' : Int) (i' : Bool) (b' t' p' s' n : Int) (i : Bool) (b t p s : Int) : spec_Taken.f n' i' b' t' p' s' n i b t p s = some (takenM p' n i b t p s) := by
  unfold spec_Taken.f takenM
  simp only [spec_Bare_eq, Option.bind_some]
  split <;> rfl

def filterW (g : List Bool) (w : Int × Bool × Int × Int × Int × Int) : Int × Bool × Int × Int × Int × Int := filterM g w.1 w.2.1 w.2.2.1 w.2.2.2.1 w.2.2.2.2.1 w.2.2.2.2.2
def rdW (l : List S29) (m : Int) : S29 := rd_T29 l m
def readM (l : List S29) (g : List Bool) (n : Int) (i : Bool) (b t p s m : Int) : Int × Bool × Int × Int × Int × Int × Int :=
  if tryM n i b t p s m 1 = 0 then
    (if 0 ≤ m ∧ m < (l.length : Int) then
      ((filterW g (takenM p (rdW l m).f0 (rdW l m).f1 (rdW l m).f2.f0 (rdW l m).f2.f1 (rdW l m).f2.f2 (rdW l m).f2.f3)).1,
       (filterW g (takenM p (rdW l m).f0 (rdW l m).f1 (rdW l m).f2.f0 (rdW l m).f2.f1 (rdW l m).f2.f2 (rdW l m).f2.f3)).2.1,
       (filterW g (takenM p (rdW l m).f0 (rdW l m).f1 (rdW l m).f2.f0 (rdW l m).f2.f1 (rdW l m).f2.f2 (rdW l m).f2.f3)).2.2.1,
       (filterW g (takenM p (rdW l m).f0 (rdW l m).f1 (rdW l m).f2.f0 (rdW l m).f2.f1 (rdW l m).f2.f2 (rdW l m).f2.f3)).2.2.2.1,
       (filterW g (takenM p (rdW l m).f0 (rdW l m).f1 (rdW l m).f2.f0 (rdW l m).f2.f1 (rdW l m).f2.f2 (rdW l m).f2.f3)).2.2.2.2.1,
       (filterW g (takenM p (rdW l m).f0 (rdW l m).f1 (rdW l m).f2.f0 (rdW l m).f2.f1 (rdW l m).f2.f2 (rdW l m).f2.f3)).2.2.2.2.2, 0)
    else (0, false, 0, 0, 0, 0, 4))
  else (0, false, 0, 0, 0, 0, tryM n i b t p s m 1)
theorem spec_Read_eq (k : Nat) (l : List S29) (g : List Bool) (n : Int) (i : Bool) (b t p s m : Int) (hl : l.length ≤ 2000000) (hg : g.length ≤ 2000000) : spec_Read.f (k + 12) l g n i b t p s m = some (readM l g n i b t p s m) := by
  unfold spec_Read.f readM
  rw [spec_Try_eq (k + 2) n i b t p s m 1 (by omega) (by omega)]
  simp only [spec_in_eq, Option.bind_some, show wrap64 ((l.length : Int) - 1) = l.length - 1 from wrap_in (by omega) (by omega)]
  rw [show k + 12 = (k + 10) + 1 + 1 from rfl]
  by_cases h : tryM n i b t p s m 1 = 0
  · by_cases h2 : 0 ≤ m ∧ m < (l.length : Int)
    · have h3 : 0 ≤ m ∧ m ≤ (l.length : Int) - 1 := by omega
      simp only [h, h2, h3, if_true, spec_Read.j0, spec_Read.j1, spec_Taken_eq, spec_Filter_eq _ _ _ _ _ _ _ _ hg, Option.bind_some, and_self, decide_true, Bool.not_true, Bool.false_eq_true, if_false, rdW, filterW]
    · have h3 : ¬ (0 ≤ m ∧ m ≤ (l.length : Int) - 1) := by omega
      simp [h, h2, h3, spec_Read.j0, spec_Read.j1]
  · simp [h, spec_Read.j0, spec_Read.j1]

theorem spec_copy_eq (l : List S29) (g : List Bool) (hl : l.length ≤ 2000000) (hg : g.length ≤ 2000000) : spec_l8Copy.f l g = some (l, g) := by
  unfold spec_l8Copy.f; simp only [Option.bind_some, List.length_nil, List.nil_append]
  rw [if_pos (by omega), if_pos (by omega)]
theorem memM_len {l : List S29} {g : List Bool} (h : memM l g = true) : l.length = 24 ∧ g.length = 24 := by
  unfold memM at h; simp only [Bool.and_eq_true, decide_eq_true_eq] at h; exact h.1

def mayPutM (p : Int) (i : Bool) : Bool := !i || (bits .and .i64 p 16 != 0)
theorem spec_MayPut_eq (n' : Int) (i' : Bool) (b' t' p' s' n : Int) (i : Bool) (b t p s : Int) : spec_MayPut.f n' i' b' t' p' s' n i b t p s = some (mayPutM p' i) := by
  unfold spec_MayPut.f mayPutM
  cases i <;> simp

def wrCode (l : List S29) (n : Int) (i : Bool) (b t p s m : Int) (i' : Bool) : Int :=
  if tryM n i b t p s m 2 = 0 then (if 0 ≤ m ∧ m < (l.length : Int) then (if mayPutM p i' = true then 0 else 3) else 4) else tryM n i b t p s m 2
theorem wrCode_in {l : List S29} {n : Int} {i : Bool} {b t p s m : Int} {i' : Bool} (h : wrCode l n i b t p s m i' = 0) : 0 ≤ m ∧ m < (l.length : Int) := by
  unfold wrCode at h
  by_cases h1 : tryM n i b t p s m 2 = 0
  · rw [if_pos h1] at h
    by_cases h2 : 0 ≤ m ∧ m < (l.length : Int)
    · exact h2
    · rw [if_neg h2] at h; omega
  · rw [if_neg h1] at h; omega
theorem spec_Write8_eq (k : Nat) (l : List S29) (g : List Bool) (n : Int) (i : Bool) (b t p s m n' : Int) (i' : Bool) (b' t' p' s' : Int) (hl : l.length ≤ 2000000) (hk : 10 ≤ k) : spec_l8Write.f k l g n i b t p s m n' i' b' t' p' s' = some (wrCode l n i b t p s m i') := by
  obtain ⟨k, rfl⟩ : ∃ m, k = m + 10 := ⟨k - 10, by omega⟩
  unfold spec_l8Write.f wrCode
  rw [spec_Try_eq _ _ _ _ _ _ _ _ _ (by omega) (by omega)]; simp only [Option.bind_some]
  by_cases h : tryM n i b t p s m 2 = 0
  · rw [if_pos h, if_pos h, show wrap64 ((l.length : Int) - 1) = (l.length : Int) - 1 from wrap_in (by omega) (by omega), spec_in_eq, spec_MayPut_eq]; simp only [Option.bind_some]
    by_cases h2 : 0 ≤ m ∧ m < (l.length : Int)
    · rw [if_pos (decide_eq_true (by omega)), if_pos h2]; split <;> rfl
    · rw [if_neg (by simp; omega), if_neg h2]
  · rw [if_neg h, if_neg h]
def writeM (l : List S29) (g : List Bool) (n : Int) (i : Bool) (b t p s m n' : Int) (i' : Bool) (b' t' p' s' : Int) : List S29 × List Bool × Int :=
  if memM l g = true then (if wrCode l n i b t p s m i' = 0 then (l.set m.toNat ⟨n', i', ⟨b', t', p', s'⟩⟩, g, wrCode l n i b t p s m i') else (l, g, wrCode l n i b t p s m i')) else ([], [], wrCode l n i b t p s m i')
theorem writeM_len (l : List S29) (g : List Bool) (n : Int) (i : Bool) (b t p s m n' : Int) (i' : Bool) (b' t' p' s' : Int) : (writeM l g n i b t p s m n' i' b' t' p' s').1.length ≤ 24 ∧ (writeM l g n i b t p s m n' i' b' t' p' s').2.1.length ≤ 24 := by
  unfold writeM
  by_cases h : memM l g = true
  · rw [if_pos h]; have := memM_len h; split <;> (try simp only [List.length_set]) <;> omega
  · rw [if_neg h]; simp
theorem wright_ok (k : Nat) (s : List Int) (i h : Int) (hs : s.length ≤ maxLen) (h0 : 0 ≤ i) : Tells (spec_l3DrawRight.f (k + 8) s i h) (fun r => 0 ≤ r.2.2.2.2.2.2.1 ∧ wOk r.1 r.2.1 r.2.2.1 r.2.2.2.1 r.2.2.2.2.1 r.2.2.2.2.2.1 = true) := by
  unfold spec_l3DrawRight.f
  refine Tells.bind (once_T _ _ _ _ hs h0 (by omega)) (fun r1 p1 => ?_)
  refine Tells.ite (fun _ => ?_) (fun _ => ?_)
  · refine Tells.bind (pick_T _ _ _ _ hs p1 (by simp)) (fun r2 p2 => ?_)
    exact Tells.bind (⟨_, spec_Plain_eq _, wOk_plain _⟩ : Tells (spec_Plain.f r2.1) (fun x => wOk x.1 x.2.1 x.2.2.1 x.2.2.2.1 x.2.2.2.2.1 x.2.2.2.2.2 = true)) (fun r3 p3 => Tells.some ⟨p2.1, p3⟩)
  · refine Tells.bind (right_T (k + 6) _ _ _ hs p1) (fun r2 p2 => ?_)
    refine Tells.bind (pick_T _ _ _ _ hs p2 (by simp)) (fun r3 p3 => ?_)
    exact Tells.bind (⟨_, spec_KeyWord_eq k _ _ _ _ _, wOk_keyWord _ _ _ _ _⟩ : Tells (spec_KeyWord.f (k + 8) r2.1 r2.2.1 r2.2.2.1 r2.2.2.2.1 r3.1) (fun x => wOk x.1 x.2.1 x.2.2.1 x.2.2.2.1 x.2.2.2.2.1 x.2.2.2.2.2 = true)) (fun r4 p4 => Tells.some ⟨p3.1, p4⟩)
theorem all_set (l : List S29) (j : Nat) (x : S29) (h : l.all wOkT = true) (hx : wOkT x = true) : (l.set j x).all wOkT = true := by
  rw [List.all_eq_true] at *
  intro y hy
  rcases List.mem_or_eq_of_mem_set hy with h1 | h1
  · exact h y h1
  · rw [h1]; exact hx
theorem all_rd (l : List S29) (j : Int) (h : l.all wOkT = true) (h0 : 0 ≤ j) (h1 : j < (l.length : Int)) : rd_T29 l j ∈ l ∧ wOkT (rd_T29 l j) = true := by
  have hm : rd_T29 l j ∈ l := by
    have e := drop_rdW l j h0 h1
    have : rd_T29 l j ∈ l.drop j.toNat := by rw [e]; exact List.mem_cons_self ..
    exact List.mem_of_mem_drop this
  exact ⟨hm, List.all_eq_true.mp h _ hm⟩
theorem memo_l1 (d : Nat) : ∀ (k : Nat) (x : Int) (s : List Int) (i h : Int) (m : List S29) (g : List Bool), (4 : Int) - x ≤ d → 0 ≤ x → d < k → s.length ≤ maxLen → 0 ≤ i → m.length = 24 → m.all wOkT = true → g.length = 24 → Tells (spec_l8DrawRight.l1 k x s i h m g) (fun r => r.1.length = 24 ∧ r.1.all wOkT = true ∧ r.2.1.length = 24 ∧ 0 ≤ r.2.2.1) := by
  induction d with
  | zero =>
    intro k x s i h m g hx hx0 hk hs h0 hm hw hg
    obtain ⟨k, rfl⟩ : ∃ q, k = q + 1 := ⟨k - 1, by omega⟩
    rw [spec_l8DrawRight.l1]
    refine Tells.bind (below_T _ _ _ _ hs h0 (by omega)) (fun r p => ?_)
    rw [if_neg (by omega)]
    exact Tells.some ⟨hm, hw, hg, p.1⟩
  | succ d ih =>
    intro k x s i h m g hx hx0 hk hs h0 hm hw hg
    obtain ⟨k, rfl⟩ : ∃ q, k = q + 1 := ⟨k - 1, by omega⟩
    rw [spec_l8DrawRight.l1]
    refine Tells.bind (below_T _ _ _ _ hs h0 (by omega)) (fun r p => ?_)
    refine Tells.ite (fun hxr => ?_) (fun _ => Tells.some ⟨hm, hw, hg, p.1⟩)
    refine Tells.bind (below_T _ _ _ _ hs p.1 (by omega)) (fun q pq => ?_)
    rw [if_pos pq.2.1, if_pos (by omega), show wrap64 (x + 1) = x + 1 from wrap_in (by omega) (by omega)]
    exact ih k (x + 1) s _ _ _ _ (by omega) (by omega) (by omega) hs pq.1 hm hw (by rw [List.length_set]; exact hg)
theorem memo_l0 (d : Nat) : ∀ (k : Nat) (x : Int) (s : List Int) (i h : Int) (m : List S29) (g : List Bool), (12 : Int) - x ≤ d → 0 ≤ x → d + 20 < k → s.length ≤ maxLen → 0 ≤ i → m.length = 24 → m.all wOkT = true → g.length = 24 → Tells (spec_l8DrawRight.l0 k x s i h m g) (fun r => r.1.length = 24 ∧ r.1.all wOkT = true ∧ r.2.1.length = 24 ∧ 0 ≤ r.2.2.1) := by
  induction d with
  | zero =>
    intro k x s i h m g hx hx0 hk hs h0 hm hw hg
    obtain ⟨k, rfl⟩ : ∃ q, k = q + 1 := ⟨k - 1, by omega⟩
    rw [spec_l8DrawRight.l0]
    refine Tells.bind (below_T _ _ _ _ hs h0 (by omega)) (fun r p => ?_)
    rw [if_neg (by omega)]
    exact memo_l1 4 k 0 s _ _ _ _ (by omega) (by omega) (by omega) hs p.1 hm hw hg
  | succ d ih =>
    intro k x s i h m g hx hx0 hk hs h0 hm hw hg
    obtain ⟨k, rfl⟩ : ∃ q, k = q + 8 + 1 := ⟨k - 9, by omega⟩
    rw [spec_l8DrawRight.l0]
    refine Tells.bind (below_T _ _ _ _ hs h0 (by omega)) (fun r p => ?_)
    refine Tells.ite (fun hxr => ?_) (fun _ => memo_l1 4 _ 0 s _ _ _ _ (by omega) (by omega) (by omega) hs p.1 hm hw hg)
    refine Tells.bind (below_T _ _ _ _ hs p.1 (by omega)) (fun q pq => ?_)
    refine Tells.bind (wright_ok k s _ _ hs pq.1) (fun w pw => ?_)
    rw [if_pos pq.2.1, if_pos (by omega), show wrap64 (x + 1) = x + 1 from wrap_in (by omega) (by omega)]
    exact ih (k + 8) (x + 1) s _ _ _ _ (by omega) (by omega) (by omega) hs pw.1 (by rw [List.length_set]; exact hm) (all_set _ _ _ hw pw.2) hg
theorem mright_ok (k : Nat) (s : List Int) (i h : Int) (hk : 40 ≤ k) (hs : s.length ≤ maxLen) (h0 : 0 ≤ i) : Tells (spec_l8DrawRight.f k s i h) (fun r => r.1.length = 24 ∧ r.1.all wOkT = true ∧ r.2.1.length = 24 ∧ 0 ≤ r.2.2.1) := by
  unfold spec_l8DrawRight.f spec_MemoryNew.f
  rw [if_pos (by omega), if_pos (by omega)]; simp only [Option.bind_some]
  exact memo_l0 12 k 0 s i h _ _ (by omega) (by omega) (by omega) hs h0 (List.length_replicate ..) (by decide) (List.length_replicate ..)
theorem wOk_taken (p' n : Int) (i : Bool) (b t p s : Int) (h : wOk n i b t p s = true) : wOk (takenM p' n i b t p s).1 (takenM p' n i b t p s).2.1 (takenM p' n i b t p s).2.2.1 (takenM p' n i b t p s).2.2.2.1 (takenM p' n i b t p s).2.2.2.2.1 (takenM p' n i b t p s).2.2.2.2.2 = true := by
  unfold takenM
  by_cases c : bits .and .i64 p' 8 = 0
  · rw [if_pos c]; exact wOk_plain n
  · rw [if_neg c]; exact h
theorem wOk_filter (g : List Bool) (x : Int × Bool × Int × Int × Int × Int) (h : wOk x.1 x.2.1 x.2.2.1 x.2.2.2.1 x.2.2.2.2.1 x.2.2.2.2.2 = true) : wOk (filterW g x).1 (filterW g x).2.1 (filterW g x).2.2.1 (filterW g x).2.2.2.1 (filterW g x).2.2.2.2.1 (filterW g x).2.2.2.2.2 = true := by
  unfold filterW filterM
  by_cases c : (x.2.1 && (decide (0 ≤ x.2.2.1 ∧ x.2.2.1 < (g.length : Int)) && rdOf false g x.2.2.1)) = true
  · rw [if_pos c]; exact wOk_plain _
  · rw [if_neg c]; exact h
theorem wOk_read (l : List S29) (g : List Bool) (n : Int) (i : Bool) (b t p s m : Int) (h : l.all wOkT = true) : wOk (readM l g n i b t p s m).1 (readM l g n i b t p s m).2.1 (readM l g n i b t p s m).2.2.1 (readM l g n i b t p s m).2.2.2.1 (readM l g n i b t p s m).2.2.2.2.1 (readM l g n i b t p s m).2.2.2.2.2.1 = true := by
  unfold readM
  by_cases c : tryM n i b t p s m 1 = 0
  · rw [if_pos c]
    by_cases d : 0 ≤ m ∧ m < (l.length : Int)
    · rw [if_pos d]
      exact wOk_filter g _ (wOk_taken _ _ _ _ _ _ _ (all_rd l m h d.1 d.2).2)
    · rw [if_neg d]; show wOk 0 false 0 0 0 0 = true; decide
  · rw [if_neg c]; show wOk 0 false 0 0 0 0 = true; decide
theorem lmem_ok (k : Nat) (l : List S29) (g : List Bool) (op r a b n : Int) (n1 : Int) (i1 : Bool) (b1 t1 p1 s1 n2 : Int) (i2 : Bool) (b2 t2 p2 s2 : Int) (hl : l.length = 24) (hg : g.length = 24) (h : l.all wOkT = true) :
    Tells (spec_l9Mem.f (k + 40) l g op r a b n n1 i1 b1 t1 p1 s1 n2 i2 b2 t2 p2 s2) (fun x => wOk x.1 x.2.1 x.2.2.1 x.2.2.2.1 x.2.2.2.2.1 x.2.2.2.2.2.1 = true) := by
  unfold spec_l9Mem.f
  refine Tells.ite (fun _ => ?_) (fun _ => Tells.ite (fun _ => ?_) (fun _ => Tells.some (by decide)))
  · exact Tells.bind (⟨_, spec_Read_eq (k + 28) l g n1 i1 b1 t1 p1 s1 _ (by omega) (by omega), wOk_read _ _ _ _ _ _ _ _ _ h⟩ : Tells (spec_Read.f (k + 40) l g n1 i1 b1 t1 p1 s1 (wrap64 (n1 + n))) (fun x => wOk x.1 x.2.1 x.2.2.1 x.2.2.2.1 x.2.2.2.2.1 x.2.2.2.2.2.1 = true)) (fun x p => Tells.some p)
  · exact Tells.bind (⟨_, spec_Write8_eq (k + 40) _ _ _ _ _ _ _ _ _ _ _ _ _ _ _ (by omega) (by omega), True.intro⟩ : Tells (spec_l8Write.f (k + 40) l g n1 i1 b1 t1 p1 s1 (wrap64 (n1 + n)) n2 i2 b2 t2 p2 s2) (fun _ => True)) (fun x _ => Tells.some (show wOk 0 false 0 0 0 0 = true by decide))
theorem stM_mk {l : List S29} {n : Int} {i : Bool} {b t p s : Int} {m : List S29} {g : List Bool} (h1 : l.length = 8) (h2 : l.all wOkT = true) (h3 : wOk n i b t p s = true) (h4 : m.length = 24) (h5 : m.all wOkT = true) (h6 : g.length = 24) : stM l n i b t p s m g 0 = true := by
  unfold stM memM
  simp only [Bool.and_eq_true, decide_eq_true_eq]
  exact ⟨h1, h2, h3, ⟨⟨h4, h6⟩, h5⟩, by omega⟩
theorem stM_parts {l : List S29} {n : Int} {i : Bool} {b t p s : Int} {m : List S29} {g : List Bool} {tr : Int} (h : stM l n i b t p s m g tr = true) : l.length = 8 ∧ l.all wOkT = true ∧ wOk n i b t p s = true ∧ m.length = 24 ∧ m.all wOkT = true ∧ g.length = 24 := by
  unfold stM memM at h
  simp only [Bool.and_eq_true, decide_eq_true_eq] at h
  exact ⟨h.1, h.2.1, h.2.2.1, h.2.2.2.1.1.1, h.2.2.2.1.2, h.2.2.2.1.1.2⟩
theorem copy9_eq (l : List S29) (n : Int) (i : Bool) (b t p s : Int) (m : List S29) (g : List Bool) (tr : Int) (hl : l.length ≤ 2000000) (hm : m.length ≤ 2000000) (hg : g.length ≤ 2000000) : spec_l9Copy.f l n i b t p s m g tr = some (l, n, i, b, t, p, s, m, g, tr) := by
  unfold spec_l9Copy.f
  simp only [Option.bind_some, List.length_nil, List.nil_append]
  rw [if_pos (by omega), spec_copy_eq m g hm hg]; simp only [Option.bind_some]
theorem insM_ab {op r a b n : Int} (h : insM op r a b n = true) : (0 ≤ a ∧ a ≤ 7) ∧ (0 ≤ b ∧ b ≤ 7) := by
  unfold insM fM at h; simp only [Bool.and_eq_true, decide_eq_true_eq] at h
  exact ⟨h.2.2.1.1, h.2.2.2.1.1⟩
theorem fetch_ab (l : List S25) (n : Int) (i : Bool) (b t p s : Int) (h : (fetchM l n i b t p s).2.2.2.2.2 = 0) : (0 ≤ (fetchM l n i b t p s).2.2.1 ∧ (fetchM l n i b t p s).2.2.1 ≤ 7) ∧ (0 ≤ (fetchM l n i b t p s).2.2.2.1 ∧ (fetchM l n i b t p s).2.2.2.1 ≤ 7) := by
  unfold fetchM at h ⊢
  by_cases c : tryM n i b t p s n 4 = 0
  · rw [if_pos c] at h ⊢
    by_cases d : 0 ≤ n ∧ n < (l.length : Int)
    · rw [if_pos d] at h ⊢
      by_cases e : insT (rd_T25 l n) = true
      · rw [if_pos e] at h ⊢; exact insM_ab e
      · rw [if_neg e] at h; exact absurd h (by simp)
    · rw [if_neg d] at h; exact absurd h (by simp)
  · rw [if_neg c] at h; exact absurd h c


end Go.Proofs.Ytpcladboobfkhaa.Pure
