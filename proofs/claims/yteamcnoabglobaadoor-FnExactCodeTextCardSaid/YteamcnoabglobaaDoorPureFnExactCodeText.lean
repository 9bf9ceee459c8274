/- The program's CodeText gives, for every program, the very text that the reference gives, and leaves the program as it was; no conditions. -/
import Derived.Test.YteamcnoabglobaaDoorPFnExactCodeTextx5
namespace Go.Proofs.YteamcnoabglobaaDoor.Pure
open Go.RowKit Go.Proofs.YteamcnoabglobaaDoor.PFnExactCodeText Go.Proofs.YteamcnoabglobaaDoorW.PrintWords Go.Proofs.YteamcnoabglobaaDoorW.PrintLast Go.Proofs.YteamcnoabglobaaDoorW.PrintMore
set_option linter.unusedVariables false
set_option linter.unusedSimpArgs false

def laws_FnExactCodeText.Mine : Prop := ∀ (l0 : List (S23)), l0.length ≤ maxLen → ∃ k, laws_FnExactCodeText.f k l0 = some true

theorem i64_bits : IntKind.i64.bits = 64 := rfl
theorem wrap_i64' (n : Int) : IntKind.i64.wrap n = wrap64 n := by unfold wrap64; exact IntKind.wrap_i64 n
theorem wrap_in {n : Int} (h0 : -9223372036854775808 ≤ n) (h1 : n ≤ 9223372036854775807) : wrap64 n = n := by unfold wrap64; omega
theorem wrap_lo (n : Int) : -9223372036854775808 ≤ wrap64 n ∧ wrap64 n ≤ 9223372036854775807 := by unfold wrap64; omega

def hR (op : Int) : Bool := decide ((1 ≤ op ∧ op ≤ 10) ∨ op = 12)
def hA (op : Int) : Bool := decide (2 ≤ op ∧ op ≤ 14)
def hB (op : Int) : Bool := decide (op = 2 ∨ (4 ≤ op ∧ op ≤ 8) ∨ op = 11)
def hN (op : Int) : Bool := decide (op = 1 ∨ op = 6 ∨ op = 10 ∨ op = 11 ∨ op = 13)
def hOp (op : Int) : Bool := decide (1 ≤ op ∧ op ≤ 15)
theorem op_cases (op : Int) : op = 1 ∨ op = 2 ∨ op = 3 ∨ op = 4 ∨ op = 5 ∨ op = 6 ∨ op = 7 ∨ op = 8 ∨ op = 9 ∨ op = 10 ∨ op = 11 ∨ op = 12 ∨ op = 13 ∨ op = 14 ∨ op = 15 ∨ ¬ (1 ≤ op ∧ op ≤ 15) := by omega
theorem formOf_none (k : Nat) (op : Int) (h : ¬ (1 ≤ op ∧ op ≤ 15)) : impl_formOf.f (k + 2) op = some ((⟨#[]⟩ : ByteArray), false) := by
  have ne : ∀ m : Int, 1 ≤ m → m ≤ 15 → op ≠ m := fun m _ _ => by omega
  unfold impl_formOf.f
  simp [impl_formOf.j0, impl_formOf.j1, ne]
theorem formOf_ok (k : Nat) (op : Int) : ∃ s, impl_formOf.f (k + 2) op = some (s, hOp op) := by
  rcases op_cases op with rfl | rfl | rfl | rfl | rfl | rfl | rfl | rfl | rfl | rfl | rfl | rfl | rfl | rfl | rfl | h
  case inr.inr.inr.inr.inr.inr.inr.inr.inr.inr.inr.inr.inr.inr.inr => exact ⟨(⟨#[]⟩ : ByteArray), by rw [formOf_none k op h]; simp [hOp, h]⟩
  all_goals exact ⟨_, rfl⟩
theorem hasPart_up {k : Nat} {op r a b n p : Int} {v : Bool} (hk : 12 ≤ k) (h : impl_hasPart.f 12 op 0 0 0 0 p = some v) : impl_hasPart.f k op r a b n p = some v :=
  at_rounds (fun k => impl_hasPart.mono op r a b n p k) hk h
theorem hasPart_none (k : Nat) (op r a b n p : Int) (hk : 12 ≤ k) (h : ¬ (1 ≤ op ∧ op ≤ 15)) : impl_hasPart.f k op r a b n p = some false := by
  refine at_rounds (fun k => impl_hasPart.mono op r a b n p k) hk ?_
  show impl_hasPart.f 12 op r a b n p = some false
  unfold impl_hasPart.f
  rw [formOf_none 10 op h]
  rfl
theorem hasPart_R (k : Nat) (op r a b n : Int) (hk : 12 ≤ k) : impl_hasPart.f k op r a b n 82 = some (hR op) := by
  rcases op_cases op with rfl | rfl | rfl | rfl | rfl | rfl | rfl | rfl | rfl | rfl | rfl | rfl | rfl | rfl | rfl | h
  case inr.inr.inr.inr.inr.inr.inr.inr.inr.inr.inr.inr.inr.inr.inr => rw [hasPart_none k op r a b n 82 hk h]; congr 1; symm; unfold hR; simp; omega
  all_goals exact hasPart_up hk (by decide +kernel)
theorem hasPart_A (k : Nat) (op r a b n : Int) (hk : 12 ≤ k) : impl_hasPart.f k op r a b n 65 = some (hA op) := by
  rcases op_cases op with rfl | rfl | rfl | rfl | rfl | rfl | rfl | rfl | rfl | rfl | rfl | rfl | rfl | rfl | rfl | h
  case inr.inr.inr.inr.inr.inr.inr.inr.inr.inr.inr.inr.inr.inr.inr => rw [hasPart_none k op r a b n 65 hk h]; congr 1; symm; unfold hA; simp; omega
  all_goals exact hasPart_up hk (by decide +kernel)
theorem hasPart_B (k : Nat) (op r a b n : Int) (hk : 12 ≤ k) : impl_hasPart.f k op r a b n 66 = some (hB op) := by
  rcases op_cases op with rfl | rfl | rfl | rfl | rfl | rfl | rfl | rfl | rfl | rfl | rfl | rfl | rfl | rfl | rfl | h
  case inr.inr.inr.inr.inr.inr.inr.inr.inr.inr.inr.inr.inr.inr.inr => rw [hasPart_none k op r a b n 66 hk h]; congr 1; symm; unfold hB; simp; omega
  all_goals exact hasPart_up hk (by decide +kernel)
theorem hasPart_N (k : Nat) (op r a b n : Int) (hk : 12 ≤ k) : impl_hasPart.f k op r a b n 78 = some (hN op) := by
  rcases op_cases op with rfl | rfl | rfl | rfl | rfl | rfl | rfl | rfl | rfl | rfl | rfl | rfl | rfl | rfl | rfl | h
  case inr.inr.inr.inr.inr.inr.inr.inr.inr.inr.inr.inr.inr.inr.inr => rw [hasPart_none k op r a b n 78 hk h]; congr 1; symm; unfold hN; simp; omega
  all_goals exact hasPart_up hk (by decide +kernel)

theorem impl_in_eq (n lo hi : Int) : impl_in.f n lo hi = some (decide (lo ≤ n ∧ n ≤ hi)) := by
  unfold impl_in.f; by_cases h : n ≥ lo
  · rw [if_pos h]; simp [show lo ≤ n from h]
  · rw [if_neg h]; simp [show ¬ lo ≤ n from h]
theorem spec_in_eq (n lo hi : Int) : spec_l1In.f n lo hi = some (decide (lo ≤ n ∧ n ≤ hi)) := by
  unfold spec_l1In.f; by_cases h : n ≥ lo
  · rw [if_pos h]; simp [show lo ≤ n from h]
  · rw [if_neg h]; simp [show ¬ lo ≤ n from h]

theorem has_bits4 (op : Int) : ∃ t, spec_l6Has.f op = some t ∧ ((bits .and .i64 t 1) != 0) = hR op ∧ ((bits .and .i64 t 2) != 0) = hA op ∧ ((bits .and .i64 t 4) != 0) = hB op ∧ ((bits .and .i64 t 8) = 0 ↔ hN op = false) := by
  rcases op_cases op with rfl | rfl | rfl | rfl | rfl | rfl | rfl | rfl | rfl | rfl | rfl | rfl | rfl | rfl | rfl | h
  case inr.inr.inr.inr.inr.inr.inr.inr.inr.inr.inr.inr.inr.inr.inr =>
    refine ⟨0, ?_, ?_, ?_, ?_, ?_⟩
    · unfold spec_l6Has.f; rw [spec_in_eq]; simp only [Option.bind_some]; rw [if_neg (by simpa using h)]
    · have : hR op = false := by unfold hR; simp; omega
      rw [this]; decide +kernel
    · have : hA op = false := by unfold hA; simp; omega
      rw [this]; decide +kernel
    · have : hB op = false := by unfold hB; simp; omega
      rw [this]; decide +kernel
    · have : hN op = false := by unfold hN; simp; omega
      rw [this]; decide +kernel
  all_goals exact ⟨_, rfl, by decide +kernel, by decide +kernel, by decide +kernel, by decide +kernel⟩

def fM (x : Int) (h : Bool) : Bool := decide (0 ≤ x ∧ x ≤ 7) && (h || x == 0)
def nM (x : Int) (h : Bool) : Bool := decide (-128 ≤ x ∧ x ≤ 127) && (h || x == 0)
def insM (op r a b n : Int) : Bool := hOp op && (fM r (hR op) && (fM a (hA op) && (fM b (hB op) && nM n (hN op))))
theorem fM_not (x : Int) : (x == 0) = fM x false := by
  unfold fM; by_cases h : x = 0
  · subst h; rfl
  · have : (x == 0) = false := by simpa using h
    rw [this]; simp
theorem nM_not (x : Int) : (x == 0) = nM x false := by
  unfold nM; by_cases h : x = 0
  · subst h; rfl
  · have : (x == 0) = false := by simpa using h
    rw [this]; simp
theorem fM_yes (x : Int) : decide (0 ≤ x ∧ x ≤ 7) = fM x true := by unfold fM; simp
theorem nM_yes (x : Int) : decide (-128 ≤ x ∧ x ≤ 127) = nM x true := by unfold nM; simp
theorem ok_step (k : Nat) (x4 : Bool) (op r a b n i i' c x : Int) (h : Bool) (hi : 0 ≤ i) (hi4 : i < 4) (hc : rd ([82, 65, 66, 78] : List Int) i = c) (hw : wrap64 (i + 1) = i') (hp : impl_partOf.f op r a b n c = some x) (hh : impl_hasPart.f k op r a b n c = some h) (hne : c ≠ 78) :
    impl_InsOk.l0 (k + 1) x4 i op r a b n = impl_InsOk.l0 k (x4 && fM x h) i' op r a b n := by
  simp only [impl_InsOk.l0]
  rw [if_pos hi4, if_pos hi]
  simp only [hc, hp, hh, hw, Option.bind_some]
  cases h with
  | false => cases x4 <;> simp [← fM_not]
  | true => cases x4 <;> simp [hne, impl_in_eq, ← fM_yes]
theorem ok_stepN (k : Nat) (x4 : Bool) (op r a b n : Int) (h : Bool) (hh : impl_hasPart.f k op r a b n 78 = some h) :
    impl_InsOk.l0 (k + 1) x4 3 op r a b n = impl_InsOk.l0 k (x4 && nM n h) 4 op r a b n := by
  have hp : impl_partOf.f op r a b n 78 = some n := by unfold impl_partOf.f; simp
  simp only [impl_InsOk.l0]
  rw [if_pos (by decide), if_pos (by decide), show rd ([82, 65, 66, 78] : List Int) 3 = 78 from rfl, show wrap64 (3 + 1) = 4 by unfold wrap64; omega]
  simp only [hp, hh, Option.bind_some]
  cases h with
  | false => cases x4 <;> simp [← nM_not]
  | true => cases x4 <;> simp [impl_in_eq, ← nM_yes]
theorem ok_stepE (k : Nat) (x4 : Bool) (op r a b n : Int) : impl_InsOk.l0 (k + 1) x4 4 op r a b n = some x4 := by
  simp only [impl_InsOk.l0]; rw [if_neg (by decide)]
theorem impl_InsOk_eq (k : Nat) (op r a b n : Int) (hk : 20 ≤ k) : impl_InsOk.f k op r a b n = some (insM op r a b n) := by
  obtain ⟨k, rfl⟩ : ∃ m, k = m + 20 := ⟨k - 20, by omega⟩
  obtain ⟨s, e⟩ := formOf_ok (k + 18) op
  unfold impl_InsOk.f
  rw [show k + 20 = k + 18 + 2 from rfl, e]; simp only [Option.bind_some]
  show impl_InsOk.l0 (k + 19 + 1) (hOp op) 0 op r a b n = _
  rw [ok_step (k + 19) (hOp op) op r a b n 0 1 82 r (hR op) (by omega) (by omega) rfl (by unfold wrap64; omega) (by unfold impl_partOf.f; simp) (hasPart_R _ _ _ _ _ _ (by omega)) (by omega),
    ok_step (k + 18) _ op r a b n 1 2 65 a (hA op) (by omega) (by omega) rfl (by unfold wrap64; omega) (by unfold impl_partOf.f; simp) (hasPart_A _ _ _ _ _ _ (by omega)) (by omega),
    ok_step (k + 17) _ op r a b n 2 3 66 b (hB op) (by omega) (by omega) rfl (by unfold wrap64; omega) (by unfold impl_partOf.f; simp) (hasPart_B _ _ _ _ _ _ (by omega)) (by omega),
    ok_stepN (k + 16) _ op r a b n (hN op) (hasPart_N _ _ _ _ _ _ (by omega)), ok_stepE (k + 15)]
  unfold insM; simp only [Bool.and_assoc]
theorem spec_Field_eq (x : Int) (h : Bool) : spec_l6Field.f x h = some (fM x h) := by
  unfold spec_l6Field.f fM; rw [spec_in_eq]; simp only [Option.bind_some]
  by_cases hx : 0 ≤ x ∧ x ≤ 7
  · rw [if_pos (decide_eq_true hx)]; cases h <;> simp [hx]
  · rw [if_neg (by simpa using hx)]; simp [hx]
theorem spec_InsOk_eq (op r a b n : Int) : spec_InsOk.f op r a b n = some (insM op r a b n) := by
  obtain ⟨t, e, h1, h2, h3, h4⟩ := has_bits4 op
  unfold spec_InsOk.f
  rw [e]; simp only [Option.bind_some, spec_in_eq, h1, h2, h3, spec_Field_eq]
  unfold insM hOp
  by_cases ho : 1 ≤ op ∧ op ≤ 15
  · rw [if_pos (decide_eq_true ho)]
    cases fM r (hR op) <;> cases fM a (hA op) <;> cases fM b (hB op) <;> simp [ho]
    unfold nM
    by_cases hn : -128 ≤ n ∧ n ≤ 127
    · rw [if_pos hn]; simp only [hn, and_self, decide_true, Bool.true_and]
      cases hh : hN op with
      | false => rw [if_pos (h4.mpr hh)]; simp
      | true => rw [if_neg (by rw [h4, hh]; simp)]; simp
    · rw [if_neg hn]; simp [hn]
  · rw [if_neg (by simpa using ho)]; simp [ho]

def dig (n : Int) : ByteArray := ⟨(Lib.itoa n).toArray⟩
theorem dec1 (u : Nat) (h : u < 10) : Lib.decDigits u = [UInt8.ofNat (48 + u)] := by rw [Lib.decDigits]; simp [h]
theorem dec2 (u : Nat) (h : ¬ u < 10) (h2 : u < 100) : Lib.decDigits u = [UInt8.ofNat (48 + u / 10), UInt8.ofNat (48 + u % 10)] := by rw [Lib.decDigits]; simp [h, dec1 (u / 10) (by omega)]
theorem dec3 (u : Nat) (h : ¬ u < 100) (h2 : u < 1000) : Lib.decDigits u = [UInt8.ofNat (48 + u / 10 / 10), UInt8.ofNat (48 + u / 10 % 10), UInt8.ofNat (48 + u % 10)] := by rw [Lib.decDigits]; simp [show ¬ u < 10 by omega, dec2 (u / 10) (by omega) (by omega)]
def decM (u : Nat) : List UInt8 := if u < 10 then [UInt8.ofNat (48 + u)] else if u < 100 then [UInt8.ofNat (48 + u / 10), UInt8.ofNat (48 + u % 10)] else [UInt8.ofNat (48 + u / 10 / 10), UInt8.ofNat (48 + u / 10 % 10), UInt8.ofNat (48 + u % 10)]
theorem decM_eq (u : Nat) (h : u < 1000) : Lib.decDigits u = decM u := by
  unfold decM
  by_cases h1 : u < 10
  · rw [if_pos h1, dec1 u h1]
  · rw [if_neg h1]
    by_cases h2 : u < 100
    · rw [if_pos h2, dec2 u h1 h2]
    · rw [if_neg h2, dec3 u h2 h]
def digM (n : Int) : ByteArray := ⟨(if n < 0 then 45 :: decM n.natAbs else decM n.toNat).toArray⟩
theorem dig_eq (n : Int) (h1 : -128 ≤ n) (h2 : n ≤ 127) : dig n = digM n := by
  unfold dig digM Lib.itoa
  by_cases h : n < 0
  · rw [if_pos h, if_pos h, decM_eq _ (by omega)]
  · rw [if_neg h, if_neg h, decM_eq _ (by omega)]
set_option maxRecDepth 100000 in
theorem digits_all : (List.range 256).all (fun m => decide (spec_l7Digits.f 12 ((m : Int) - 128) = some (digM ((m : Int) - 128))) && decide ((digM ((m : Int) - 128)).size ≤ 4)) = true := by kernel_rfl
theorem digits (n : Int) (h1 : -128 ≤ n) (h2 : n ≤ 127) : spec_l7Digits.f 12 n = some (dig n) ∧ (dig n).size ≤ 4 := by
  have h := List.all_eq_true.mp digits_all (n + 128).toNat (List.mem_range.mpr (by omega))
  rw [show (((n + 128).toNat : Nat) : Int) - 128 = n by omega] at h
  simp only [Bool.and_eq_true, decide_eq_true_eq] at h
  rw [dig_eq n h1 h2]
  exact h
theorem itoa_eq (n : Int) (h1 : -128 ≤ n) (h2 : n ≤ 127) : strconv_Itoa.f n = some (dig n) := by
  unfold strconv_Itoa.f dig
  rw [if_pos (by omega), if_pos (by omega)]
theorem digits_up (k : Nat) (hk : 12 ≤ k) (n : Int) (h1 : -128 ≤ n) (h2 : n ≤ 127) : spec_l7Digits.f k n = some (dig n) := by
  have h := (digits n h1 h2).1
  exact at_rounds (fun k => spec_l7Digits.mono n k) hk h

def w32 (op r a b n : Int) : Int := wrap64 ((wrap64 ((wrap64 ((wrap64 (op + (wrap64 (16 * r)))) + (wrap64 (128 * a)))) + (wrap64 (1024 * b)))) + (wrap64 (8192 * (wrap64 (n + 128)))))
def word32M (op r a b n : Int) : Int × Bool := if insM op r a b n = true then (w32 op r a b n, true) else (0, false)
theorem bits_and_raw (n m : Int) (p : Nat) (hm : (BitVec.ofInt 64 m).toNat = 2 ^ p - 1) :
    bits .and .i64 n m = wrap64 (((n % ((2 ^ 64 : Nat) : Int)).toNat % 2 ^ p : Nat) : Int) := by
  have key : (BitVec.ofInt 64 n &&& BitVec.ofInt 64 m).toNat = (n % ((2 ^ 64 : Nat) : Int)).toNat % 2 ^ p := by
    rw [BitVec.toNat_and, BitVec.toNat_ofInt, hm, Nat.and_two_pow_sub_one_eq_mod]
  show IntKind.i64.wrap ((BitVec.ofInt 64 n &&& BitVec.ofInt 64 m).toNat : Nat) = _
  rw [key, wrap_i64']
theorem and_255 (n : Int) : bits .and .i64 n 255 = n % 256 := by rw [bits_and_raw n 255 8 (by decide)]; unfold wrap64; omega
theorem and_65535 (n : Int) : bits .and .i64 n 65535 = n % 65536 := by rw [bits_and_raw n 65535 16 (by decide)]; unfold wrap64; omega
theorem and_63 (n : Int) : bits .and .i64 n 63 = n % 64 := by rw [bits_and_raw n 63 6 (by decide)]; unfold wrap64; omega
theorem and_15 (n : Int) : bits .and .i64 n 15 = n % 16 := by rw [bits_and_raw n 15 4 (by decide)]; unfold wrap64; omega
theorem and_7 (n : Int) : bits .and .i64 n 7 = n % 8 := by rw [bits_and_raw n 7 3 (by decide)]; unfold wrap64; omega

theorem wf64 {n : Int} (h : (Lit.int .i64 n).wf = true) : -9223372036854775808 ≤ n ∧ n ≤ 9223372036854775807 := by
  simp only [Lit.wf, Bool.and_eq_true, decide_eq_true_eq] at h
  exact h

theorem eqIns_same (a b c d e : Int) : laws_eqIns.f a b c d e a b c d e = some true := by unfold laws_eqIns.f; simp

theorem insM_n {op r a b n : Int} (h : insM op r a b n = true) : -128 ≤ n ∧ n ≤ 127 := by
  unfold insM nM at h; simp only [Bool.and_eq_true, decide_eq_true_eq] at h; exact h.2.2.2.2.1
def insOfM (n : Int) : Int × Int × Int × Int × Int × Bool :=
  if n < 0 then (0, 0, 0, 0, 0, false) else if insM (n % 16) (n / 16 % 8) (n / 128 % 8) (n / 1024 % 8) (n / 8192 - 128) = true then
    (if w32 (n % 16) (n / 16 % 8) (n / 128 % 8) (n / 1024 % 8) (n / 8192 - 128) = n then (n % 16, n / 16 % 8, n / 128 % 8, n / 1024 % 8, n / 8192 - 128, true) else (0, 0, 0, 0, 0, false)) else (0, 0, 0, 0, 0, false)
def namesM : List ByteArray := [(⟨#[]⟩ : ByteArray), (⟨#[115, 101, 116]⟩ : ByteArray), (⟨#[97, 100, 100]⟩ : ByteArray), (⟨#[109, 111, 118, 101]⟩ : ByteArray), (⟨#[119, 101, 97, 107]⟩ : ByteArray), (⟨#[98, 111, 117, 110, 100]⟩ : ByteArray), (⟨#[112, 111, 105, 110, 116]⟩ : ByteArray), (⟨#[115, 101, 97, 108]⟩ : ByteArray), (⟨#[111, 112, 101, 110]⟩ : ByteArray), (⟨#[105, 115]⟩ : ByteArray), (⟨#[108, 111, 97, 100]⟩ : ByteArray), (⟨#[115, 116, 111, 114, 101]⟩ : ByteArray), (⟨#[106, 117, 109, 112]⟩ : ByteArray), (⟨#[122, 101, 114, 111]⟩ : ByteArray), (⟨#[103, 111, 110, 101]⟩ : ByteArray), (⟨#[104, 97, 108, 116]⟩ : ByteArray)]
theorem names_i : impl_opNames.f = some namesM := rfl
theorem names_s : spec_l7Names.f = some namesM := rfl
theorem name_size (op : Int) (h1 : 1 ≤ op) (h2 : op ≤ 15) : (rdOf ByteArray.empty namesM op).size ≤ 5 := by
  rcases op_cases op with rfl | rfl | rfl | rfl | rfl | rfl | rfl | rfl | rfl | rfl | rfl | rfl | rfl | rfl | rfl | h
  all_goals first | exact absurd ⟨h1, h2⟩ h | decide
def addR (x : ByteArray) (v : Int) : ByteArray := (x ++ (⟨#[32, 114]⟩ : ByteArray)) ++ dig v
def addN (x : ByteArray) (v : Int) : ByteArray := (x ++ (⟨#[32]⟩ : ByteArray)) ++ dig v
theorem two_size : (⟨#[32, 114]⟩ : ByteArray).size = 2 := rfl
theorem one_size (c : UInt8) : (⟨#[c]⟩ : ByteArray).size = 1 := rfl
theorem addR_size {x : ByteArray} {v : Int} {c : Nat} (hx : x.size ≤ c) (h : -128 ≤ v ∧ v ≤ 127) : (addR x v).size ≤ c + 6 := by
  have := (digits v h.1 h.2).2
  unfold addR
  rw [ByteArray.size_append, ByteArray.size_append, two_size]
  omega
theorem addN_size {x : ByteArray} {v : Int} {c : Nat} (hx : x.size ≤ c) (h : -128 ≤ v ∧ v ≤ 127) : (addN x v).size ≤ c + 6 := by
  have := (digits v h.1 h.2).2
  unfold addN
  rw [ByteArray.size_append, ByteArray.size_append, one_size]
  omega
theorem two_words (x : ByteArray) : (x ++ (⟨#[32]⟩ : ByteArray)) ++ (⟨#[114]⟩ : ByteArray) = x ++ (⟨#[32, 114]⟩ : ByteArray) := by
  rw [ByteArray.append_assoc]; rfl
def textM (op r a b n : Int) : ByteArray :=
  let x0 := rdOf ByteArray.empty namesM op
  let x1 := if hR op then addR x0 r else x0
  let x2 := if hA op then addR x1 a else x1
  let x3 := if hB op then addR x2 b else x2
  if hN op then addN x3 n else x3
theorem im_step (k : Nat) (fm x : ByteArray) (i i' op r a b n q v : Int) (c : Nat) (hi : 0 ≤ i) (h2 : i < (fm.size : Int)) (hw : wrap64 (i + 1) = i') (hq : rd (bytesOf fm) i = q) (hne : q ≠ 78) (hp : impl_partOf.f op r a b n q = some v) (hv : -128 ≤ v ∧ v ≤ 127) (hx : x.size ≤ c) (hc : c ≤ 1000) :
    impl_InsText.l0 (k + 1) fm x i op r a b n = impl_InsText.l0 k fm (addR x v) i' op r a b n := by
  simp only [impl_InsText.l0]
  have hd := (digits v hv.1 hv.2).2
  rw [if_pos h2, if_pos hi, hq, hp, hw]
  simp only [Option.bind_some]
  rw [itoa_eq v hv.1 hv.2]
  simp only [Option.bind_some]
  rw [if_neg hne, if_pos (by omega), if_pos (by rw [ByteArray.size_append, one_size]; omega), if_pos (by rw [ByteArray.size_append, ByteArray.size_append, one_size, one_size]; omega), two_words]
  rfl
theorem im_stepN (k : Nat) (fm x : ByteArray) (i i' op r a b n v : Int) (c : Nat) (hi : 0 ≤ i) (h2 : i < (fm.size : Int)) (hw : wrap64 (i + 1) = i') (hq : rd (bytesOf fm) i = 78) (hp : impl_partOf.f op r a b n 78 = some v) (hv : -128 ≤ v ∧ v ≤ 127) (hx : x.size ≤ c) (hc : c ≤ 1000) :
    impl_InsText.l0 (k + 1) fm x i op r a b n = impl_InsText.l0 k fm (addN x v) i' op r a b n := by
  simp only [impl_InsText.l0]
  have hd := (digits v hv.1 hv.2).2
  rw [if_pos h2, if_pos hi, hq, hp, hw]
  simp only [Option.bind_some]
  rw [itoa_eq v hv.1 hv.2]
  simp only [Option.bind_some]
  rw [if_pos trivial, if_pos (by omega), if_pos (by rw [ByteArray.size_append, one_size]; omega)]
  rfl
theorem im_end (k : Nat) (fm x : ByteArray) (i op r a b n : Int) (h : ¬ i < (fm.size : Int)) : impl_InsText.l0 (k + 1) fm x i op r a b n = some x := by
  simp only [impl_InsText.l0]
  rw [if_neg h]
theorem form_of (k : Nat) (hk : 12 ≤ k) (op : Int) (s : ByteArray) (h : impl_formOf.f 12 op = some (s, true)) : impl_formOf.f k op = some (s, true) := at_rounds (fun k => impl_formOf.mono op k) hk h
theorem insM_parts {op r a b n : Int} (h : insM op r a b n = true) : (1 ≤ op ∧ op ≤ 15) ∧ (-128 ≤ r ∧ r ≤ 127) ∧ (-128 ≤ a ∧ a ≤ 127) ∧ (-128 ≤ b ∧ b ≤ 127) ∧ (-128 ≤ n ∧ n ≤ 127) := by
  have hn := insM_n h
  unfold insM at h
  simp only [Bool.and_eq_true] at h
  obtain ⟨h1, h2, h3, h4, _⟩ := h
  have g : ∀ x t, fM x t = true → (-128 ≤ x ∧ x ≤ 127) := by
    intro x t hx
    unfold fM at hx
    simp only [Bool.and_eq_true, decide_eq_true_eq] at hx
    omega
  refine ⟨?_, g r _ h2, g a _ h3, g b _ h4, hn⟩
  rcases op_cases op with rfl | rfl | rfl | rfl | rfl | rfl | rfl | rfl | rfl | rfl | rfl | rfl | rfl | rfl | rfl | h
  all_goals first | omega | skip
  unfold hOp at h1
  simp at h1
  omega
set_option maxHeartbeats 1000000 in
theorem impl_text (k : Nat) (op r a b n : Int) (h : insM op r a b n = true) : impl_InsText.f (k + 24) op r a b n = some (textM op r a b n) := by
  obtain ⟨ho, hr, ha, hb, hn⟩ := insM_parts h
  unfold impl_InsText.f
  rw [impl_InsOk_eq _ _ _ _ _ _ (by omega), h]
  simp only [Option.bind_some, if_true]
  rw [names_i]
  simp only [Option.bind_some]
  rw [if_pos (by omega), if_pos (by show op < ((16 : Nat) : Int); omega)]
  have hz := name_size op ho.1 ho.2
  have pR : ∀ op, impl_partOf.f op r a b n 82 = some r := fun op => by unfold impl_partOf.f; rfl
  have pA : ∀ op, impl_partOf.f op r a b n 65 = some a := fun op => by unfold impl_partOf.f; rfl
  have pB : ∀ op, impl_partOf.f op r a b n 66 = some b := fun op => by unfold impl_partOf.f; rfl
  have pN : ∀ op, impl_partOf.f op r a b n 78 = some n := fun op => by unfold impl_partOf.f; rfl
  generalize hx : rdOf ByteArray.empty namesM op = x at hz
  unfold textM
  rw [hx]
  have z1 := fun v (hv : -128 ≤ v ∧ v ≤ 127) => addR_size hz hv
  rcases op_cases op with rfl | rfl | rfl | rfl | rfl | rfl | rfl | rfl | rfl | rfl | rfl | rfl | rfl | rfl | rfl | h'
  · rw [form_of (k + 24) (by omega) 1 (⟨#[82, 78]⟩ : ByteArray) (by decide +kernel)]
    simp only [Option.bind_some]
    rw [if_pos (by show (2 : Nat) ≤ _; decide)]
    rw [im_step (k + 23) _ x 0 1 1 r a b n 82 r 5 (by decide) (by decide) (by unfold wrap64; omega) (by rfl) (by decide) (pR 1) hr (hz) (by decide)]
    rw [im_stepN (k + 22) _ (addR x r) 1 2 1 r a b n n 11 (by decide) (by decide) (by unfold wrap64; omega) (by rfl) (pN 1) hn (addR_size hz hr) (by decide)]
    rw [im_end (k + 21) _ _ 2 1 r a b n (by decide)]
    rfl
  · rw [form_of (k + 24) (by omega) 2 (⟨#[82, 65, 66]⟩ : ByteArray) (by decide +kernel)]
    simp only [Option.bind_some]
    rw [if_pos (by show (3 : Nat) ≤ _; decide)]
    rw [im_step (k + 23) _ x 0 1 2 r a b n 82 r 5 (by decide) (by decide) (by unfold wrap64; omega) (by rfl) (by decide) (pR 2) hr (hz) (by decide)]
    rw [im_step (k + 22) _ (addR x r) 1 2 2 r a b n 65 a 11 (by decide) (by decide) (by unfold wrap64; omega) (by rfl) (by decide) (pA 2) ha (addR_size hz hr) (by decide)]
    rw [im_step (k + 21) _ (addR (addR x r) a) 2 3 2 r a b n 66 b 17 (by decide) (by decide) (by unfold wrap64; omega) (by rfl) (by decide) (pB 2) hb (addR_size (addR_size hz hr) ha) (by decide)]
    rw [im_end (k + 20) _ _ 3 2 r a b n (by decide)]
    rfl
  · rw [form_of (k + 24) (by omega) 3 (⟨#[82, 65]⟩ : ByteArray) (by decide +kernel)]
    simp only [Option.bind_some]
    rw [if_pos (by show (2 : Nat) ≤ _; decide)]
    rw [im_step (k + 23) _ x 0 1 3 r a b n 82 r 5 (by decide) (by decide) (by unfold wrap64; omega) (by rfl) (by decide) (pR 3) hr (hz) (by decide)]
    rw [im_step (k + 22) _ (addR x r) 1 2 3 r a b n 65 a 11 (by decide) (by decide) (by unfold wrap64; omega) (by rfl) (by decide) (pA 3) ha (addR_size hz hr) (by decide)]
    rw [im_end (k + 21) _ _ 2 3 r a b n (by decide)]
    rfl
  · rw [form_of (k + 24) (by omega) 4 (⟨#[82, 65, 66]⟩ : ByteArray) (by decide +kernel)]
    simp only [Option.bind_some]
    rw [if_pos (by show (3 : Nat) ≤ _; decide)]
    rw [im_step (k + 23) _ x 0 1 4 r a b n 82 r 5 (by decide) (by decide) (by unfold wrap64; omega) (by rfl) (by decide) (pR 4) hr (hz) (by decide)]
    rw [im_step (k + 22) _ (addR x r) 1 2 4 r a b n 65 a 11 (by decide) (by decide) (by unfold wrap64; omega) (by rfl) (by decide) (pA 4) ha (addR_size hz hr) (by decide)]
    rw [im_step (k + 21) _ (addR (addR x r) a) 2 3 4 r a b n 66 b 17 (by decide) (by decide) (by unfold wrap64; omega) (by rfl) (by decide) (pB 4) hb (addR_size (addR_size hz hr) ha) (by decide)]
    rw [im_end (k + 20) _ _ 3 4 r a b n (by decide)]
    rfl
  · rw [form_of (k + 24) (by omega) 5 (⟨#[82, 65, 66]⟩ : ByteArray) (by decide +kernel)]
    simp only [Option.bind_some]
    rw [if_pos (by show (3 : Nat) ≤ _; decide)]
    rw [im_step (k + 23) _ x 0 1 5 r a b n 82 r 5 (by decide) (by decide) (by unfold wrap64; omega) (by rfl) (by decide) (pR 5) hr (hz) (by decide)]
    rw [im_step (k + 22) _ (addR x r) 1 2 5 r a b n 65 a 11 (by decide) (by decide) (by unfold wrap64; omega) (by rfl) (by decide) (pA 5) ha (addR_size hz hr) (by decide)]
    rw [im_step (k + 21) _ (addR (addR x r) a) 2 3 5 r a b n 66 b 17 (by decide) (by decide) (by unfold wrap64; omega) (by rfl) (by decide) (pB 5) hb (addR_size (addR_size hz hr) ha) (by decide)]
    rw [im_end (k + 20) _ _ 3 5 r a b n (by decide)]
    rfl
  · rw [form_of (k + 24) (by omega) 6 (⟨#[82, 65, 66, 78]⟩ : ByteArray) (by decide +kernel)]
    simp only [Option.bind_some]
    rw [if_pos (by show (4 : Nat) ≤ _; decide)]
    rw [im_step (k + 23) _ x 0 1 6 r a b n 82 r 5 (by decide) (by decide) (by unfold wrap64; omega) (by rfl) (by decide) (pR 6) hr (hz) (by decide)]
    rw [im_step (k + 22) _ (addR x r) 1 2 6 r a b n 65 a 11 (by decide) (by decide) (by unfold wrap64; omega) (by rfl) (by decide) (pA 6) ha (addR_size hz hr) (by decide)]
    rw [im_step (k + 21) _ (addR (addR x r) a) 2 3 6 r a b n 66 b 17 (by decide) (by decide) (by unfold wrap64; omega) (by rfl) (by decide) (pB 6) hb (addR_size (addR_size hz hr) ha) (by decide)]
    rw [im_stepN (k + 20) _ (addR (addR (addR x r) a) b) 3 4 6 r a b n n 23 (by decide) (by decide) (by unfold wrap64; omega) (by rfl) (pN 6) hn (addR_size (addR_size (addR_size hz hr) ha) hb) (by decide)]
    rw [im_end (k + 19) _ _ 4 6 r a b n (by decide)]
    rfl
  · rw [form_of (k + 24) (by omega) 7 (⟨#[82, 65, 66]⟩ : ByteArray) (by decide +kernel)]
    simp only [Option.bind_some]
    rw [if_pos (by show (3 : Nat) ≤ _; decide)]
    rw [im_step (k + 23) _ x 0 1 7 r a b n 82 r 5 (by decide) (by decide) (by unfold wrap64; omega) (by rfl) (by decide) (pR 7) hr (hz) (by decide)]
    rw [im_step (k + 22) _ (addR x r) 1 2 7 r a b n 65 a 11 (by decide) (by decide) (by unfold wrap64; omega) (by rfl) (by decide) (pA 7) ha (addR_size hz hr) (by decide)]
    rw [im_step (k + 21) _ (addR (addR x r) a) 2 3 7 r a b n 66 b 17 (by decide) (by decide) (by unfold wrap64; omega) (by rfl) (by decide) (pB 7) hb (addR_size (addR_size hz hr) ha) (by decide)]
    rw [im_end (k + 20) _ _ 3 7 r a b n (by decide)]
    rfl
  · rw [form_of (k + 24) (by omega) 8 (⟨#[82, 65, 66]⟩ : ByteArray) (by decide +kernel)]
    simp only [Option.bind_some]
    rw [if_pos (by show (3 : Nat) ≤ _; decide)]
    rw [im_step (k + 23) _ x 0 1 8 r a b n 82 r 5 (by decide) (by decide) (by unfold wrap64; omega) (by rfl) (by decide) (pR 8) hr (hz) (by decide)]
    rw [im_step (k + 22) _ (addR x r) 1 2 8 r a b n 65 a 11 (by decide) (by decide) (by unfold wrap64; omega) (by rfl) (by decide) (pA 8) ha (addR_size hz hr) (by decide)]
    rw [im_step (k + 21) _ (addR (addR x r) a) 2 3 8 r a b n 66 b 17 (by decide) (by decide) (by unfold wrap64; omega) (by rfl) (by decide) (pB 8) hb (addR_size (addR_size hz hr) ha) (by decide)]
    rw [im_end (k + 20) _ _ 3 8 r a b n (by decide)]
    rfl
  · rw [form_of (k + 24) (by omega) 9 (⟨#[82, 65]⟩ : ByteArray) (by decide +kernel)]
    simp only [Option.bind_some]
    rw [if_pos (by show (2 : Nat) ≤ _; decide)]
    rw [im_step (k + 23) _ x 0 1 9 r a b n 82 r 5 (by decide) (by decide) (by unfold wrap64; omega) (by rfl) (by decide) (pR 9) hr (hz) (by decide)]
    rw [im_step (k + 22) _ (addR x r) 1 2 9 r a b n 65 a 11 (by decide) (by decide) (by unfold wrap64; omega) (by rfl) (by decide) (pA 9) ha (addR_size hz hr) (by decide)]
    rw [im_end (k + 21) _ _ 2 9 r a b n (by decide)]
    rfl
  · rw [form_of (k + 24) (by omega) 10 (⟨#[82, 65, 78]⟩ : ByteArray) (by decide +kernel)]
    simp only [Option.bind_some]
    rw [if_pos (by show (3 : Nat) ≤ _; decide)]
    rw [im_step (k + 23) _ x 0 1 10 r a b n 82 r 5 (by decide) (by decide) (by unfold wrap64; omega) (by rfl) (by decide) (pR 10) hr (hz) (by decide)]
    rw [im_step (k + 22) _ (addR x r) 1 2 10 r a b n 65 a 11 (by decide) (by decide) (by unfold wrap64; omega) (by rfl) (by decide) (pA 10) ha (addR_size hz hr) (by decide)]
    rw [im_stepN (k + 21) _ (addR (addR x r) a) 2 3 10 r a b n n 17 (by decide) (by decide) (by unfold wrap64; omega) (by rfl) (pN 10) hn (addR_size (addR_size hz hr) ha) (by decide)]
    rw [im_end (k + 20) _ _ 3 10 r a b n (by decide)]
    rfl
  · rw [form_of (k + 24) (by omega) 11 (⟨#[65, 66, 78]⟩ : ByteArray) (by decide +kernel)]
    simp only [Option.bind_some]
    rw [if_pos (by show (3 : Nat) ≤ _; decide)]
    rw [im_step (k + 23) _ x 0 1 11 r a b n 65 a 5 (by decide) (by decide) (by unfold wrap64; omega) (by rfl) (by decide) (pA 11) ha (hz) (by decide)]
    rw [im_step (k + 22) _ (addR x a) 1 2 11 r a b n 66 b 11 (by decide) (by decide) (by unfold wrap64; omega) (by rfl) (by decide) (pB 11) hb (addR_size hz ha) (by decide)]
    rw [im_stepN (k + 21) _ (addR (addR x a) b) 2 3 11 r a b n n 17 (by decide) (by decide) (by unfold wrap64; omega) (by rfl) (pN 11) hn (addR_size (addR_size hz ha) hb) (by decide)]
    rw [im_end (k + 20) _ _ 3 11 r a b n (by decide)]
    rfl
  · rw [form_of (k + 24) (by omega) 12 (⟨#[82, 65]⟩ : ByteArray) (by decide +kernel)]
    simp only [Option.bind_some]
    rw [if_pos (by show (2 : Nat) ≤ _; decide)]
    rw [im_step (k + 23) _ x 0 1 12 r a b n 82 r 5 (by decide) (by decide) (by unfold wrap64; omega) (by rfl) (by decide) (pR 12) hr (hz) (by decide)]
    rw [im_step (k + 22) _ (addR x r) 1 2 12 r a b n 65 a 11 (by decide) (by decide) (by unfold wrap64; omega) (by rfl) (by decide) (pA 12) ha (addR_size hz hr) (by decide)]
    rw [im_end (k + 21) _ _ 2 12 r a b n (by decide)]
    rfl
  · rw [form_of (k + 24) (by omega) 13 (⟨#[65, 78]⟩ : ByteArray) (by decide +kernel)]
    simp only [Option.bind_some]
    rw [if_pos (by show (2 : Nat) ≤ _; decide)]
    rw [im_step (k + 23) _ x 0 1 13 r a b n 65 a 5 (by decide) (by decide) (by unfold wrap64; omega) (by rfl) (by decide) (pA 13) ha (hz) (by decide)]
    rw [im_stepN (k + 22) _ (addR x a) 1 2 13 r a b n n 11 (by decide) (by decide) (by unfold wrap64; omega) (by rfl) (pN 13) hn (addR_size hz ha) (by decide)]
    rw [im_end (k + 21) _ _ 2 13 r a b n (by decide)]
    rfl
  · rw [form_of (k + 24) (by omega) 14 (⟨#[65]⟩ : ByteArray) (by decide +kernel)]
    simp only [Option.bind_some]
    rw [if_pos (by show (1 : Nat) ≤ _; decide)]
    rw [im_step (k + 23) _ x 0 1 14 r a b n 65 a 5 (by decide) (by decide) (by unfold wrap64; omega) (by rfl) (by decide) (pA 14) ha (hz) (by decide)]
    rw [im_end (k + 22) _ _ 1 14 r a b n (by decide)]
    rfl
  · rw [form_of (k + 24) (by omega) 15 (⟨#[]⟩ : ByteArray) (by decide +kernel)]
    simp only [Option.bind_some]
    rw [if_pos (by show (0 : Nat) ≤ _; decide)]
    rw [im_end (k + 23) _ _ 0 15 r a b n (by decide)]
    rfl
  · exact absurd ho h'
theorem spec_text (k : Nat) (op r a b n : Int) (h : insM op r a b n = true) : spec_InsText.f (k + 24) op r a b n = some (textM op r a b n) := by
  obtain ⟨ho, hr, ha, hb, hn⟩ := insM_parts h
  obtain ⟨t, e, b1, b2, b4, b8⟩ := has_bits4 op
  have hz := name_size op ho.1 ho.2
  have dg : ∀ k v, -128 ≤ v ∧ v ≤ 127 → spec_l7Digits.f (k + 12) v = some (dig v) := fun k v hv => digits_up (k + 12) (by omega) v hv.1 hv.2
  have sz : ∀ v, -128 ≤ v ∧ v ≤ 127 → (dig v).size ≤ 4 := fun v hv => (digits v hv.1 hv.2).2
  have sr := sz r hr
  have sa := sz a ha
  have sb := sz b hb
  have sn := sz n hn
  unfold spec_InsText.f
  rw [spec_InsOk_eq, h]
  simp only [Option.bind_some, if_true]
  rw [e, names_s]
  simp only [Option.bind_some]
  rw [if_pos (by omega), if_pos (by show op < ((16 : Nat) : Int); omega)]
  generalize hx : rdOf ByteArray.empty namesM op = x at hz
  unfold textM
  rw [hx]
  have J1 : ∀ (k : Nat) (x : ByteArray), x.size ≤ 100 → spec_InsText.j1 (k + 13) t x op r a b n = some (let x3 := if hB op then addR x b else x; if hN op then addN x3 n else x3) := by
    intro k x hx
    simp only [spec_InsText.j1]
    have N1 : ∀ y : ByteArray, y.size ≤ 200 → ((if (bits .and .i64 t 8) = 0 then some y else (if y.size + 1 ≤ 9223372036854775807 then ((spec_l7Digits.f (k + 12) n).bind fun bl => (if (y ++ (⟨#[32]⟩ : ByteArray)).size + bl.size ≤ 9223372036854775807 then (some ((y ++ (⟨#[32]⟩ : ByteArray)) ++ bl)) else none)) else none)) : Option ByteArray) = some (if hN op then addN y n else y) := by
      intro y hy
      by_cases c : (bits .and .i64 t 8) = 0
      · rw [if_pos c, b8.mp c]; rfl
      · have : hN op = true := by
          cases hh : hN op with
          | true => rfl
          | false => exact absurd (b8.mpr hh) c
        rw [if_neg c, this, if_pos (by omega), dg k n hn]
        simp only [Option.bind_some, if_true]
        rw [if_pos (by rw [ByteArray.size_append, one_size]; omega)]
        rfl
    cases hb' : hB op with
    | false =>
      rw [hb'] at b4
      have c : (bits .and .i64 t 4) = 0 := by simpa using b4
      rw [if_pos c]
      have := N1 x (by omega)
      simpa using this
    | true =>
      rw [hb'] at b4
      have c : ¬ (bits .and .i64 t 4) = 0 := by simpa using b4
      rw [if_neg c, if_pos (by omega), dg k b hb]
      simp only [Option.bind_some]
      rw [if_pos (by rw [ByteArray.size_append, two_size]; omega)]
      have := N1 (addR x b) (by have := addR_size hx hb; omega)
      simpa [addR] using this
  have J0 : ∀ (k : Nat) (x : ByteArray), x.size ≤ 50 → spec_InsText.j0 (k + 14) t x op r a b n = some (let x2 := if hA op then addR x a else x; let x3 := if hB op then addR x2 b else x2; if hN op then addN x3 n else x3) := by
    intro k x hx
    simp only [spec_InsText.j0]
    cases ha' : hA op with
    | false =>
      rw [ha'] at b2
      have c : (bits .and .i64 t 2) = 0 := by simpa using b2
      rw [if_pos c, J1 k x (by omega)]
      simp
    | true =>
      rw [ha'] at b2
      have c : ¬ (bits .and .i64 t 2) = 0 := by simpa using b2
      rw [if_neg c, if_pos (by omega), dg (k + 1) a ha]
      simp only [Option.bind_some]
      rw [if_pos (by rw [ByteArray.size_append, two_size]; omega)]
      have := J1 k (addR x a) (by have := addR_size hx ha; omega)
      simpa [addR] using this
  cases hr' : hR op with
  | false =>
    rw [hr'] at b1
    have c : (bits .and .i64 t 1) = 0 := by simpa using b1
    rw [if_pos c, J0 (k + 10) x (by omega)]
    simp
  | true =>
    rw [hr'] at b1
    have c : ¬ (bits .and .i64 t 1) = 0 := by simpa using b1
    rw [if_neg c, if_pos (by omega), dg (k + 12) r hr]
    simp only [Option.bind_some]
    rw [if_pos (by rw [ByteArray.size_append, two_size]; omega)]
    have := J0 (k + 10) (addR x r) (by have := addR_size hz hr; omega)
    simpa [addR] using this

def insT (x : S25) : Bool := insM x.f0 x.f1 x.f2 x.f3 x.f4

theorem drop_rdI (l : List S25) (i : Int) (h0 : 0 ≤ i) (h : i < (l.length : Int)) : l.drop i.toNat = rd_T25 l i :: l.drop (i + 1).toNat := by
  rw [List.drop_eq_getElem_cons (by omega), show (i + 1).toNat = i.toNat + 1 by omega]
  congr 1
  unfold rd_T25
  rw [List.getD_eq_getElem?_getD, List.getElem?_eq_getElem (by omega)]; rfl
theorem drop_endI (l : List S25) (i : Int) (h : ¬ i < (l.length : Int)) : l.drop i.toNat = [] := List.drop_eq_nil_of_le (by omega)
theorem cfC_rounds (l : List S25) (hl : l.length ≤ 2000000) (d : Nat) : ∀ (k : Nat) (i : Int), 0 ≤ i → (l.length : Int) - i = d → d + 21 < k → ∃ r, CF_impl_CodeOk_1.l0 k l i = some r ∧ decide (0 ≤ r) = !((l.drop i.toNat).all insT) := by
  induction d with
  | zero =>
    intro k i h0 hd hk
    obtain ⟨k, rfl⟩ : ∃ m, k = m + 1 := ⟨k - 1, by omega⟩
    simp only [CF_impl_CodeOk_1.l0]; rw [if_neg (by omega), drop_endI l i (by omega)]; exact ⟨_, rfl, rfl⟩
  | succ d ih =>
    intro k i h0 hd hk
    obtain ⟨k, rfl⟩ : ∃ m, k = m + 1 := ⟨k - 1, by omega⟩
    simp only [CF_impl_CodeOk_1.l0]; rw [if_pos (by omega), if_pos h0]
    unfold impl_CodeOk_1.f
    rw [impl_InsOk_eq _ _ _ _ _ _ (by omega), drop_rdI l i h0 (by omega)]; simp only [Option.bind_some, List.all_cons]
    rw [show insM (rd_T25 l i).f0 (rd_T25 l i).f1 (rd_T25 l i).f2 (rd_T25 l i).f3 (rd_T25 l i).f4 = insT (rd_T25 l i) from rfl]
    cases insT (rd_T25 l i) with
    | false => exact ⟨i, by simp, by simp [h0]⟩
    | true =>
      obtain ⟨r, e, p⟩ := ih k (i + 1) (by omega) (by omega) (by omega)
      refine ⟨r, ?_, by simpa using p⟩
      simp only [Bool.not_true, Bool.false_eq_true, if_false]
      rw [show wrap64 (i + 1) = i + 1 from wrap_in (by omega) (by omega)]; exact e
def codeM (l : List S25) : Bool := decide (1 ≤ l.length ∧ l.length ≤ 48) && l.all insT
theorem impl_CodeOk_eq (k : Nat) (l : List S25) (hl : l.length ≤ 2000000) (hk : l.length + 21 < k) : impl_CodeOk.f k l = some (codeM l) := by
  obtain ⟨r, e, p⟩ := cfC_rounds l hl l.length k 0 (by omega) (by omega) hk
  unfold impl_CodeOk.f codeM
  rw [impl_in_eq]; simp only [Option.bind_some]
  by_cases h : 1 ≤ l.length ∧ l.length ≤ 48
  · rw [if_pos (by simp; omega)]
    unfold CF_impl_CodeOk_1.f
    rw [e]; simp only [Option.bind_some, ge_iff_le, p]
    simp [h]
  · rw [if_neg (by simp; omega)]; simp [h]
theorem spC_rounds (l : List S25) (hl : l.length ≤ 2000000) (d : Nat) : ∀ (k : Nat) (i : Int), 0 ≤ i → (l.length : Int) - i = d → d < k → spec_CodeOk.l0 k l i = some ((l.drop i.toNat).all insT && decide (1 ≤ l.length ∧ l.length ≤ 48)) := by
  induction d with
  | zero =>
    intro k i h0 hd hk
    obtain ⟨k, rfl⟩ : ∃ m, k = m + 1 := ⟨k - 1, by omega⟩
    simp only [spec_CodeOk.l0]; rw [if_neg (by omega), drop_endI l i (by omega), spec_in_eq]; simp only [Option.bind_some, List.all_nil, Bool.true_and]
    congr 1; rw [decide_eq_decide]; omega
  | succ d ih =>
    intro k i h0 hd hk
    obtain ⟨k, rfl⟩ : ∃ m, k = m + 1 := ⟨k - 1, by omega⟩
    simp only [spec_CodeOk.l0]; rw [if_pos (by omega), if_pos h0]
    rw [spec_InsOk_eq, drop_rdI l i h0 (by omega)]; simp only [Option.bind_some, List.all_cons]
    rw [show insM (rd_T25 l i).f0 (rd_T25 l i).f1 (rd_T25 l i).f2 (rd_T25 l i).f3 (rd_T25 l i).f4 = insT (rd_T25 l i) from rfl]
    cases insT (rd_T25 l i) with
    | false => simp
    | true =>
      simp only [if_true, Bool.true_and]
      rw [show wrap64 (i + 1) = i + 1 from wrap_in (by omega) (by omega)]; exact ih k (i + 1) (by omega) (by omega) (by omega)
theorem spec_CodeOk_eq (k : Nat) (l : List S25) (hl : l.length ≤ 2000000) (hk : l.length < k) : spec_CodeOk.f k l = some (codeM l) := by
  unfold spec_CodeOk.f codeM
  rw [spC_rounds l hl l.length k 0 (by omega) (by omega) hk]
  simp [Bool.and_comm]

theorem ifR {x : ByteArray} {c : Nat} {v : Int} (t : Bool) (hx : x.size ≤ c) (h : -128 ≤ v ∧ v ≤ 127) : (if t then addR x v else x).size ≤ c + 6 := by
  cases t with
  | true => exact addR_size hx h
  | false => exact Nat.le_trans hx (Nat.le_add_right _ _)
theorem ifN {x : ByteArray} {c : Nat} {v : Int} (t : Bool) (hx : x.size ≤ c) (h : -128 ≤ v ∧ v ≤ 127) : (if t then addN x v else x).size ≤ c + 6 := by
  cases t with
  | true => exact addN_size hx h
  | false => exact Nat.le_trans hx (Nat.le_add_right _ _)
theorem textM_size {op r a b n : Int} (h : insM op r a b n = true) : (textM op r a b n).size ≤ 29 := by
  obtain ⟨ho, hr, ha, hb, hn⟩ := insM_parts h
  have := ifN (hN op) (ifR (hB op) (ifR (hA op) (ifR (hR op) (name_size op ho.1 ho.2) hr) ha) hb) hn
  exact this
def textT (x : S25) : ByteArray := textM x.f0 x.f1 x.f2 x.f3 x.f4
def linesM : ByteArray → List S25 → ByteArray
  | x, [] => x
  | x, p :: ps => linesM ((x ++ textT p) ++ (⟨#[10]⟩ : ByteArray)) ps
theorem spec_text' (k : Nat) (hk : 24 ≤ k) (x : S25) (h : insT x = true) : spec_InsText.f k x.f0 x.f1 x.f2 x.f3 x.f4 = some (textT x) := by
  obtain ⟨k, rfl⟩ : ∃ m, k = m + 24 := ⟨k - 24, by omega⟩
  exact spec_text k _ _ _ _ _ h
theorem impl_text' (k : Nat) (hk : 24 ≤ k) (x : S25) (h : insT x = true) : impl_InsText.f k x.f0 x.f1 x.f2 x.f3 x.f4 = some (textT x) := by
  obtain ⟨k, rfl⟩ : ∃ m, k = m + 24 := ⟨k - 24, by omega⟩
  exact impl_text k _ _ _ _ _ h
theorem codeM_parts {l : List S25} (h : codeM l = true) : (1 ≤ l.length ∧ l.length ≤ 48) ∧ l.all insT = true := by
  unfold codeM at h
  simpa using h
theorem all_drop {l : List S25} (h : l.all insT = true) (i : Int) (h0 : 0 ≤ i) (h1 : i < (l.length : Int)) : insT (rd_T25 l i) = true := by
  have h2 := drop_rdI l i h0 h1
  refine List.all_eq_true.mp h _ (List.mem_of_mem_drop (i := i.toNat) ?_)
  rw [h2]
  exact List.mem_cons_self
theorem line_size {x : ByteArray} {p : S25} {c : Nat} (hx : x.size ≤ c) (h : insT p = true) : ((x ++ textT p) ++ (⟨#[10]⟩ : ByteArray)).size ≤ c + 30 := by
  have := textM_size h
  rw [ByteArray.size_append, ByteArray.size_append, one_size]
  have e : (textT p).size = (textM p.f0 p.f1 p.f2 p.f3 p.f4).size := rfl
  omega
theorem spT_rounds (l : List S25) (hl : codeM l = true) (d : Nat) : ∀ (k : Nat) (x : ByteArray) (i : Int), 0 ≤ i → (l.length : Int) - i = d → d + 80 < k → x.size ≤ 3000 - 30 * d → spec_CodeText.l0 k l x i = some (linesM x (l.drop i.toNat)) := by
  obtain ⟨hn, ha⟩ := codeM_parts hl
  induction d with
  | zero =>
    intro k x i h0 hd hk hx
    obtain ⟨k, rfl⟩ : ∃ m, k = m + 1 := ⟨k - 1, by omega⟩
    simp only [spec_CodeText.l0]; rw [if_neg (by omega), drop_endI l i (by omega)]; rfl
  | succ d ih =>
    intro k x i h0 hd hk hx
    obtain ⟨k, rfl⟩ : ∃ m, k = m + 1 := ⟨k - 1, by omega⟩
    have hi := all_drop ha i h0 (by omega)
    have hz := textM_size hi
    have e : (textT (rd_T25 l i)).size ≤ 29 := hz
    have hx2 := line_size hx hi
    simp only [spec_CodeText.l0]; rw [if_pos (by omega), spec_CodeOk_eq k l (by omega) (by omega), hl]; simp only [Option.bind_some, if_true]
    rw [if_pos h0, spec_text' k (by omega) _ hi]; simp only [Option.bind_some]
    rw [if_pos (by omega), if_pos (by rw [ByteArray.size_append]; omega), show wrap64 (i + 1) = i + 1 from wrap_in (by omega) (by omega), ih k _ (i + 1) (by omega) (by omega) (by omega) (by omega), drop_rdI l i h0 (by omega)]
    rfl
theorem imT_rounds (l : List S25) (hl : codeM l = true) (d : Nat) : ∀ (k : Nat) (x : ByteArray) (i : Int), 0 ≤ i → (l.length : Int) - i = d → d + 80 < k → x.size ≤ 3000 - 30 * d → impl_CodeText.l0 k x l (l.length : Int) i = some (linesM x (l.drop i.toNat)) := by
  obtain ⟨hn, ha⟩ := codeM_parts hl
  induction d with
  | zero =>
    intro k x i h0 hd hk hx
    obtain ⟨k, rfl⟩ : ∃ m, k = m + 1 := ⟨k - 1, by omega⟩
    simp only [impl_CodeText.l0]; rw [if_neg (by omega), drop_endI l i (by omega)]; rfl
  | succ d ih =>
    intro k x i h0 hd hk hx
    obtain ⟨k, rfl⟩ : ∃ m, k = m + 1 := ⟨k - 1, by omega⟩
    have hi := all_drop ha i h0 (by omega)
    have hz := textM_size hi
    have e : (textT (rd_T25 l i)).size ≤ 29 := hz
    have hx2 := line_size hx hi
    simp only [impl_CodeText.l0]; rw [if_pos (by omega), if_pos h0, if_pos (by omega), impl_text' k (by omega) _ hi]; simp only [Option.bind_some]
    rw [if_pos (by omega), if_pos (by rw [ByteArray.size_append, one_size]; omega), show wrap64 (i + 1) = i + 1 from wrap_in (by omega) (by omega), ← ByteArray.append_assoc, ih k _ (i + 1) (by omega) (by omega) (by omega) (by omega), drop_rdI l i h0 (by omega)]
    rfl
def codeTextM (l : List S25) : ByteArray := if codeM l then linesM (⟨#[]⟩ : ByteArray) l else (⟨#[]⟩ : ByteArray)
theorem spec_CodeText_eq (k : Nat) (l : List S25) (hl : l.length ≤ 2000000) (hk : l.length + 130 < k) : spec_CodeText.f k l = some (codeTextM l) := by
  unfold spec_CodeText.f codeTextM
  cases h : codeM l with
  | true =>
    obtain ⟨hn, _⟩ := codeM_parts h
    rw [spT_rounds l h l.length k _ 0 (by omega) (by omega) (by omega) (by show 0 ≤ _; omega)]
    rfl
  | false =>
    obtain ⟨k, rfl⟩ : ∃ m, k = m + 1 := ⟨k - 1, by omega⟩
    simp only [spec_CodeText.l0]
    by_cases c : (0 : Int) < (l.length : Int)
    · rw [if_pos c, spec_CodeOk_eq k l hl (by omega), h]; simp
    · rw [if_neg c]; simp
theorem impl_CodeText_eq (k : Nat) (l : List S25) (hl : l.length ≤ 2000000) (hk : l.length + 130 < k) : impl_CodeText.f k l = some (codeTextM l) := by
  unfold impl_CodeText.f codeTextM
  rw [impl_CodeOk_eq k l hl (by omega)]; simp only [Option.bind_some]
  cases h : codeM l with
  | true =>
    obtain ⟨hn, _⟩ := codeM_parts h
    rw [if_pos rfl, imT_rounds l h l.length k _ 0 (by omega) (by omega) (by omega) (by show 0 ≤ _; omega)]
    rfl
  | false =>
    rw [if_neg (by decide)]; simp

theorem toIns_eq (a b c d e : Int) : laws_toIns.f a b c d e = some (a, b, c, d, e) := rfl

theorem toInsS_rounds (l : List S23) (hl : l.length ≤ 2000000) (d : Nat) : ∀ (k : Nat) (x : List S25) (i : Int), 0 ≤ i → x.length = l.length → (l.length : Int) - i = d → d < k → ∃ r, laws_toInsS.l0 k l x i = some r ∧ r.length = l.length := by
  induction d with
  | zero =>
    intro k x i h0 hx hd hk
    obtain ⟨k, rfl⟩ : ∃ m, k = m + 1 := ⟨k - 1, by omega⟩
    simp only [laws_toInsS.l0]; rw [if_neg (by omega)]; exact ⟨x, rfl, hx⟩
  | succ d ih =>
    intro k x i h0 hx hd hk
    obtain ⟨k, rfl⟩ : ∃ m, k = m + 1 := ⟨k - 1, by omega⟩
    simp only [laws_toInsS.l0]; rw [if_pos (by omega), if_pos h0]; simp only [toIns_eq, Option.bind_some]
    rw [if_pos (by omega), show wrap64 (i + 1) = i + 1 from wrap_in (by omega) (by omega)]
    exact ih k _ (i + 1) (by omega) (by simpa using hx) (by omega) (by omega)
theorem toInsS_all (l : List S23) (hl : l.length ≤ 1048576) : ∃ a, (∀ k, l.length < k → laws_toInsS.f k l = some a) ∧ a.length = l.length := by
  obtain ⟨a, e, ha⟩ : ∃ r, laws_toInsS.f (l.length + 1) l = some r ∧ r.length = l.length := by
    unfold laws_toInsS.f
    rw [if_pos (by omega), if_pos (by omega)]
    exact toInsS_rounds l (by omega) l.length _ _ 0 (by omega) (by simp) (by omega) (by omega)
  exact ⟨a, fun k h => at_rounds (fun k => laws_toInsS.mono l k) h e, ha⟩
theorem eqInsS_rounds (l : List S25) (hl : l.length ≤ 2000000) (d : Nat) : ∀ (k : Nat) (i : Int), 0 ≤ i → (l.length : Int) - i = d → d < k → laws_eqInsS.l0 k l l i = some true := by
  induction d with
  | zero =>
    intro k i h0 hd hk
    obtain ⟨k, rfl⟩ : ∃ m, k = m + 1 := ⟨k - 1, by omega⟩
    simp only [laws_eqInsS.l0]; rw [if_neg (by omega)]
  | succ d ih =>
    intro k i h0 hd hk
    obtain ⟨k, rfl⟩ : ∃ m, k = m + 1 := ⟨k - 1, by omega⟩
    simp only [laws_eqInsS.l0]; rw [if_pos (by omega), if_pos h0, if_pos (by omega), eqIns_same]; simp only [Option.bind_some, if_true]
    rw [show wrap64 (i + 1) = i + 1 from wrap_in (by omega) (by omega)]
    exact ih k (i + 1) (by omega) (by omega) (by omega)
theorem eqInsS_same (l : List S25) (k : Nat) (hl : l.length ≤ 2000000) (hk : l.length < k) : laws_eqInsS.f k l l = some true := by
  unfold laws_eqInsS.f; rw [if_pos rfl]; exact eqInsS_rounds l hl l.length k 0 (by omega) (by omega) hk
theorem szInsS_eq (l : List S23) (hl : l.length ≤ maxLen) : ∃ z, laws_szInsS.f l 1048576 = some z ∧ (0 ≤ z → l.length ≤ 1048576) := by
  unfold maxLen at hl
  unfold laws_szInsS.f
  rw [show wrap64 (1048576 - (l.length : Int)) = 1048576 - l.length from wrap_in (by omega) (by omega)]
  by_cases h : (l.length : Int) ≤ 1048576
  · rw [if_neg (by omega)]; exact ⟨_, rfl, fun _ => by omega⟩
  · rw [if_pos (by omega)]; exact ⟨_, rfl, fun h => by omega⟩

theorem FnExactCodeText : laws_FnExactCodeText.Mine := by
  intro l hl
  refine ⟨l.length + 200, ?_⟩
  unfold laws_FnExactCodeText.f
  obtain ⟨z, e, hz⟩ := szInsS_eq l hl
  rw [e]; simp only [Option.bind_some]
  by_cases h : z < 0
  · rw [if_pos h]
  rw [if_neg h]
  have h1 := hz (by omega)
  obtain ⟨a, e2, ha⟩ := toInsS_all l h1
  rw [e2 _ (by omega)]; simp only [Option.bind_some]
  rw [spec_CodeText_eq _ _ (by omega) (by omega)]; simp only [Option.bind_some]
  rw [impl_CodeText_eq _ _ (by omega) (by omega)]; simp only [Option.bind_some, if_true]
  rw [eqInsS_same _ _ (by omega) (by omega)]
  simp

end Go.Proofs.YteamcnoabglobaaDoor.Pure
