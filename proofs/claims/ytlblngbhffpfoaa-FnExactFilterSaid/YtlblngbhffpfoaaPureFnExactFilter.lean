/- The program's Filter and the reference's give the same word at all memories and words; no conditions. -/
import Derived.Test.YtlblngbhffpfoaaPFnExactFilterx3
namespace Go.Proofs.Ytlblngbhffpfoaa.Pure
open Go.RowKit Go.Proofs.Ytlblngbhffpfoaa.PFnExactFilter Go.Proofs.YtlblngbhffpfoaaW.PrintWords Go.Proofs.YtlblngbhffpfoaaW.PrintLast Go.Proofs.YtlblngbhffpfoaaW.PrintMore
set_option linter.unusedVariables false
set_option linter.unusedSimpArgs false

def laws_FnExactFilter.Mine : Prop := ∀ (l0_0 : List (S29)) (l0_1 : List Bool) (a1_0 : Int) (a1_1 : Bool) (a1_2 : Int) (a1_3 : Int) (a1_4 : Int) (a1_5 : Int), l0_0.length ≤ maxLen → l0_1.length ≤ maxLen → (Lit.int .i64 a1_0).wf = true → (Lit.int .i64 a1_2).wf = true → (Lit.int .i64 a1_3).wf = true → (Lit.int .i64 a1_4).wf = true → (Lit.int .i64 a1_5).wf = true → ∃ k, laws_FnExactFilter.f k l0_0 l0_1 a1_0 a1_1 a1_2 a1_3 a1_4 a1_5 = some true

theorem i64_bits : IntKind.i64.bits = 64 := rfl
theorem wrap_i64' (n : Int) : IntKind.i64.wrap n = wrap64 n := by unfold wrap64; exact IntKind.wrap_i64 n
theorem wrap_in {n : Int} (h0 : -9223372036854775808 ≤ n) (h1 : n ≤ 9223372036854775807) : wrap64 n = n := by unfold wrap64; omega
theorem wrap_lo (n : Int) : -9223372036854775808 ≤ wrap64 n ∧ wrap64 n ≤ 9223372036854775807 := by unfold wrap64; omega

theorem bits_and_raw (n m : Int) (p : Nat) (hm : (BitVec.ofInt 64 m).toNat = 2 ^ p - 1) :
    bits .and .i64 n m = wrap64 (((n % ((2 ^ 64 : Nat) : Int)).toNat % 2 ^ p : Nat) : Int) := by
  have key : (BitVec.ofInt 64 n &&& BitVec.ofInt 64 m).toNat = (n % ((2 ^ 64 : Nat) : Int)).toNat % 2 ^ p := by
    rw [BitVec.toNat_and, BitVec.toNat_ofInt, hm, Nat.and_two_pow_sub_one_eq_mod]
  show IntKind.i64.wrap ((BitVec.ofInt 64 n &&& BitVec.ofInt 64 m).toNat : Nat) = _
  rw [key, wrap_i64']
theorem and_255 (n : Int) : bits .and .i64 n 255 = n % 256 := by rw [bits_and_raw n 255 8 (by decide)]; unfold wrap64; omega
theorem and_65535 (n : Int) : bits .and .i64 n 65535 = n % 65536 := by rw [bits_and_raw n 65535 16 (by decide)]; unfold wrap64; omega
theorem and_63 (n : Int) : bits .and .i64 n 63 = n % 64 := by rw [bits_and_raw n 63 6 (by decide)]; unfold wrap64; omega
theorem and_15 (n : Int) : bits .and .i64 n 15 = n % 16 := by rw [bits_and_raw n 15 4 (by decide)]; unfold wrap64; omega
theorem and_7 (n : Int) : bits .and .i64 n 7 = n % 8 := by rw [bits_and_raw n 7 3 (by decide)]; unfold wrap64; omega

def plainM (n : Int) : Int × Bool × Int × Int × Int × Int := (n % 65536, false, 0, 0, 0, 0)
theorem impl_Plain_eq (n : Int) : impl_Plain.f n = some (plainM n) := by unfold impl_Plain.f plainM; rw [and_65535]
theorem spec_Plain_eq (n : Int) : spec_Plain.f n = some (plainM n) := by unfold spec_Plain.f plainM; rw [and_65535]

theorem impl_Bare_eq (n : Int) (i : Bool) (b t p s : Int) : impl_Bare.f n i b t p s = some (plainM n) := by unfold impl_Bare.f; rw [impl_Plain_eq]; rfl
theorem spec_Bare_eq (n : Int) (i : Bool) (b t p s : Int) : spec_Bare.f n i b t p s = some (plainM n) := by unfold spec_Bare.f; rw [spec_Plain_eq]; rfl

theorem impl_in_eq (n lo hi : Int) : impl_in.f n lo hi = some (decide (lo ≤ n ∧ n ≤ hi)) := by
  unfold impl_in.f; by_cases h : n ≥ lo
  · rw [if_pos h]; simp [show lo ≤ n from h]
  · rw [if_neg h]; simp [show ¬ lo ≤ n from h]
theorem spec_in_eq (n lo hi : Int) : spec_l1In.f n lo hi = some (decide (lo ≤ n ∧ n ≤ hi)) := by
  unfold spec_l1In.f; by_cases h : n ≥ lo
  · rw [if_pos h]; simp [show lo ≤ n from h]
  · rw [if_neg h]; simp [show ¬ lo ≤ n from h]

def filterM (g : List Bool) (n : Int) (i : Bool) (b t p s : Int) : Int × Bool × Int × Int × Int × Int :=
  if (i && (decide (0 ≤ b ∧ b < (g.length : Int)) && rdOf false g b)) = true then plainM n else (n, i, b, t, p, s)
theorem impl_Filter_eq (l : List S33) (g : List Bool) (n : Int) (i : Bool) (b t p s : Int) (hg : g.length ≤ 2000000) : impl_Filter.f l g n i b t p s = some (filterM g n i b t p s) := by
  unfold impl_Filter.f filterM
  simp only [impl_in_eq, impl_Bare_eq, Option.bind_some, show wrap64 ((g.length : Int) - 1) = g.length - 1 from wrap_in (by omega) (by omega)]
  cases i
  · simp
  · by_cases h : 0 ≤ b ∧ b < (g.length : Int)
    · have e1 : decide (0 ≤ b ∧ b ≤ (g.length : Int) - 1) = true := decide_eq_true ⟨h.1, by omega⟩
      have e2 : decide (0 ≤ b ∧ b < (g.length : Int)) = true := decide_eq_true h
      rw [e1, e2]
      simp only [if_true, Bool.true_and]
      rw [if_pos h.1, if_pos h.2]
      cases rdOf false g b <;> simp
    · have h' : ¬ (0 ≤ b ∧ b ≤ (g.length : Int) - 1) := by omega
      simp [h, h']
theorem spec_Filter_eq (l : List S33) (g : List Bool) (n : Int) (i : Bool) (b t p s : Int) (hg : g.length ≤ 2000000) : spec_Filter.f l g n i b t p s = some (filterM g n i b t p s) := by
  unfold spec_Filter.f filterM
  simp only [spec_in_eq, spec_Bare_eq, Option.bind_some, show wrap64 ((g.length : Int) - 1) = g.length - 1 from wrap_in (by omega) (by omega)]
  cases i
  · simp
  · by_cases h : 0 ≤ b ∧ b < (g.length : Int)
    · have e1 : decide (0 ≤ b ∧ b ≤ (g.length : Int) - 1) = true := decide_eq_true ⟨h.1, by omega⟩
      have e2 : decide (0 ≤ b ∧ b < (g.length : Int)) = true := decide_eq_true h
      rw [e1, e2]
      simp only [if_true, Bool.true_and]
      rw [if_pos h.1, if_pos h.2]
      cases rdOf false g b <;> simp
    · have h' : ¬ (0 ≤ b ∧ b ≤ (g.length : Int) - 1) := by omega
      simp [h, h']

theorem eqKey_same (a b c d : Int) : laws_eqKey.f a b c d a b c d = some true := by unfold laws_eqKey.f; simp

theorem eqWord_same (n : Int) (i : Bool) (a b c d : Int) : laws_eqWord.f n i a b c d n i a b c d = some true := by
  unfold laws_eqWord.f; simp [eqKey_same]

theorem toKey_eq (a b c d : Int) : laws_toKey.f a b c d = some (a, b, c, d) := rfl

theorem toWord_eq (n : Int) (i : Bool) (a b c d : Int) : laws_toWord.f n i a b c d = some (n, i, a, b, c, d) := rfl

theorem toWordS_rounds (l : List S29) (hl : l.length ≤ 2000000) (d : Nat) : ∀ (k : Nat) (x : List S33) (i : Int), 0 ≤ i → x.length = l.length → (l.length : Int) - i = d → d < k → ∃ r, laws_toWordS.l0 k l x i = some r ∧ r.length = l.length := by
  induction d with
  | zero =>
    intro k x i h0 hx hd hk
    obtain ⟨k, rfl⟩ : ∃ m, k = m + 1 := ⟨k - 1, by omega⟩
    simp only [laws_toWordS.l0]; rw [if_neg (by omega)]; exact ⟨x, rfl, hx⟩
  | succ d ih =>
    intro k x i h0 hx hd hk
    obtain ⟨k, rfl⟩ : ∃ m, k = m + 1 := ⟨k - 1, by omega⟩
    simp only [laws_toWordS.l0]; rw [if_pos (by omega), if_pos h0]; simp only [toWord_eq, Option.bind_some]
    rw [if_pos (by omega), show wrap64 (i + 1) = i + 1 from wrap_in (by omega) (by omega)]
    exact ih k _ (i + 1) (by omega) (by simpa using hx) (by omega) (by omega)
theorem toWordS_tells (l : List S29) (k : Nat) (hl : l.length ≤ 2000000) (hk : l.length < k) : ∃ r, laws_toWordS.f k l = some r ∧ r.length = l.length := by
  unfold laws_toWordS.f
  rw [if_pos (by omega), if_pos (by omega)]
  exact toWordS_rounds l hl l.length k _ 0 (by omega) (by simp) (by omega) hk
theorem eqWordS_rounds (l : List S33) (hl : l.length ≤ 2000000) (d : Nat) : ∀ (k : Nat) (i : Int), 0 ≤ i → (l.length : Int) - i = d → d < k → laws_eqWordS.l0 k l l i = some true := by
  induction d with
  | zero =>
    intro k i h0 hd hk
    obtain ⟨k, rfl⟩ : ∃ m, k = m + 1 := ⟨k - 1, by omega⟩
    simp only [laws_eqWordS.l0]; rw [if_neg (by omega)]
  | succ d ih =>
    intro k i h0 hd hk
    obtain ⟨k, rfl⟩ : ∃ m, k = m + 1 := ⟨k - 1, by omega⟩
    simp only [laws_eqWordS.l0]; rw [if_pos (by omega), if_pos h0, if_pos (by omega), eqWord_same]; simp only [Option.bind_some, if_true]
    rw [show wrap64 (i + 1) = i + 1 from wrap_in (by omega) (by omega)]
    exact ih k (i + 1) (by omega) (by omega) (by omega)
theorem eqWordS_same (l : List S33) (k : Nat) (hl : l.length ≤ 2000000) (hk : l.length < k) : laws_eqWordS.f k l l = some true := by
  unfold laws_eqWordS.f; rw [if_pos rfl]; exact eqWordS_rounds l hl l.length k 0 (by omega) (by omega) hk
theorem szWordS_eq (l : List S29) (a : Int) (ha : 0 ≤ a ∧ a ≤ 1048576) (hl : l.length ≤ maxLen) : laws_szWordS.f l a = some (if (l.length : Int) ≤ a then a - l.length else -1) := by
  unfold maxLen at hl
  unfold laws_szWordS.f
  rw [show wrap64 (a - (l.length : Int)) = a - l.length from wrap_in (by omega) (by omega)]
  by_cases h : (l.length : Int) ≤ a
  · rw [if_neg (by omega), if_pos h]
  · rw [if_pos (by omega), if_neg h]

theorem toBoolS_rounds (l : List Bool) (hl : l.length ≤ 2000000) (d : Nat) : ∀ (k : Nat) (x : List Bool) (i : Int), 0 ≤ i → x.length = l.length → (l.length : Int) - i = d → d < k → ∃ r, laws_toBoolS.l0 k l x i = some r ∧ r.length = l.length := by
  induction d with
  | zero =>
    intro k x i h0 hx hd hk
    obtain ⟨k, rfl⟩ : ∃ m, k = m + 1 := ⟨k - 1, by omega⟩
    simp only [laws_toBoolS.l0]; rw [if_neg (by omega)]; exact ⟨x, rfl, hx⟩
  | succ d ih =>
    intro k x i h0 hx hd hk
    obtain ⟨k, rfl⟩ : ∃ m, k = m + 1 := ⟨k - 1, by omega⟩
    simp only [laws_toBoolS.l0]; rw [if_pos (by omega), if_pos h0, if_pos (by omega), show wrap64 (i + 1) = i + 1 from wrap_in (by omega) (by omega)]
    exact ih k _ (i + 1) (by omega) (by simpa using hx) (by omega) (by omega)
theorem toBoolS_tells (l : List Bool) (k : Nat) (hl : l.length ≤ 2000000) (hk : l.length < k) : ∃ r, laws_toBoolS.f k l = some r ∧ r.length = l.length := by
  unfold laws_toBoolS.f
  rw [if_pos (by omega), if_pos (by omega)]
  exact toBoolS_rounds l hl l.length k _ 0 (by omega) (by simp) (by omega) hk
theorem szBoolS_eq (l : List Bool) (a : Int) (ha : 0 ≤ a ∧ a ≤ 1048576) (hl : l.length ≤ maxLen) : laws_szBoolS.f l a = some (if (l.length : Int) ≤ a then a - l.length else -1) := by
  unfold maxLen at hl
  unfold laws_szBoolS.f
  rw [show wrap64 (a - (l.length : Int)) = a - l.length from wrap_in (by omega) (by omega)]
  by_cases h : (l.length : Int) ≤ a
  · rw [if_neg (by omega), if_pos h]
  · rw [if_pos (by omega), if_neg h]

theorem eqBoolS_rounds (l : List Bool) (hl : l.length ≤ 2000000) (d : Nat) : ∀ (k : Nat) (i : Int), 0 ≤ i → (l.length : Int) - i = d → d < k → laws_eqBoolS.l0 k l l i = some true := by
  induction d with
  | zero =>
    intro k i h0 hd hk
    obtain ⟨k, rfl⟩ : ∃ m, k = m + 1 := ⟨k - 1, by omega⟩
    simp only [laws_eqBoolS.l0]; rw [if_neg (by omega)]
  | succ d ih =>
    intro k i h0 hd hk
    obtain ⟨k, rfl⟩ : ∃ m, k = m + 1 := ⟨k - 1, by omega⟩
    simp only [laws_eqBoolS.l0]; rw [if_pos (by omega), if_pos h0, if_pos (by omega), if_neg (by simp)]
    rw [show wrap64 (i + 1) = i + 1 from wrap_in (by omega) (by omega)]
    exact ih k (i + 1) (by omega) (by omega) (by omega)
theorem eqBoolS_same (l : List Bool) (k : Nat) (hl : l.length ≤ 2000000) (hk : l.length < k) : laws_eqBoolS.f k l l = some true := by
  unfold laws_eqBoolS.f; rw [if_pos rfl]; exact eqBoolS_rounds l hl l.length k 0 (by omega) (by omega) hk

theorem szMemory_eq (l : List S29) (g : List Bool) (hl : l.length ≤ maxLen) (hg : g.length ≤ maxLen) : ∃ z, laws_szMemory.f l g 1048576 = some z ∧ (0 ≤ z → l.length ≤ 1048576 ∧ g.length ≤ 1048576) := by
  unfold laws_szMemory.f
  rw [szWordS_eq l _ (by omega) hl]; simp only [Option.bind_some]
  by_cases h : (l.length : Int) ≤ 1048576
  · rw [if_pos h, if_neg (by omega), szBoolS_eq g _ (by omega) hg]; simp only [Option.bind_some]
    by_cases h2 : (g.length : Int) ≤ 1048576 - l.length
    · rw [if_pos h2, if_neg (by omega)]; exact ⟨_, rfl, fun _ => by omega⟩
    · rw [if_neg h2, if_pos (by omega)]; exact ⟨_, rfl, fun h => by omega⟩
  · rw [if_neg h, if_pos (by omega)]; exact ⟨_, rfl, fun h => by omega⟩
theorem toMemory_tells (l : List S29) (g : List Bool) (k : Nat) (hl : l.length ≤ 1048576) (hg : g.length ≤ 1048576) (hk : l.length < k) (hk' : g.length < k) :
    ∃ a b, laws_toMemory.f k l g = some (a, b) ∧ a.length = l.length ∧ b.length = g.length := by
  obtain ⟨a, ha, ha'⟩ := toWordS_tells l k (by omega) hk
  obtain ⟨b, hb, hb'⟩ := toBoolS_tells g k (by omega) hk'
  refine ⟨a, b, ?_, ha', hb'⟩
  unfold laws_toMemory.f
  rw [ha, hb]; rfl
theorem eqMemory_same (a : List S33) (b : List Bool) (k : Nat) (ha : a.length ≤ 1048576) (hb : b.length ≤ 1048576) (hk : a.length < k) (hk' : b.length < k) : laws_eqMemory.f k a b a b = some true := by
  unfold laws_eqMemory.f
  rw [eqWordS_same a k (by omega) hk, eqBoolS_same b k (by omega) hk']; simp

theorem FnExactFilter : laws_FnExactFilter.Mine := by
  intro l g n i b t p s hl hg _ _ _ _ _
  refine ⟨l.length + g.length + 20, ?_⟩
  unfold laws_FnExactFilter.f
  obtain ⟨z, e, hz⟩ := szMemory_eq l g hl hg
  rw [e]; simp only [Option.bind_some]
  by_cases h : z < 0
  · rw [if_pos h]
  rw [if_neg h]
  obtain ⟨h1, h2⟩ := hz (by omega)
  obtain ⟨a, c, e2, ha, hc⟩ := toMemory_tells l g (l.length + g.length + 20) h1 h2 (by omega) (by omega)
  simp only [e2, Option.bind_some, toWord_eq]
  rw [spec_Filter_eq _ _ _ _ _ _ _ _ (by omega), impl_Filter_eq _ _ _ _ _ _ _ _ (by omega)]
  simp only [Option.bind_some, eqWord_same, if_true]
  rw [eqMemory_same _ _ _ (by omega) (by omega) (by omega) (by omega)]
  simp

end Go.Proofs.Ytlblngbhffpfoaa.Pure
