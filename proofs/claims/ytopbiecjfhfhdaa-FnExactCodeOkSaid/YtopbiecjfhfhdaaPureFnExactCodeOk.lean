/- The program's CodeOk and the reference's say the same of all programs; no conditions. -/
import Derived.Test.YtopbiecjfhfhdaaPFnExactCodeOkx3
namespace Go.Proofs.Ytopbiecjfhfhdaa.Pure
open Go.RowKit Go.Proofs.Ytopbiecjfhfhdaa.PFnExactCodeOk Go.Proofs.YtopbiecjfhfhdaaW.PrintWords Go.Proofs.YtopbiecjfhfhdaaW.PrintLast Go.Proofs.YtopbiecjfhfhdaaW.PrintMore
set_option linter.unusedVariables false
set_option linter.unusedSimpArgs false

def laws_FnExactCodeOk.Mine : Prop := ∀ (l0 : List (S23)), l0.length ≤ maxLen → ∃ k, laws_FnExactCodeOk.f k l0 = some true

theorem i64_bits : IntKind.i64.bits = 64 := rfl
theorem wrap_i64' (n : Int) : IntKind.i64.wrap n = wrap64 n := by unfold wrap64; exact IntKind.wrap_i64 n
theorem wrap_in {n : Int} (h0 : -9223372036854775808 ≤ n) (h1 : n ≤ 9223372036854775807) : wrap64 n = n := by unfold wrap64; omega
theorem wrap_lo (n : Int) : -9223372036854775808 ≤ wrap64 n ∧ wrap64 n ≤ 9223372036854775807 := by unfold wrap64; omega

def hR (op : Int) : Bool := decide ((1 ≤ op ∧ op ≤ 10) ∨ op = 12)
def hA (op : Int) : Bool := decide (2 ≤ op ∧ op ≤ 14)
def hB (op : Int) : Bool := decide (op = 2 ∨ (4 ≤ op ∧ op ≤ 8) ∨ op = 11)
def hN (op : Int) : Bool := decide (op = 1 ∨ op = 6 ∨ op = 10 ∨ op = 11 ∨ op = 13)
def hOp (op : Int) : Bool := decide (1 ≤ op ∧ op ≤ 15)
theorem op_cases (op : Int) : op = 1 ∨ op = 2 ∨ op = 3 ∨ op = 4 ∨ op = 5 ∨ op = 6 ∨ op = 7 ∨ op = 8 ∨ op = 9 ∨ op = 10 ∨ op = 11 ∨ op = 12 ∨ op = 13 ∨ op = 14 ∨ op = 15 ∨ ¬ (1 ≤ op ∧ op ≤ 15) := by omega
theorem formOf_none (k : Nat) (op : Int) (h : ¬ (1 ≤ op ∧ op ≤ 15)) : impl_formOf.f (k + 2) op = some ((⟨#[]⟩ : ByteArray), false) := by
  have ne : ∀ m : Int, 1 ≤ m → m ≤ 15 → op ≠ m := fun m _ _ => by omega
  unfold impl_formOf.f
  simp [impl_formOf.j0, impl_formOf.j1, ne]
theorem formOf_ok (k : Nat) (op : Int) : ∃ s, impl_formOf.f (k + 2) op = some (s, hOp op) := by
  rcases op_cases op with rfl | rfl | rfl | rfl | rfl | rfl | rfl | rfl | rfl | rfl | rfl | rfl | rfl | rfl | rfl | h
  case inr.inr.inr.inr.inr.inr.inr.inr.inr.inr.inr.inr.inr.inr.inr => exact ⟨(⟨#[]⟩ : ByteArray), by rw [formOf_none k op h]; simp [hOp, h]⟩
  all_goals exact ⟨_, rfl⟩
theorem hasPart_up {k : Nat} {op r a b n p : Int} {v : Bool} (hk : 12 ≤ k) (h : impl_hasPart.f 12 op 0 0 0 0 p = some v) : impl_hasPart.f k op r a b n p = some v :=
  at_rounds (fun k => impl_hasPart.mono op r a b n p k) hk h
theorem hasPart_none (k : Nat) (op r a b n p : Int) (hk : 12 ≤ k) (h : ¬ (1 ≤ op ∧ op ≤ 15)) : impl_hasPart.f k op r a b n p = some false := by
  refine at_rounds (fun k => impl_hasPart.mono op r a b n p k) hk ?_
  show impl_hasPart.f 12 op r a b n p = some false
  unfold impl_hasPart.f
  rw [formOf_none 10 op h]
  rfl
theorem hasPart_R (k : Nat) (op r a b n : Int) (hk : 12 ≤ k) : impl_hasPart.f k op r a b n 82 = some (hR op) := by
  rcases op_cases op with rfl | rfl | rfl | rfl | rfl | rfl | rfl | rfl | rfl | rfl | rfl | rfl | rfl | rfl | rfl | h
  case inr.inr.inr.inr.inr.inr.inr.inr.inr.inr.inr.inr.inr.inr.inr => rw [hasPart_none k op r a b n 82 hk h]; congr 1; symm; unfold hR; simp; omega
  all_goals exact hasPart_up hk (by decide +kernel)
theorem hasPart_A (k : Nat) (op r a b n : Int) (hk : 12 ≤ k) : impl_hasPart.f k op r a b n 65 = some (hA op) := by
  rcases op_cases op with rfl | rfl | rfl | rfl | rfl | rfl | rfl | rfl | rfl | rfl | rfl | rfl | rfl | rfl | rfl | h
  case inr.inr.inr.inr.inr.inr.inr.inr.inr.inr.inr.inr.inr.inr.inr => rw [hasPart_none k op r a b n 65 hk h]; congr 1; symm; unfold hA; simp; omega
  all_goals exact hasPart_up hk (by decide +kernel)
theorem hasPart_B (k : Nat) (op r a b n : Int) (hk : 12 ≤ k) : impl_hasPart.f k op r a b n 66 = some (hB op) := by
  rcases op_cases op with rfl | rfl | rfl | rfl | rfl | rfl | rfl | rfl | rfl | rfl | rfl | rfl | rfl | rfl | rfl | h
  case inr.inr.inr.inr.inr.inr.inr.inr.inr.inr.inr.inr.inr.inr.inr => rw [hasPart_none k op r a b n 66 hk h]; congr 1; symm; unfold hB; simp; omega
  all_goals exact hasPart_up hk (by decide +kernel)
theorem hasPart_N (k : Nat) (op r a b n : Int) (hk : 12 ≤ k) : impl_hasPart.f k op r a b n 78 = some (hN op) := by
  rcases op_cases op with rfl | rfl | rfl | rfl | rfl | rfl | rfl | rfl | rfl | rfl | rfl | rfl | rfl | rfl | rfl | h
  case inr.inr.inr.inr.inr.inr.inr.inr.inr.inr.inr.inr.inr.inr.inr => rw [hasPart_none k op r a b n 78 hk h]; congr 1; symm; unfold hN; simp; omega
  all_goals exact hasPart_up hk (by decide +kernel)

theorem impl_in_eq (n lo hi : Int) : impl_in.f n lo hi = some (decide (lo ≤ n ∧ n ≤ hi)) := by
  unfold impl_in.f; by_cases h : n ≥ lo
  · rw [if_pos h]; simp [show lo ≤ n from h]
  · rw [if_neg h]; simp [show ¬ lo ≤ n from h]
theorem spec_in_eq (n lo hi : Int) : spec_l1In.f n lo hi = some (decide (lo ≤ n ∧ n ≤ hi)) := by
  unfold spec_l1In.f; by_cases h : n ≥ lo
  · rw [if_pos h]; simp [show lo ≤ n from h]
  · rw [if_neg h]; simp [show ¬ lo ≤ n from h]

theorem has_bits4 (op : Int) : ∃ t, spec_l6Has.f op = some t ∧ ((bits .and .i64 t 1) != 0) = hR op ∧ ((bits .and .i64 t 2) != 0) = hA op ∧ ((bits .and .i64 t 4) != 0) = hB op ∧ ((bits .and .i64 t 8) = 0 ↔ hN op = false) := by
  rcases op_cases op with rfl | rfl | rfl | rfl | rfl | rfl | rfl | rfl | rfl | rfl | rfl | rfl | rfl | rfl | rfl | h
  case inr.inr.inr.inr.inr.inr.inr.inr.inr.inr.inr.inr.inr.inr.inr =>
    refine ⟨0, ?_, ?_, ?_, ?_, ?_⟩
    · unfold spec_l6Has.f; rw [spec_in_eq]; simp only [Option.bind_some]; rw [if_neg (by simpa using h)]
    · have : hR op = false := by unfold hR; simp; omega
      rw [this]; decide +kernel
    · have : hA op = false := by unfold hA; simp; omega
      rw [this]; decide +kernel
    · have : hB op = false := by unfold hB; simp; omega
      rw [this]; decide +kernel
    · have : hN op = false := by unfold hN; simp; omega
      rw [this]; decide +kernel
  all_goals exact ⟨_, rfl, by decide +kernel, by decide +kernel, by decide +kernel, by decide +kernel⟩

def fM (x : Int) (h : Bool) : Bool := decide (0 ≤ x ∧ x ≤ 7) && (h || x == 0)
def nM (x : Int) (h : Bool) : Bool := decide (-128 ≤ x ∧ x ≤ 127) && (h || x == 0)
def insM (op r a b n : Int) : Bool := hOp op && (fM r (hR op) && (fM a (hA op) && (fM b (hB op) && nM n (hN op))))
theorem fM_not (x : Int) : (x == 0) = fM x false := by
  unfold fM; by_cases h : x = 0
  · subst h; rfl
  · have : (x == 0) = false := by simpa using h
    rw [this]; simp
theorem nM_not (x : Int) : (x == 0) = nM x false := by
  unfold nM; by_cases h : x = 0
  · subst h; rfl
  · have : (x == 0) = false := by simpa using h
    rw [this]; simp
theorem fM_yes (x : Int) : decide (0 ≤ x ∧ x ≤ 7) = fM x true := by unfold fM; simp
theorem nM_yes (x : Int) : decide (-128 ≤ x ∧ x ≤ 127) = nM x true := by unfold nM; simp
theorem ok_step (k : Nat) (x4 : Bool) (op r a b n i i' c x : Int) (h : Bool) (hi : 0 ≤ i) (hi4 : i < 4) (hc : rd ([82, 65, 66, 78] : List Int) i = c) (hw : wrap64 (i + 1) = i') (hp : impl_partOf.f op r a b n c = some x) (hh : impl_hasPart.f k op r a b n c = some h) (hne : c ≠ 78) :
    impl_InsOk.l0 (k + 1) x4 i op r a b n = impl_InsOk.l0 k (x4 && fM x h) i' op r a b n := by
  simp only [impl_InsOk.l0]
  rw [if_pos hi4, if_pos hi]
  simp only [hc, hp, hh, hw, Option.bind_some]
  cases h with
  | false => cases x4 <;> simp [← fM_not]
  | true => cases x4 <;> simp [hne, impl_in_eq, ← fM_yes]
theorem ok_stepN (k : Nat) (x4 : Bool) (op r a b n : Int) (h : Bool) (hh : impl_hasPart.f k op r a b n 78 = some h) :
    impl_InsOk.l0 (k + 1) x4 3 op r a b n = impl_InsOk.l0 k (x4 && nM n h) 4 op r a b n := by
  have hp : impl_partOf.f op r a b n 78 = some n := by unfold impl_partOf.f; simp
  simp only [impl_InsOk.l0]
  rw [if_pos (by decide), if_pos (by decide), show rd ([82, 65, 66, 78] : List Int) 3 = 78 from rfl, show wrap64 (3 + 1) = 4 by unfold wrap64; omega]
  simp only [hp, hh, Option.bind_some]
  cases h with
  | false => cases x4 <;> simp [← nM_not]
  | true => cases x4 <;> simp [impl_in_eq, ← nM_yes]
theorem ok_stepE (k : Nat) (x4 : Bool) (op r a b n : Int) : impl_InsOk.l0 (k + 1) x4 4 op r a b n = some x4 := by
  simp only [impl_InsOk.l0]; rw [if_neg (by decide)]
theorem impl_InsOk_eq (k : Nat) (op r a b n : Int) (hk : 20 ≤ k) : impl_InsOk.f k op r a b n = some (insM op r a b n) := by
  obtain ⟨k, rfl⟩ : ∃ m, k = m + 20 := ⟨k - 20, by omega⟩
  obtain ⟨s, e⟩ := formOf_ok (k + 18) op
  unfold impl_InsOk.f
  rw [show k + 20 = k + 18 + 2 from rfl, e]; simp only [Option.bind_some]
  show impl_InsOk.l0 (k + 19 + 1) (hOp op) 0 op r a b n = _
  rw [ok_step (k + 19) (hOp op) op r a b n 0 1 82 r (hR op) (by omega) (by omega) rfl (by unfold wrap64; omega) (by unfold impl_partOf.f; simp) (hasPart_R _ _ _ _ _ _ (by omega)) (by omega),
    ok_step (k + 18) _ op r a b n 1 2 65 a (hA op) (by omega) (by omega) rfl (by unfold wrap64; omega) (by unfold impl_partOf.f; simp) (hasPart_A _ _ _ _ _ _ (by omega)) (by omega),
    ok_step (k + 17) _ op r a b n 2 3 66 b (hB op) (by omega) (by omega) rfl (by unfold wrap64; omega) (by unfold impl_partOf.f; simp) (hasPart_B _ _ _ _ _ _ (by omega)) (by omega),
    ok_stepN (k + 16) _ op r a b n (hN op) (hasPart_N _ _ _ _ _ _ (by omega)), ok_stepE (k + 15)]
  unfold insM; simp only [Bool.and_assoc]
theorem spec_Field_eq (x : Int) (h : Bool) : spec_l6Field.f x h = some (fM x h) := by
  unfold spec_l6Field.f fM; rw [spec_in_eq]; simp only [Option.bind_some]
  by_cases hx : 0 ≤ x ∧ x ≤ 7
  · rw [if_pos (decide_eq_true hx)]; cases h <;> simp [hx]
  · rw [if_neg (by simpa using hx)]; simp [hx]
theorem spec_InsOk_eq (op r a b n : Int) : spec_InsOk.f op r a b n = some (insM op r a b n) := by
  obtain ⟨t, e, h1, h2, h3, h4⟩ := has_bits4 op
  unfold spec_InsOk.f
  rw [e]; simp only [Option.bind_some, spec_in_eq, h1, h2, h3, spec_Field_eq]
  unfold insM hOp
  by_cases ho : 1 ≤ op ∧ op ≤ 15
  · rw [if_pos (decide_eq_true ho)]
    cases fM r (hR op) <;> cases fM a (hA op) <;> cases fM b (hB op) <;> simp [ho]
    unfold nM
    by_cases hn : -128 ≤ n ∧ n ≤ 127
    · rw [if_pos hn]; simp only [hn, and_self, decide_true, Bool.true_and]
      cases hh : hN op with
      | false => rw [if_pos (h4.mpr hh)]; simp
      | true => rw [if_neg (by rw [h4, hh]; simp)]; simp
    · rw [if_neg hn]; simp [hn]
  · rw [if_neg (by simpa using ho)]; simp [ho]

def insT (x : S25) : Bool := insM x.f0 x.f1 x.f2 x.f3 x.f4

theorem drop_rdI (l : List S25) (i : Int) (h0 : 0 ≤ i) (h : i < (l.length : Int)) : l.drop i.toNat = rd_T25 l i :: l.drop (i + 1).toNat := by
  rw [List.drop_eq_getElem_cons (by omega), show (i + 1).toNat = i.toNat + 1 by omega]
  congr 1
  unfold rd_T25
  rw [List.getD_eq_getElem?_getD, List.getElem?_eq_getElem (by omega)]; rfl
theorem drop_endI (l : List S25) (i : Int) (h : ¬ i < (l.length : Int)) : l.drop i.toNat = [] := List.drop_eq_nil_of_le (by omega)
theorem cfC_rounds (l : List S25) (hl : l.length ≤ 2000000) (d : Nat) : ∀ (k : Nat) (i : Int), 0 ≤ i → (l.length : Int) - i = d → d + 21 < k → ∃ r, CF_impl_CodeOk_1.l0 k l i = some r ∧ decide (0 ≤ r) = !((l.drop i.toNat).all insT) := by
  induction d with
  | zero =>
    intro k i h0 hd hk
    obtain ⟨k, rfl⟩ : ∃ m, k = m + 1 := ⟨k - 1, by omega⟩
    simp only [CF_impl_CodeOk_1.l0]; rw [if_neg (by omega), drop_endI l i (by omega)]; exact ⟨_, rfl, rfl⟩
  | succ d ih =>
    intro k i h0 hd hk
    obtain ⟨k, rfl⟩ : ∃ m, k = m + 1 := ⟨k - 1, by omega⟩
    simp only [CF_impl_CodeOk_1.l0]; rw [if_pos (by omega), if_pos h0]
    unfold impl_CodeOk_1.f
    rw [impl_InsOk_eq _ _ _ _ _ _ (by omega), drop_rdI l i h0 (by omega)]; simp only [Option.bind_some, List.all_cons]
    rw [show insM (rd_T25 l i).f0 (rd_T25 l i).f1 (rd_T25 l i).f2 (rd_T25 l i).f3 (rd_T25 l i).f4 = insT (rd_T25 l i) from rfl]
    cases insT (rd_T25 l i) with
    | false => exact ⟨i, by simp, by simp [h0]⟩
    | true =>
      obtain ⟨r, e, p⟩ := ih k (i + 1) (by omega) (by omega) (by omega)
      refine ⟨r, ?_, by simpa using p⟩
      simp only [Bool.not_true, Bool.false_eq_true, if_false]
      rw [show wrap64 (i + 1) = i + 1 from wrap_in (by omega) (by omega)]; exact e
def codeM (l : List S25) : Bool := decide (1 ≤ l.length ∧ l.length ≤ 48) && l.all insT
theorem impl_CodeOk_eq (k : Nat) (l : List S25) (hl : l.length ≤ 2000000) (hk : l.length + 21 < k) : impl_CodeOk.f k l = some (codeM l) := by
  obtain ⟨r, e, p⟩ := cfC_rounds l hl l.length k 0 (by omega) (by omega) hk
  unfold impl_CodeOk.f codeM
  rw [impl_in_eq]; simp only [Option.bind_some]
  by_cases h : 1 ≤ l.length ∧ l.length ≤ 48
  · rw [if_pos (by simp; omega)]
    unfold CF_impl_CodeOk_1.f
    rw [e]; simp only [Option.bind_some, ge_iff_le, p]
    simp [h]
  · rw [if_neg (by simp; omega)]; simp [h]
theorem spC_rounds (l : List S25) (hl : l.length ≤ 2000000) (d : Nat) : ∀ (k : Nat) (i : Int), 0 ≤ i → (l.length : Int) - i = d → d < k → spec_CodeOk.l0 k l i = some ((l.drop i.toNat).all insT && decide (1 ≤ l.length ∧ l.length ≤ 48)) := by
  induction d with
  | zero =>
    intro k i h0 hd hk
    obtain ⟨k, rfl⟩ : ∃ m, k = m + 1 := ⟨k - 1, by omega⟩
    simp only [spec_CodeOk.l0]; rw [if_neg (by omega), drop_endI l i (by omega), spec_in_eq]; simp only [Option.bind_some, List.all_nil, Bool.true_and]
    congr 1; rw [decide_eq_decide]; omega
  | succ d ih =>
    intro k i h0 hd hk
    obtain ⟨k, rfl⟩ : ∃ m, k = m + 1 := ⟨k - 1, by omega⟩
    simp only [spec_CodeOk.l0]; rw [if_pos (by omega), if_pos h0]
    rw [spec_InsOk_eq, drop_rdI l i h0 (by omega)]; simp only [Option.bind_some, List.all_cons]
    rw [show insM (rd_T25 l i).f0 (rd_T25 l i).f1 (rd_T25 l i).f2 (rd_T25 l i).f3 (rd_T25 l i).f4 = insT (rd_T25 l i) from rfl]
    cases insT (rd_T25 l i) with
    | false => simp
    | true =>
      simp only [if_true, Bool.true_and]
      rw [show wrap64 (i + 1) = i + 1 from wrap_in (by omega) (by omega)]; exact ih k (i + 1) (by omega) (by omega) (by omega)
theorem spec_CodeOk_eq (k : Nat) (l : List S25) (hl : l.length ≤ 2000000) (hk : l.length < k) : spec_CodeOk.f k l = some (codeM l) := by
  unfold spec_CodeOk.f codeM
  rw [spC_rounds l hl l.length k 0 (by omega) (by omega) hk]
  simp [Bool.and_comm]

theorem eqIns_same (a b c d e : Int) : laws_eqIns.f a b c d e a b c d e = some true := by unfold laws_eqIns.f; simp

theorem toIns_eq (a b c d e : Int) : laws_toIns.f a b c d e = some (a, b, c, d, e) := rfl

theorem toInsS_rounds (l : List S23) (hl : l.length ≤ 2000000) (d : Nat) : ∀ (k : Nat) (x : List S25) (i : Int), 0 ≤ i → x.length = l.length → (l.length : Int) - i = d → d < k → ∃ r, laws_toInsS.l0 k l x i = some r ∧ r.length = l.length := by
  induction d with
  | zero =>
    intro k x i h0 hx hd hk
    obtain ⟨k, rfl⟩ : ∃ m, k = m + 1 := ⟨k - 1, by omega⟩
    simp only [laws_toInsS.l0]; rw [if_neg (by omega)]; exact ⟨x, rfl, hx⟩
  | succ d ih =>
    intro k x i h0 hx hd hk
    obtain ⟨k, rfl⟩ : ∃ m, k = m + 1 := ⟨k - 1, by omega⟩
    simp only [laws_toInsS.l0]; rw [if_pos (by omega), if_pos h0]; simp only [toIns_eq, Option.bind_some]
    rw [if_pos (by omega), show wrap64 (i + 1) = i + 1 from wrap_in (by omega) (by omega)]
    exact ih k _ (i + 1) (by omega) (by simpa using hx) (by omega) (by omega)
theorem toInsS_all (l : List S23) (hl : l.length ≤ 1048576) : ∃ a, (∀ k, l.length < k → laws_toInsS.f k l = some a) ∧ a.length = l.length := by
  obtain ⟨a, e, ha⟩ : ∃ r, laws_toInsS.f (l.length + 1) l = some r ∧ r.length = l.length := by
    unfold laws_toInsS.f
    rw [if_pos (by omega), if_pos (by omega)]
    exact toInsS_rounds l (by omega) l.length _ _ 0 (by omega) (by simp) (by omega) (by omega)
  exact ⟨a, fun k h => at_rounds (fun k => laws_toInsS.mono l k) h e, ha⟩
theorem eqInsS_rounds (l : List S25) (hl : l.length ≤ 2000000) (d : Nat) : ∀ (k : Nat) (i : Int), 0 ≤ i → (l.length : Int) - i = d → d < k → laws_eqInsS.l0 k l l i = some true := by
  induction d with
  | zero =>
    intro k i h0 hd hk
    obtain ⟨k, rfl⟩ : ∃ m, k = m + 1 := ⟨k - 1, by omega⟩
    simp only [laws_eqInsS.l0]; rw [if_neg (by omega)]
  | succ d ih =>
    intro k i h0 hd hk
    obtain ⟨k, rfl⟩ : ∃ m, k = m + 1 := ⟨k - 1, by omega⟩
    simp only [laws_eqInsS.l0]; rw [if_pos (by omega), if_pos h0, if_pos (by omega), eqIns_same]; simp only [Option.bind_some, if_true]
    rw [show wrap64 (i + 1) = i + 1 from wrap_in (by omega) (by omega)]
    exact ih k (i + 1) (by omega) (by omega) (by omega)
theorem eqInsS_same (l : List S25) (k : Nat) (hl : l.length ≤ 2000000) (hk : l.length < k) : laws_eqInsS.f k l l = some true := by
  unfold laws_eqInsS.f; rw [if_pos rfl]; exact eqInsS_rounds l hl l.length k 0 (by omega) (by omega) hk
theorem szInsS_eq (l : List S23) (hl : l.length ≤ maxLen) : ∃ z, laws_szInsS.f l 1048576 = some z ∧ (0 ≤ z → l.length ≤ 1048576) := by
  unfold maxLen at hl
  unfold laws_szInsS.f
  rw [show wrap64 (1048576 - (l.length : Int)) = 1048576 - l.length from wrap_in (by omega) (by omega)]
  by_cases h : (l.length : Int) ≤ 1048576
  · rw [if_neg (by omega)]; exact ⟨_, rfl, fun _ => by omega⟩
  · rw [if_pos (by omega)]; exact ⟨_, rfl, fun h => by omega⟩

theorem FnExactCodeOk : laws_FnExactCodeOk.Mine := by
  intro l hl
  refine ⟨l.length + 30, ?_⟩
  unfold laws_FnExactCodeOk.f
  obtain ⟨z, e, hz⟩ := szInsS_eq l hl
  rw [e]; simp only [Option.bind_some]
  by_cases h : z < 0
  · rw [if_pos h]
  rw [if_neg h]
  have h1 := hz (by omega)
  obtain ⟨a, e2, ha⟩ := toInsS_all l h1
  rw [e2 _ (by omega)]; simp only [Option.bind_some]
  rw [spec_CodeOk_eq _ _ (by omega) (by omega), impl_CodeOk_eq _ _ (by omega) (by omega)]
  simp only [Option.bind_some, bne_self_eq_false, Bool.false_eq_true, if_false]
  rw [eqInsS_same _ _ (by omega) (by omega)]
  simp

end Go.Proofs.Ytopbiecjfhfhdaa.Pure
