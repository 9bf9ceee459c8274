/- What a drawn place's number is read as, and what a number is read as: the law answers true at every input; no conditions. -/
import Derived.Test.YtopbiecjfhfhdaaPFnCodesx7
namespace Go.Proofs.Ytopbiecjfhfhdaa.Pure
open Go.RowKit Go.Proofs.Ytopbiecjfhfhdaa.PFnCodes Go.Proofs.YtopbiecjfhfhdaaW.PrintWords Go.Proofs.YtopbiecjfhfhdaaW.PrintLast Go.Proofs.YtopbiecjfhfhdaaW.PrintMore
set_option linter.unusedVariables false
set_option linter.unusedSimpArgs false

def laws_FnCodes.Mine : Prop := ∀ (l0 : List Int), l0.length ≤ maxLen → ∃ k, laws_FnCodes.f k l0 = some true

theorem i64_bits : IntKind.i64.bits = 64 := rfl
theorem wrap_i64' (n : Int) : IntKind.i64.wrap n = wrap64 n := by unfold wrap64; exact IntKind.wrap_i64 n
theorem wrap_in {n : Int} (h0 : -9223372036854775808 ≤ n) (h1 : n ≤ 9223372036854775807) : wrap64 n = n := by unfold wrap64; omega
theorem wrap_lo (n : Int) : -9223372036854775808 ≤ wrap64 n ∧ wrap64 n ≤ 9223372036854775807 := by unfold wrap64; omega

def hR (op : Int) : Bool := decide ((1 ≤ op ∧ op ≤ 10) ∨ op = 12)
def hA (op : Int) : Bool := decide (2 ≤ op ∧ op ≤ 14)
def hB (op : Int) : Bool := decide (op = 2 ∨ (4 ≤ op ∧ op ≤ 8) ∨ op = 11)
def hN (op : Int) : Bool := decide (op = 1 ∨ op = 6 ∨ op = 10 ∨ op = 11 ∨ op = 13)
def hOp (op : Int) : Bool := decide (1 ≤ op ∧ op ≤ 15)
theorem op_cases (op : Int) : op = 1 ∨ op = 2 ∨ op = 3 ∨ op = 4 ∨ op = 5 ∨ op = 6 ∨ op = 7 ∨ op = 8 ∨ op = 9 ∨ op = 10 ∨ op = 11 ∨ op = 12 ∨ op = 13 ∨ op = 14 ∨ op = 15 ∨ ¬ (1 ≤ op ∧ op ≤ 15) := by omega
theorem formOf_none (k : Nat) (op : Int) (h : ¬ (1 ≤ op ∧ op ≤ 15)) : impl_formOf.f (k + 2) op = some ((⟨#[]⟩ : ByteArray), false) := by
  have ne : ∀ m : Int, 1 ≤ m → m ≤ 15 → op ≠ m := fun m _ _ => by omega
  unfold impl_formOf.f
  simp [impl_formOf.j0, impl_formOf.j1, ne]
theorem formOf_ok (k : Nat) (op : Int) : ∃ s, impl_formOf.f (k + 2) op = some (s, hOp op) := by
  rcases op_cases op with rfl | rfl | rfl | rfl | rfl | rfl | rfl | rfl | rfl | rfl | rfl | rfl | rfl | rfl | rfl | h
  case inr.inr.inr.inr.inr.inr.inr.inr.inr.inr.inr.inr.inr.inr.inr => exact ⟨(⟨#[]⟩ : ByteArray), by rw [formOf_none k op h]; simp [hOp, h]⟩
  all_goals exact ⟨_, rfl⟩
theorem hasPart_up {k : Nat} {op r a b n p : Int} {v : Bool} (hk : 12 ≤ k) (h : impl_hasPart.f 12 op 0 0 0 0 p = some v) : impl_hasPart.f k op r a b n p = some v :=
  at_rounds (fun k => impl_hasPart.mono op r a b n p k) hk h
theorem hasPart_none (k : Nat) (op r a b n p : Int) (hk : 12 ≤ k) (h : ¬ (1 ≤ op ∧ op ≤ 15)) : impl_hasPart.f k op r a b n p = some false := by
  refine at_rounds (fun k => impl_hasPart.mono op r a b n p k) hk ?_
  show impl_hasPart.f 12 op r a b n p = some false
  unfold impl_hasPart.f
  rw [formOf_none 10 op h]
  rfl
theorem hasPart_R (k : Nat) (op r a b n : Int) (hk : 12 ≤ k) : impl_hasPart.f k op r a b n 82 = some (hR op) := by
  rcases op_cases op with rfl | rfl | rfl | rfl | rfl | rfl | rfl | rfl | rfl | rfl | rfl | rfl | rfl | rfl | rfl | h
  case inr.inr.inr.inr.inr.inr.inr.inr.inr.inr.inr.inr.inr.inr.inr => rw [hasPart_none k op r a b n 82 hk h]; congr 1; symm; unfold hR; simp; omega
  all_goals exact hasPart_up hk (by decide +kernel)
theorem hasPart_A (k : Nat) (op r a b n : Int) (hk : 12 ≤ k) : impl_hasPart.f k op r a b n 65 = some (hA op) := by
  rcases op_cases op with rfl | rfl | rfl | rfl | rfl | rfl | rfl | rfl | rfl | rfl | rfl | rfl | rfl | rfl | rfl | h
  case inr.inr.inr.inr.inr.inr.inr.inr.inr.inr.inr.inr.inr.inr.inr => rw [hasPart_none k op r a b n 65 hk h]; congr 1; symm; unfold hA; simp; omega
  all_goals exact hasPart_up hk (by decide +kernel)
theorem hasPart_B (k : Nat) (op r a b n : Int) (hk : 12 ≤ k) : impl_hasPart.f k op r a b n 66 = some (hB op) := by
  rcases op_cases op with rfl | rfl | rfl | rfl | rfl | rfl | rfl | rfl | rfl | rfl | rfl | rfl | rfl | rfl | rfl | h
  case inr.inr.inr.inr.inr.inr.inr.inr.inr.inr.inr.inr.inr.inr.inr => rw [hasPart_none k op r a b n 66 hk h]; congr 1; symm; unfold hB; simp; omega
  all_goals exact hasPart_up hk (by decide +kernel)
theorem hasPart_N (k : Nat) (op r a b n : Int) (hk : 12 ≤ k) : impl_hasPart.f k op r a b n 78 = some (hN op) := by
  rcases op_cases op with rfl | rfl | rfl | rfl | rfl | rfl | rfl | rfl | rfl | rfl | rfl | rfl | rfl | rfl | rfl | h
  case inr.inr.inr.inr.inr.inr.inr.inr.inr.inr.inr.inr.inr.inr.inr => rw [hasPart_none k op r a b n 78 hk h]; congr 1; symm; unfold hN; simp; omega
  all_goals exact hasPart_up hk (by decide +kernel)

theorem impl_in_eq (n lo hi : Int) : impl_in.f n lo hi = some (decide (lo ≤ n ∧ n ≤ hi)) := by
  unfold impl_in.f; by_cases h : n ≥ lo
  · rw [if_pos h]; simp [show lo ≤ n from h]
  · rw [if_neg h]; simp [show ¬ lo ≤ n from h]
theorem spec_in_eq (n lo hi : Int) : spec_l1In.f n lo hi = some (decide (lo ≤ n ∧ n ≤ hi)) := by
  unfold spec_l1In.f; by_cases h : n ≥ lo
  · rw [if_pos h]; simp [show lo ≤ n from h]
  · rw [if_neg h]; simp [show ¬ lo ≤ n from h]

theorem has_bits4 (op : Int) : ∃ t, spec_l6Has.f op = some t ∧ ((bits .and .i64 t 1) != 0) = hR op ∧ ((bits .and .i64 t 2) != 0) = hA op ∧ ((bits .and .i64 t 4) != 0) = hB op ∧ ((bits .and .i64 t 8) = 0 ↔ hN op = false) := by
  rcases op_cases op with rfl | rfl | rfl | rfl | rfl | rfl | rfl | rfl | rfl | rfl | rfl | rfl | rfl | rfl | rfl | h
  case inr.inr.inr.inr.inr.inr.inr.inr.inr.inr.inr.inr.inr.inr.inr =>
    refine ⟨0, ?_, ?_, ?_, ?_, ?_⟩
    · unfold spec_l6Has.f; rw [spec_in_eq]; simp only [Option.bind_some]; rw [if_neg (by simpa using h)]
    · have : hR op = false := by unfold hR; simp; omega
      rw [this]; decide +kernel
    · have : hA op = false := by unfold hA; simp; omega
      rw [this]; decide +kernel
    · have : hB op = false := by unfold hB; simp; omega
      rw [this]; decide +kernel
    · have : hN op = false := by unfold hN; simp; omega
      rw [this]; decide +kernel
  all_goals exact ⟨_, rfl, by decide +kernel, by decide +kernel, by decide +kernel, by decide +kernel⟩

theorem bits_and_raw (n m : Int) (p : Nat) (hm : (BitVec.ofInt 64 m).toNat = 2 ^ p - 1) :
    bits .and .i64 n m = wrap64 (((n % ((2 ^ 64 : Nat) : Int)).toNat % 2 ^ p : Nat) : Int) := by
  have key : (BitVec.ofInt 64 n &&& BitVec.ofInt 64 m).toNat = (n % ((2 ^ 64 : Nat) : Int)).toNat % 2 ^ p := by
    rw [BitVec.toNat_and, BitVec.toNat_ofInt, hm, Nat.and_two_pow_sub_one_eq_mod]
  show IntKind.i64.wrap ((BitVec.ofInt 64 n &&& BitVec.ofInt 64 m).toNat : Nat) = _
  rw [key, wrap_i64']
theorem and_255 (n : Int) : bits .and .i64 n 255 = n % 256 := by rw [bits_and_raw n 255 8 (by decide)]; unfold wrap64; omega
theorem and_65535 (n : Int) : bits .and .i64 n 65535 = n % 65536 := by rw [bits_and_raw n 65535 16 (by decide)]; unfold wrap64; omega
theorem and_63 (n : Int) : bits .and .i64 n 63 = n % 64 := by rw [bits_and_raw n 63 6 (by decide)]; unfold wrap64; omega
theorem and_15 (n : Int) : bits .and .i64 n 15 = n % 16 := by rw [bits_and_raw n 15 4 (by decide)]; unfold wrap64; omega
theorem and_7 (n : Int) : bits .and .i64 n 7 = n % 8 := by rw [bits_and_raw n 7 3 (by decide)]; unfold wrap64; omega

theorem new_rounds (l : List Int) (d : Nat) : ∀ (k : Nat) (x i : Int), 0 ≤ i → i ≤ 4000 → 4000 - i = d → d < k → ∃ h, spec_l1New.l0 k l x i = some (l, 0, h) := by
  induction d with
  | zero =>
    intro k x i h0 h1 hd hk
    obtain ⟨k, rfl⟩ : ∃ m, k = m + 1 := ⟨k - 1, by omega⟩
    simp only [spec_l1New.l0]
    by_cases hl : i < (l.length : Int)
    · rw [if_pos hl, if_neg (by omega)]; exact ⟨_, rfl⟩
    · rw [if_neg hl]; exact ⟨_, rfl⟩
  | succ d ih =>
    intro k x i h0 h1 hd hk
    obtain ⟨k, rfl⟩ : ∃ m, k = m + 1 := ⟨k - 1, by omega⟩
    simp only [spec_l1New.l0]
    by_cases hl : i < (l.length : Int)
    · rw [if_pos hl, if_pos (by omega), if_pos h0, show wrap64 (i + 1) = i + 1 from wrap_in (by omega) (by omega)]
      exact ih k _ (i + 1) (by omega) (by omega) (by omega) (by omega)
    · rw [if_neg hl]; exact ⟨_, rfl⟩
theorem new_tells (k : Nat) (l : List Int) (hk : 4001 ≤ k) : ∃ h, spec_l1New.f k l = some (l, 0, h) :=
  new_rounds l 4000 k _ 0 (by omega) (by omega) (by omega) (by omega)
theorem byte_tells (s : List Int) (i h : Int) (hs : s.length ≤ maxLen) (h0 : 0 ≤ i) : ∃ r i' h', spec_l1Byte.f s i h = some (r, i', h') ∧ 0 ≤ i' ∧ 0 ≤ r ∧ r ≤ 255 := by
  unfold maxLen at hs
  unfold spec_l1Byte.f
  by_cases hl : i < (s.length : Int)
  · rw [if_pos hl, if_pos h0, show wrap64 (i + 1) = i + 1 from wrap_in (by omega) (by omega), and_255]
    exact ⟨_, _, _, rfl, by omega, by omega, by omega⟩
  · rw [if_neg hl, and_255]
    exact ⟨_, _, _, rfl, by omega, by omega, by omega⟩
theorem tmod_in {a n : Int} (h : 0 ≤ a) (hn : 0 < n) : 0 ≤ Int.tmod a n ∧ Int.tmod a n < n := by
  rw [Int.tmod_eq_emod_of_nonneg h]; exact ⟨Int.emod_nonneg _ (by omega), Int.emod_lt_of_pos _ hn⟩
theorem below_tells (s : List Int) (i h n : Int) (hs : s.length ≤ maxLen) (h0 : 0 ≤ i) (hn : 0 < n) : ∃ r i' h', spec_l1Below.f s i h n = some (r, i', h') ∧ 0 ≤ i' ∧ 0 ≤ r ∧ r < n := by
  unfold spec_l1Below.f
  rw [if_neg (by omega)]
  by_cases hl : n ≤ 256
  · rw [if_pos hl]
    obtain ⟨r, i1, h1, e, hi, hr0, hr1⟩ := byte_tells s i h hs h0
    rw [e]; simp only [Option.bind_some]; rw [if_neg (by omega)]
    have := tmod_in hr0 hn
    exact ⟨_, _, _, rfl, hi, this.1, this.2⟩
  · rw [if_neg hl]
    obtain ⟨r1, i1, h1, e1, hi1, ha1, hb1⟩ := byte_tells s i h hs h0
    rw [e1]; simp only [Option.bind_some]
    obtain ⟨r2, i2, h2, e2, hi2, ha2, hb2⟩ := byte_tells s i1 h1 hs hi1
    rw [e2]; simp only [Option.bind_some]
    obtain ⟨r3, i3, h3, e3, hi3, ha3, hb3⟩ := byte_tells s i2 h2 hs hi2
    rw [e3]; simp only [Option.bind_some]
    obtain ⟨r4, i4, h4, e4, hi4, ha4, hb4⟩ := byte_tells s i3 h3 hs hi3
    rw [e4]; simp only [Option.bind_some]; rw [if_neg (by omega)]
    rw [wrap_in (n := r1 * 16777216) (by omega) (by omega), wrap_in (n := r2 * 65536) (by omega) (by omega), wrap_in (n := r3 * 256) (by omega) (by omega),
      wrap_in (n := r1 * 16777216 + r2 * 65536) (by omega) (by omega), wrap_in (n := r1 * 16777216 + r2 * 65536 + r3 * 256) (by omega) (by omega), wrap_in (n := r1 * 16777216 + r2 * 65536 + r3 * 256 + r4) (by omega) (by omega)]
    have := tmod_in (a := r1 * 16777216 + r2 * 65536 + r3 * 256 + r4) (n := n) (by omega) hn
    exact ⟨_, _, _, rfl, hi4, this.1, this.2⟩
theorem rd_mem (l : List Int) (i : Int) (h0 : 0 ≤ i) (h1 : i < (l.length : Int)) : rd l i ∈ l := by
  unfold rd
  rw [List.getD_eq_getElem?_getD, List.getElem?_eq_getElem (by omega)]
  exact List.getElem_mem _

def Tells {α : Type} (o : Option α) (P : α → Prop) : Prop := ∃ r, o = some r ∧ P r
theorem Tells.some {α : Type} {P : α → Prop} {r : α} (h : P r) : Tells (some r) P := ⟨r, rfl, h⟩
theorem Tells.imp {α : Type} {o : Option α} {P Q : α → Prop} (h : Tells o P) (f : ∀ r, P r → Q r) : Tells o Q := by obtain ⟨r, e, p⟩ := h; exact ⟨r, e, f r p⟩
theorem Tells.bind {α β : Type} {o : Option α} {f : α → Option β} {P : α → Prop} {Q : β → Prop} (h : Tells o P) (k : ∀ r, P r → Tells (f r) Q) : Tells (o.bind f) Q := by
  obtain ⟨r, e, p⟩ := h; rw [e]; exact k r p
theorem Tells.ite {α : Type} {c : Prop} [Decidable c] {a b : Option α} {P : α → Prop} (h : c → Tells a P) (k : ¬ c → Tells b P) : Tells (if c then a else b) P := by
  by_cases g : c
  · rw [if_pos g]; exact h g
  · rw [if_neg g]; exact k g
theorem new_T (k : Nat) (l : List Int) (hk : 4001 ≤ k) (hs : l.length ≤ maxLen) : Tells (spec_l1New.f k l) (fun r => r.1.length ≤ maxLen ∧ 0 ≤ r.2.1) := by
  obtain ⟨h, e⟩ := new_tells k l hk
  exact ⟨_, e, hs, Int.le_refl 0⟩
theorem below_T (s : List Int) (i h n : Int) (hs : s.length ≤ maxLen) (h0 : 0 ≤ i) (hn : 0 < n) : Tells (spec_l1Below.f s i h n) (fun r => 0 ≤ r.2.1 ∧ 0 ≤ r.1 ∧ r.1 < n) := by
  obtain ⟨r, i1, h1, e, hi, hr0, hr1⟩ := below_tells s i h n hs h0 hn
  exact ⟨_, e, hi, hr0, hr1⟩

theorem once_tells (s : List Int) (i h n : Int) (hs : s.length ≤ maxLen) (h0 : 0 ≤ i) (hn : 0 < n) : ∃ r i' h', spec_l1Once.f s i h n = some (r, i', h') ∧ 0 ≤ i' := by
  unfold spec_l1Once.f
  obtain ⟨r, i1, h1, e, hi, hr0, hr1⟩ := below_tells s i h n hs h0 hn
  rw [e]; exact ⟨_, _, _, rfl, hi⟩

theorem once_T (s : List Int) (i h n : Int) (hs : s.length ≤ maxLen) (h0 : 0 ≤ i) (hn : 0 < n) : Tells (spec_l1Once.f s i h n) (fun r => 0 ≤ r.2.1) := by
  obtain ⟨r, i1, h1, e, hi⟩ := once_tells s i h n hs h0 hn
  exact ⟨_, e, hi⟩

theorem pick_tells (s : List Int) (i h : Int) (l : List Int) (hs : s.length ≤ maxLen) (h0 : 0 ≤ i) (hl : 0 < (l.length : Int)) : ∃ r i' h', spec_l1PickInt.f s i h l = some (r, i', h') ∧ 0 ≤ i' ∧ r ∈ l := by
  unfold spec_l1PickInt.f
  obtain ⟨r, i1, h1, e, hi, hr0, hr1⟩ := below_tells s i h l.length hs h0 hl
  rw [e]; simp only [Option.bind_some]
  rw [if_pos hr0, if_pos hr1]
  exact ⟨_, _, _, rfl, hi, rd_mem l r hr0 hr1⟩

theorem pick_T (s : List Int) (i h : Int) (l : List Int) (hs : s.length ≤ maxLen) (h0 : 0 ≤ i) (hl : 0 < (l.length : Int)) : Tells (spec_l1PickInt.f s i h l) (fun r => 0 ≤ r.2.1 ∧ r.1 ∈ l) := by
  obtain ⟨r, i1, h1, e, hi, hr⟩ := pick_tells s i h l hs h0 hl
  exact ⟨_, e, hi, hr⟩

theorem has_T (op : Int) : Tells (spec_l6Has.f op) (fun _ => True) := by
  obtain ⟨t, e, _⟩ := has_bits4 op
  exact ⟨t, e, True.intro⟩
theorem ins_j1 (k : Nat) (x5 x6 x8 : Int) (s : List Int) (i h a b c d e : Int) (h0 : 0 ≤ i) : Tells (spec_l6DrawIns.j1 (k + 1) x5 x6 x8 s i h a b c d e) (fun r => 0 ≤ r.2.2.2.2.2.1) := by
  simp only [spec_l6DrawIns.j1]
  repeat' (first | ((with_reducible refine Tells.some ?_); first | (dsimp only; omega) | exact True.intro) | (with_reducible refine Tells.ite (fun _ => ?_) (fun _ => ?_)))
theorem ins_j0 (k : Nat) (x4 x5 x6 x8 : Int) (s : List Int) (i h a b c d e : Int) (h0 : 0 ≤ i) : Tells (spec_l6DrawIns.j0 (k + 2) x4 x5 x6 x8 s i h a b c d e) (fun r => 0 ≤ r.2.2.2.2.2.1) := by
  simp only [spec_l6DrawIns.j0]
  exact Tells.ite (fun _ => ins_j1 _ _ _ _ _ _ _ _ _ _ _ _ h0) (fun _ => ins_j1 _ _ _ _ _ _ _ _ _ _ _ _ h0)
theorem ins_T (k : Nat) (s : List Int) (i h : Int) (hs : s.length ≤ maxLen) (h0 : 0 ≤ i) : Tells (spec_l6DrawIns.f (k + 2) s i h) (fun r => 0 ≤ r.2.2.2.2.2.1) := by
  unfold spec_l6DrawIns.f
  refine Tells.bind (below_T _ _ _ _ hs h0 (by omega)) (fun r1 p1 => ?_)
  refine Tells.bind (below_T _ _ _ _ hs p1.1 (by omega)) (fun r2 p2 => ?_)
  refine Tells.bind (below_T _ _ _ _ hs p2.1 (by omega)) (fun r3 p3 => ?_)
  refine Tells.bind (pick_T _ _ _ _ hs p3.1 (by simp)) (fun r4 p4 => ?_)
  refine Tells.bind (pick_T _ _ _ _ hs p4.1 (by simp)) (fun r5 p5 => ?_)
  refine Tells.bind (has_T _) (fun r6 _ => ?_)
  exact Tells.ite (fun _ => ins_j0 _ _ _ _ _ _ _ _ _ _ _ _ _ p5.1) (fun _ => ins_j0 _ _ _ _ _ _ _ _ _ _ _ _ _ p5.1)
theorem spoil_T (s : List Int) (i h a b c d e : Int) (hs : s.length ≤ maxLen) (h0 : 0 ≤ i) : Tells (spec_l6Spoil.f s i h a b c d e) (fun _ => True) := by
  unfold spec_l6Spoil.f
  repeat' (first
    | ((with_reducible refine Tells.some ?_); first | (dsimp only; omega) | exact True.intro)
    | (with_reducible refine Tells.ite (fun _ => ?_) (fun _ => ?_))
    | ((with_reducible refine Tells.bind (below_T _ _ _ _ ?_ ?_ ?_) ?_); exact hs; omega; omega; intro _ _)
    | ((with_reducible refine Tells.imp (below_T _ _ _ _ ?_ ?_ ?_) ?_); exact hs; omega; omega; intro _ _; first | assumption | omega | (dsimp only at *; omega) | exact True.intro)
    | ((with_reducible refine Tells.bind (pick_T _ _ _ _ ?_ ?_ ?_) ?_); exact hs; omega; (first | decide | simp); intro _ _)
    | ((with_reducible refine Tells.imp (pick_T _ _ _ _ ?_ ?_ ?_) ?_); exact hs; omega; (first | decide | simp); intro _ _; first | assumption | omega | (dsimp only at *; omega) | exact True.intro))
theorem one_T (k : Nat) (l : List Int) (hs : l.length ≤ maxLen) : Tells (spec_l6DrawOne.f (k + 4001) l) (fun _ => True) := by
  unfold spec_l6DrawOne.f
  refine Tells.bind (new_T _ _ (by omega) hs) (fun r hr => ?_)
  refine Tells.bind (ins_T (k + 3999) _ _ _ hr.1 hr.2) (fun r1 p1 => ?_)
  refine Tells.bind (once_T _ _ _ _ hr.1 p1 (by omega)) (fun r2 p2 => ?_)
  refine Tells.ite (fun _ => ?_) (fun _ => Tells.some True.intro)
  exact Tells.bind (spoil_T _ _ _ _ _ _ _ _ hr.1 p2) (fun _ _ => Tells.some True.intro)

theorem code_l0 (s : List Int) (hs : s.length ≤ maxLen) (n : Int) (d : Nat) : ∀ (k : Nat) (l : List S25) (i : Int) (c h : Int), 0 ≤ i → i + d ≤ 100 → n - i = d → d + 3 < k → l.length + d ≤ 100 → 0 ≤ c → Tells (spec_l6DrawCode.l0 k l n i s c h) (fun r => 1 ≤ r.1.length ∧ r.1.length ≤ 101 ∧ 0 ≤ r.2.1) := by
  induction d with
  | zero =>
    intro k l i c h h0 hi hd hk hl hc
    obtain ⟨k, rfl⟩ : ∃ m, k = m + 1 := ⟨k - 1, by omega⟩
    simp only [spec_l6DrawCode.l0]; rw [if_neg (by omega), if_pos (by omega)]
    exact Tells.some ⟨by simp, by simp; omega, hc⟩
  | succ d ih =>
    intro k l i c h h0 hi hd hk hl hc
    obtain ⟨k, rfl⟩ : ∃ m, k = m + 3 := ⟨k - 3, by omega⟩
    simp only [spec_l6DrawCode.l0]
    by_cases hin : i < n
    · rw [if_pos hin]
      refine Tells.bind (ins_T k s c h hs hc) (fun r p => ?_)
      rw [if_pos (by omega), show wrap64 (i + 1) = i + 1 from wrap_in (by omega) (by omega)]
      exact ih (k + 2) _ (i + 1) _ _ (by omega) (by omega) (by omega) (by omega) (by simp; omega) p
    · omega
theorem code_j0 (k : Nat) (s : List Int) (hs : s.length ≤ maxLen) (l : List S25) (c h : Int) (hl : l.length ≤ 10) (hc : 0 ≤ c) : Tells (spec_l6DrawCode.j0 (k + 30) l s c h) (fun r => 1 ≤ r.1.length ∧ r.1.length ≤ 101 ∧ 0 ≤ r.2.1) := by
  rw [show k + 30 = k + 29 + 1 from rfl]
  simp only [spec_l6DrawCode.j0]
  refine Tells.bind (below_T _ _ _ _ hs hc (by omega)) (fun r p => ?_)
  exact code_l0 s hs r.1 r.1.toNat (k + 29) l 0 _ _ (by omega) (by omega) (by omega) (by omega) (by omega) p.1
theorem code_T (k : Nat) (s : List Int) (i h : Int) (hs : s.length ≤ maxLen) (h0 : 0 ≤ i) : Tells (spec_l6DrawCode.f (k + 30) s i h) (fun r => 1 ≤ r.1.length ∧ r.1.length ≤ 101 ∧ 0 ≤ r.2.1) := by
  unfold spec_l6DrawCode.f
  simp only [Option.bind_some]
  refine Tells.bind (below_T _ _ _ _ hs h0 (by omega)) (fun r p => ?_)
  refine Tells.ite (fun _ => ?_) (fun _ => Tells.ite (fun _ => ?_) (fun _ => Tells.ite (fun _ => ?_) (fun _ => ?_)))
  · rw [if_pos (by simp)]; exact code_j0 k s hs _ _ _ (by simp) p.1
  · rw [if_pos (by simp)]; exact code_j0 k s hs _ _ _ (by simp) p.1
  · rw [if_pos (by simp)]; exact code_j0 k s hs _ _ _ (by simp) p.1
  · exact code_j0 k s hs _ _ _ (by simp) p.1
theorem dcode_l0 (s : List Int) (hs : s.length ≤ maxLen) (d : Nat) : ∀ (k : Nat) (l : List S25) (c h : Int), 60 - (l.length : Int) ≤ d → l.length ≤ 101 → d < k → 0 ≤ c → Tells (spec_DrawCodeOk.l0 k l s c h) (fun r => r.length ≤ 101) := by
  induction d with
  | zero =>
    intro k l c h hd hl hk hc
    obtain ⟨k, rfl⟩ : ∃ m, k = m + 1 := ⟨k - 1, by omega⟩
    simp only [spec_DrawCodeOk.l0]
    refine Tells.bind (below_T _ _ _ _ hs hc (by omega)) (fun r p => ?_)
    rw [show wrap64 (48 + r.1) = 48 + r.1 from wrap_in (by omega) (by omega), if_neg (by omega)]
    exact Tells.some hl
  | succ d ih =>
    intro k l c h hd hl hk hc
    obtain ⟨k, rfl⟩ : ∃ m, k = m + 1 := ⟨k - 1, by omega⟩
    simp only [spec_DrawCodeOk.l0]
    refine Tells.bind (below_T _ _ _ _ hs hc (by omega)) (fun r p => ?_)
    rw [show wrap64 (48 + r.1) = 48 + r.1 from wrap_in (by omega) (by omega)]
    by_cases h2 : (l.length : Int) < 48 + r.1
    · rw [if_pos h2, if_pos (by omega)]
      exact ih k _ _ _ (by simp; omega) (by simp; omega) (by omega) p.1
    · rw [if_neg h2]; exact Tells.some hl
theorem dcode_T (k : Nat) (l : List Int) (hs : l.length ≤ maxLen) : Tells (spec_DrawCodeOk.f (k + 4001) l) (fun r => r.length ≤ 101) := by
  unfold spec_DrawCodeOk.f
  refine Tells.bind (new_T _ _ (by omega) hs) (fun r hr => ?_)
  refine Tells.bind (code_T (k + 3971) _ _ _ hr.1 hr.2) (fun r1 p1 => ?_)
  refine Tells.bind (below_T _ _ _ _ hr.1 p1.2.2 (by omega)) (fun r2 p2 => ?_)
  refine Tells.bind (below_T _ _ _ _ hr.1 p2.1 (by omega)) (fun r3 p3 => ?_)
  refine Tells.ite (fun _ => ?_) (fun _ => Tells.ite (fun _ => ?_) (fun _ => Tells.ite (fun _ => ?_) (fun _ => Tells.some p1.2.1)))
  · rw [if_pos p2.2.1, if_pos p2.2.2]
    exact Tells.bind (spoil_T _ _ _ _ _ _ _ _ hr.1 p3.1) (fun _ _ => Tells.some (by simp; exact p1.2.1))
  · rw [if_pos p2.2.1, if_pos (by omega)]
    exact Tells.some (by simp; omega)
  · exact dcode_l0 r.1 hr.1 60 _ _ _ _ (by omega) p1.2.1 (by omega) p3.1

def fM (x : Int) (h : Bool) : Bool := decide (0 ≤ x ∧ x ≤ 7) && (h || x == 0)
def nM (x : Int) (h : Bool) : Bool := decide (-128 ≤ x ∧ x ≤ 127) && (h || x == 0)
def insM (op r a b n : Int) : Bool := hOp op && (fM r (hR op) && (fM a (hA op) && (fM b (hB op) && nM n (hN op))))
theorem fM_not (x : Int) : (x == 0) = fM x false := by
  unfold fM; by_cases h : x = 0
  · subst h; rfl
  · have : (x == 0) = false := by simpa using h
    rw [this]; simp
theorem nM_not (x : Int) : (x == 0) = nM x false := by
  unfold nM; by_cases h : x = 0
  · subst h; rfl
  · have : (x == 0) = false := by simpa using h
    rw [this]; simp
theorem fM_yes (x : Int) : decide (0 ≤ x ∧ x ≤ 7) = fM x true := by unfold fM; simp
theorem nM_yes (x : Int) : decide (-128 ≤ x ∧ x ≤ 127) = nM x true := by unfold nM; simp
theorem ok_step (k : Nat) (x4 : Bool) (op r a b n i i' c x : Int) (h : Bool) (hi : 0 ≤ i) (hi4 : i < 4) (hc : rd ([82, 65, 66, 78] : List Int) i = c) (hw : wrap64 (i + 1) = i') (hp : impl_partOf.f op r a b n c = some x) (hh : impl_hasPart.f k op r a b n c = some h) (hne : c ≠ 78) :
    impl_InsOk.l0 (k + 1) x4 i op r a b n = impl_InsOk.l0 k (x4 && fM x h) i' op r a b n := by
  simp only [impl_InsOk.l0]
  rw [if_pos hi4, if_pos hi]
  simp only [hc, hp, hh, hw, Option.bind_some]
  cases h with
  | false => cases x4 <;> simp [← fM_not]
  | true => cases x4 <;> simp [hne, impl_in_eq, ← fM_yes]
theorem ok_stepN (k : Nat) (x4 : Bool) (op r a b n : Int) (h : Bool) (hh : impl_hasPart.f k op r a b n 78 = some h) :
    impl_InsOk.l0 (k + 1) x4 3 op r a b n = impl_InsOk.l0 k (x4 && nM n h) 4 op r a b n := by
  have hp : impl_partOf.f op r a b n 78 = some n := by unfold impl_partOf.f; simp
  simp only [impl_InsOk.l0]
  rw [if_pos (by decide), if_pos (by decide), show rd ([82, 65, 66, 78] : List Int) 3 = 78 from rfl, show wrap64 (3 + 1) = 4 by unfold wrap64; omega]
  simp only [hp, hh, Option.bind_some]
  cases h with
  | false => cases x4 <;> simp [← nM_not]
  | true => cases x4 <;> simp [impl_in_eq, ← nM_yes]
theorem ok_stepE (k : Nat) (x4 : Bool) (op r a b n : Int) : impl_InsOk.l0 (k + 1) x4 4 op r a b n = some x4 := by
  simp only [impl_InsOk.l0]; rw [if_neg (by decide)]
theorem impl_InsOk_eq (k : Nat) (op r a b n : Int) (hk : 20 ≤ k) : impl_InsOk.f k op r a b n = some (insM op r a b n) := by
  obtain ⟨k, rfl⟩ : ∃ m, k = m + 20 := ⟨k - 20, by omega⟩
  obtain ⟨s, e⟩ := formOf_ok (k + 18) op
  unfold impl_InsOk.f
  rw [show k + 20 = k + 18 + 2 from rfl, e]; simp only [Option.bind_some]
  show impl_InsOk.l0 (k + 19 + 1) (hOp op) 0 op r a b n = _
  rw [ok_step (k + 19) (hOp op) op r a b n 0 1 82 r (hR op) (by omega) (by omega) rfl (by unfold wrap64; omega) (by unfold impl_partOf.f; simp) (hasPart_R _ _ _ _ _ _ (by omega)) (by omega),
    ok_step (k + 18) _ op r a b n 1 2 65 a (hA op) (by omega) (by omega) rfl (by unfold wrap64; omega) (by unfold impl_partOf.f; simp) (hasPart_A _ _ _ _ _ _ (by omega)) (by omega),
    ok_step (k + 17) _ op r a b n 2 3 66 b (hB op) (by omega) (by omega) rfl (by unfold wrap64; omega) (by unfold impl_partOf.f; simp) (hasPart_B _ _ _ _ _ _ (by omega)) (by omega),
    ok_stepN (k + 16) _ op r a b n (hN op) (hasPart_N _ _ _ _ _ _ (by omega)), ok_stepE (k + 15)]
  unfold insM; simp only [Bool.and_assoc]
theorem spec_Field_eq (x : Int) (h : Bool) : spec_l6Field.f x h = some (fM x h) := by
  unfold spec_l6Field.f fM; rw [spec_in_eq]; simp only [Option.bind_some]
  by_cases hx : 0 ≤ x ∧ x ≤ 7
  · rw [if_pos (decide_eq_true hx)]; cases h <;> simp [hx]
  · rw [if_neg (by simpa using hx)]; simp [hx]
theorem spec_InsOk_eq (op r a b n : Int) : spec_InsOk.f op r a b n = some (insM op r a b n) := by
  obtain ⟨t, e, h1, h2, h3, h4⟩ := has_bits4 op
  unfold spec_InsOk.f
  rw [e]; simp only [Option.bind_some, spec_in_eq, h1, h2, h3, spec_Field_eq]
  unfold insM hOp
  by_cases ho : 1 ≤ op ∧ op ≤ 15
  · rw [if_pos (decide_eq_true ho)]
    cases fM r (hR op) <;> cases fM a (hA op) <;> cases fM b (hB op) <;> simp [ho]
    unfold nM
    by_cases hn : -128 ≤ n ∧ n ≤ 127
    · rw [if_pos hn]; simp only [hn, and_self, decide_true, Bool.true_and]
      cases hh : hN op with
      | false => rw [if_pos (h4.mpr hh)]; simp
      | true => rw [if_neg (by rw [h4, hh]; simp)]; simp
    · rw [if_neg hn]; simp [hn]
  · rw [if_neg (by simpa using ho)]; simp [ho]

def w32 (op r a b n : Int) : Int := wrap64 ((wrap64 ((wrap64 ((wrap64 (op + (wrap64 (16 * r)))) + (wrap64 (128 * a)))) + (wrap64 (1024 * b)))) + (wrap64 (8192 * (wrap64 (n + 128)))))
def word32M (op r a b n : Int) : Int × Bool := if insM op r a b n = true then (w32 op r a b n, true) else (0, false)
theorem impl_Word32_eq (k : Nat) (op r a b n : Int) (hk : 20 ≤ k) : impl_Word32.f k op r a b n = some (word32M op r a b n) := by
  unfold impl_Word32.f word32M w32
  rw [impl_InsOk_eq _ _ _ _ _ _ hk]; simp only [Option.bind_some]
  by_cases h : insM op r a b n = true
  · rw [if_pos h, if_pos h]
  · rw [if_neg h, if_neg h]
theorem spec_Word32_eq (op r a b n : Int) : spec_Word32.f op r a b n = some (word32M op r a b n) := by
  unfold spec_Word32.f word32M w32
  rw [spec_InsOk_eq]; simp only [Option.bind_some]
  by_cases h : insM op r a b n = true
  · rw [if_pos h, if_pos h]
  · rw [if_neg h, if_neg h]

theorem wf64 {n : Int} (h : (Lit.int .i64 n).wf = true) : -9223372036854775808 ≤ n ∧ n ≤ 9223372036854775807 := by
  simp only [Lit.wf, Bool.and_eq_true, decide_eq_true_eq] at h
  exact h


theorem insM_n {op r a b n : Int} (h : insM op r a b n = true) : -128 ≤ n ∧ n ≤ 127 := by
  unfold insM nM at h; simp only [Bool.and_eq_true, decide_eq_true_eq] at h; exact h.2.2.2.2.1
def insOfM (n : Int) : Int × Int × Int × Int × Int × Bool :=
  if n < 0 then (0, 0, 0, 0, 0, false) else if insM (n % 16) (n / 16 % 8) (n / 128 % 8) (n / 1024 % 8) (n / 8192 - 128) = true then
    (if w32 (n % 16) (n / 16 % 8) (n / 128 % 8) (n / 1024 % 8) (n / 8192 - 128) = n then (n % 16, n / 16 % 8, n / 128 % 8, n / 1024 % 8, n / 8192 - 128, true) else (0, 0, 0, 0, 0, false)) else (0, 0, 0, 0, 0, false)
theorem impl_InsOf_eq (k : Nat) (n : Int) (hk : 20 ≤ k) (h0 : -9223372036854775808 ≤ n) (h1 : n ≤ 9223372036854775807) : impl_InsOf.f k n = some (insOfM n) := by
  unfold impl_InsOf.f insOfM
  rw [and_15, and_7, and_7, and_7, show wrap64 (n / 8192 - 128) = n / 8192 - 128 from wrap_in (by omega) (by omega), impl_Word32_eq _ _ _ _ _ _ hk]
  simp only [Option.bind_some]
  unfold word32M
  by_cases hn : n < 0
  · rw [if_pos hn]
    have : ¬ insM (n % 16) (n / 16 % 8) (n / 128 % 8) (n / 1024 % 8) (n / 8192 - 128) = true := fun h => by have := insM_n h; omega
    rw [if_neg this]; simp
  · rw [if_neg hn]
    by_cases h : insM (n % 16) (n / 16 % 8) (n / 128 % 8) (n / 1024 % 8) (n / 8192 - 128) = true
    · rw [if_pos h, if_pos h]; dsimp only; rw [if_pos rfl]; split <;> rfl
    · rw [if_neg h, if_neg h]; rfl
theorem spec_InsOf_eq (n : Int) (h1 : n ≤ 9223372036854775807) : spec_InsOf.f n = some (insOfM n) := by
  unfold spec_InsOf.f insOfM
  by_cases hn : n < 0
  · rw [if_pos hn, if_pos hn]
  · rw [if_neg hn, if_neg hn]
    have t16 : Int.tmod n 16 = n % 16 := Int.tmod_eq_emod_of_nonneg (by omega)
    have td : ∀ m : Int, Int.tdiv n m = n / m := fun m => Int.tdiv_eq_ediv_of_nonneg (by omega)
    have tm : ∀ x : Int, 0 ≤ x → Int.tmod x 8 = x % 8 := fun x hx => Int.tmod_eq_emod_of_nonneg hx
    rw [t16, td, td, td, td, show wrap64 (n / 16) = n / 16 from wrap_in (by omega) (by omega), show wrap64 (n / 128) = n / 128 from wrap_in (by omega) (by omega), show wrap64 (n / 1024) = n / 1024 from wrap_in (by omega) (by omega), show wrap64 (n / 8192) = n / 8192 from wrap_in (by omega) (by omega),
      show wrap64 (n / 8192 - 128) = n / 8192 - 128 from wrap_in (by omega) (by omega), tm _ (by omega), tm _ (by omega), tm _ (by omega), spec_Word32_eq]
    simp only [Option.bind_some]
    unfold word32M
    by_cases h : insM (n % 16) (n / 16 % 8) (n / 128 % 8) (n / 1024 % 8) (n / 8192 - 128) = true
    · rw [if_pos h, if_pos h]; dsimp only; rw [if_pos rfl]; split <;> rfl
    · rw [if_neg h, if_neg h]; rfl


def insT (x : S25) : Bool := insM x.f0 x.f1 x.f2 x.f3 x.f4

theorem drop_rdI (l : List S25) (i : Int) (h0 : 0 ≤ i) (h : i < (l.length : Int)) : l.drop i.toNat = rd_T25 l i :: l.drop (i + 1).toNat := by
  rw [List.drop_eq_getElem_cons (by omega), show (i + 1).toNat = i.toNat + 1 by omega]
  congr 1
  unfold rd_T25
  rw [List.getD_eq_getElem?_getD, List.getElem?_eq_getElem (by omega)]; rfl
theorem drop_endI (l : List S25) (i : Int) (h : ¬ i < (l.length : Int)) : l.drop i.toNat = [] := List.drop_eq_nil_of_le (by omega)
theorem cfC_rounds (l : List S25) (hl : l.length ≤ 2000000) (d : Nat) : ∀ (k : Nat) (i : Int), 0 ≤ i → (l.length : Int) - i = d → d + 21 < k → ∃ r, CF_impl_CodeOk_1.l0 k l i = some r ∧ decide (0 ≤ r) = !((l.drop i.toNat).all insT) := by
  induction d with
  | zero =>
    intro k i h0 hd hk
    obtain ⟨k, rfl⟩ : ∃ m, k = m + 1 := ⟨k - 1, by omega⟩
    simp only [CF_impl_CodeOk_1.l0]; rw [if_neg (by omega), drop_endI l i (by omega)]; exact ⟨_, rfl, rfl⟩
  | succ d ih =>
    intro k i h0 hd hk
    obtain ⟨k, rfl⟩ : ∃ m, k = m + 1 := ⟨k - 1, by omega⟩
    simp only [CF_impl_CodeOk_1.l0]; rw [if_pos (by omega), if_pos h0]
    unfold impl_CodeOk_1.f
    rw [impl_InsOk_eq _ _ _ _ _ _ (by omega), drop_rdI l i h0 (by omega)]; simp only [Option.bind_some, List.all_cons]
    rw [show insM (rd_T25 l i).f0 (rd_T25 l i).f1 (rd_T25 l i).f2 (rd_T25 l i).f3 (rd_T25 l i).f4 = insT (rd_T25 l i) from rfl]
    cases insT (rd_T25 l i) with
    | false => exact ⟨i, by simp, by simp [h0]⟩
    | true =>
      obtain ⟨r, e, p⟩ := ih k (i + 1) (by omega) (by omega) (by omega)
      refine ⟨r, ?_, by simpa using p⟩
      simp only [Bool.not_true, Bool.false_eq_true, if_false]
      rw [show wrap64 (i + 1) = i + 1 from wrap_in (by omega) (by omega)]; exact e
def codeM (l : List S25) : Bool := decide (1 ≤ l.length ∧ l.length ≤ 48) && l.all insT
theorem impl_CodeOk_eq (k : Nat) (l : List S25) (hl : l.length ≤ 2000000) (hk : l.length + 21 < k) : impl_CodeOk.f k l = some (codeM l) := by
  obtain ⟨r, e, p⟩ := cfC_rounds l hl l.length k 0 (by omega) (by omega) hk
  unfold impl_CodeOk.f codeM
  rw [impl_in_eq]; simp only [Option.bind_some]
  by_cases h : 1 ≤ l.length ∧ l.length ≤ 48
  · rw [if_pos (by simp; omega)]
    unfold CF_impl_CodeOk_1.f
    rw [e]; simp only [Option.bind_some, ge_iff_le, p]
    simp [h]
  · rw [if_neg (by simp; omega)]; simp [h]
theorem spC_rounds (l : List S25) (hl : l.length ≤ 2000000) (d : Nat) : ∀ (k : Nat) (i : Int), 0 ≤ i → (l.length : Int) - i = d → d < k → spec_CodeOk.l0 k l i = some ((l.drop i.toNat).all insT && decide (1 ≤ l.length ∧ l.length ≤ 48)) := by
  induction d with
  | zero =>
    intro k i h0 hd hk
    obtain ⟨k, rfl⟩ : ∃ m, k = m + 1 := ⟨k - 1, by omega⟩
    simp only [spec_CodeOk.l0]; rw [if_neg (by omega), drop_endI l i (by omega), spec_in_eq]; simp only [Option.bind_some, List.all_nil, Bool.true_and]
    congr 1; rw [decide_eq_decide]; omega
  | succ d ih =>
    intro k i h0 hd hk
    obtain ⟨k, rfl⟩ : ∃ m, k = m + 1 := ⟨k - 1, by omega⟩
    simp only [spec_CodeOk.l0]; rw [if_pos (by omega), if_pos h0]
    rw [spec_InsOk_eq, drop_rdI l i h0 (by omega)]; simp only [Option.bind_some, List.all_cons]
    rw [show insM (rd_T25 l i).f0 (rd_T25 l i).f1 (rd_T25 l i).f2 (rd_T25 l i).f3 (rd_T25 l i).f4 = insT (rd_T25 l i) from rfl]
    cases insT (rd_T25 l i) with
    | false => simp
    | true =>
      simp only [if_true, Bool.true_and]
      rw [show wrap64 (i + 1) = i + 1 from wrap_in (by omega) (by omega)]; exact ih k (i + 1) (by omega) (by omega) (by omega)
theorem spec_CodeOk_eq (k : Nat) (l : List S25) (hl : l.length ≤ 2000000) (hk : l.length < k) : spec_CodeOk.f k l = some (codeM l) := by
  unfold spec_CodeOk.f codeM
  rw [spC_rounds l hl l.length k 0 (by omega) (by omega) hk]
  simp [Bool.and_comm]

theorem drawW_T (k : Nat) (l : List Int) (hs : l.length ≤ maxLen) : Tells (spec_DrawWord32.f (k + 4001) l) (fun _ => True) := by
  unfold spec_DrawWord32.f
  exact Tells.bind (one_T k l hs) (fun _ _ => Tells.some True.intro)
theorem drawS_T (k : Nat) (l : List Int) (hs : l.length ≤ maxLen) : Tells (spec_DrawSets.f (k + 4001) l) (fun _ => True) := by
  unfold spec_DrawSets.f
  exact Tells.bind (one_T k l hs) (fun _ _ => Tells.some True.intro)
theorem drawI_T (k : Nat) (l : List Int) (hs : l.length ≤ maxLen) : Tells (spec_DrawInsOk.f (k + 4001) l) (fun _ => True) := by
  unfold spec_DrawInsOk.f
  exact Tells.bind (one_T k l hs) (fun _ _ => Tells.some True.intro)
theorem w32_in (op r a b n : Int) : -9223372036854775808 ≤ (word32M op r a b n).1 ∧ (word32M op r a b n).1 ≤ 9223372036854775807 := by
  unfold word32M w32; split
  · exact wrap_lo _
  · dsimp only; omega
theorem drawN_T (k : Nat) (l : List Int) (hs : l.length ≤ maxLen) : Tells (spec_DrawInsOf.f (k + 4001) l) (fun r => -9223372036854775808 ≤ r ∧ r ≤ 9223372036854775807) := by
  unfold spec_DrawInsOf.f
  refine Tells.bind (new_T _ _ (by omega) hs) (fun r hr => ?_)
  refine Tells.bind (ins_T (k + 3999) _ _ _ hr.1 hr.2) (fun r1 p1 => ?_)
  rw [spec_Word32_eq]; simp only [Option.bind_some]
  refine Tells.bind (below_T _ _ _ _ hr.1 p1 (by omega)) (fun r2 p2 => ?_)
  refine Tells.ite (fun _ => ?_) (fun _ => Tells.ite (fun _ => ?_) (fun _ => Tells.some (w32_in _ _ _ _ _)))
  · exact Tells.bind (pick_T _ _ _ _ hr.1 p2.1 (by simp)) (fun _ _ => Tells.some (wrap_lo _))
  · refine Tells.bind (pick_T _ _ _ _ hr.1 p2.1 (by simp)) (fun q hq => Tells.some ?_)
    have := hq.2
    simp only [List.mem_cons, List.not_mem_nil, or_false] at this
    omega
theorem insM_bounds {op r a b n : Int} (h : insM op r a b n = true) : (1 ≤ op ∧ op ≤ 15) ∧ (0 ≤ r ∧ r ≤ 7) ∧ (0 ≤ a ∧ a ≤ 7) ∧ (0 ≤ b ∧ b ≤ 7) ∧ (-128 ≤ n ∧ n ≤ 127) := by
  unfold insM fM nM hOp at h; simp only [Bool.and_eq_true, decide_eq_true_eq] at h
  exact ⟨h.1, h.2.1.1, h.2.2.1.1, h.2.2.2.1.1, h.2.2.2.2.1⟩
theorem w32_plain {op r a b n : Int} (h : insM op r a b n = true) : w32 op r a b n = op + 16 * r + 128 * a + 1024 * b + 8192 * (n + 128) := by
  obtain ⟨h1, h2, h3, h4, h5⟩ := insM_bounds h
  unfold w32 wrap64; omega
theorem insOf_back {op r a b n : Int} (h : insM op r a b n = true) : insOfM (w32 op r a b n) = (op, r, a, b, n, true) := by
  have e := w32_plain h
  obtain ⟨h1, h2, h3, h4, h5⟩ := insM_bounds h
  obtain ⟨m, hm⟩ : ∃ m, m = w32 op r a b n := ⟨_, rfl⟩
  have e' : m = op + 16 * r + 128 * a + 1024 * b + 8192 * (n + 128) := hm.trans e
  have f0 : m % 16 = op := by omega
  have f1 : m / 16 % 8 = r := by omega
  have f2 : m / 128 % 8 = a := by omega
  have f3 : m / 1024 % 8 = b := by omega
  have f4 : m / 8192 - 128 = n := by omega
  rw [← hm]; unfold insOfM
  rw [if_neg (by omega), f0, f1, f2, f3, f4, if_pos h, if_pos hm.symm]
theorem insOf_cases (n : Int) : insOfM n = (0, 0, 0, 0, 0, false) ∨ ∃ op r a b m, insOfM n = (op, r, a, b, m, true) ∧ word32M op r a b m = (n, true) := by
  unfold insOfM word32M
  by_cases h0 : n < 0
  · left; rw [if_pos h0]
  · rw [if_neg h0]
    by_cases h1 : insM (n % 16) (n / 16 % 8) (n / 128 % 8) (n / 1024 % 8) (n / 8192 - 128) = true
    · rw [if_pos h1]
      by_cases h2 : w32 (n % 16) (n / 16 % 8) (n / 128 % 8) (n / 1024 % 8) (n / 8192 - 128) = n
      · right; rw [if_pos h2]; exact ⟨_, _, _, _, _, rfl, by rw [if_pos h1, h2]⟩
      · left; rw [if_neg h2]
    · left; rw [if_neg h1]
theorem sets_same (k : Nat) (op r a b n : Int) (hk : 12 ≤ k) : ∃ v, impl_Sets.f k op r a b n = some v ∧ spec_Sets.f op r a b n = some v := by
  obtain ⟨t, e, h1, _⟩ := has_bits4 op
  unfold spec_Sets.f impl_Sets.f
  rw [e, hasPart_R k op r a b n hk]; simp only [Option.bind_some]
  cases hh : hR op with
  | false => rw [hh] at h1; have h2 : Go.bits .and .i64 t 1 = 0 := by simpa using h1
             exact ⟨-1, by simp, by rw [if_pos h2]⟩
  | true => rw [hh] at h1; have h2 : ¬ Go.bits .and .i64 t 1 = 0 := by simpa using h1
            exact ⟨r, by simp, by rw [if_neg h2]⟩
theorem codes_j1 (k : Nat) (l : List Int) (hl : l.length ≤ maxLen) : laws_FnCodes.j1 (k + 4001 + 1) l = some true := by
  simp only [laws_FnCodes.j1]
  obtain ⟨n, en, hn⟩ := drawN_T k l hl
  obtain ⟨c, ec, hc⟩ := dcode_T k l hl
  obtain ⟨x, ex, _⟩ := drawS_T k l hl
  obtain ⟨y, ey, _⟩ := drawI_T k l hl
  rw [en, ec, ex, ey]; simp only [Option.bind_some]
  rw [impl_InsOf_eq _ n (by omega) hn.1 hn.2, spec_InsOf_eq n hn.2]; simp only [Option.bind_some, bne_self_eq_false, Bool.false_eq_true, if_false]
  rw [impl_Word32_eq _ _ _ _ _ _ (by omega)]; simp only [Option.bind_some]
  rw [impl_CodeOk_eq _ _ (by omega) (by omega), spec_CodeOk_eq _ _ (by omega) (by omega)]; simp only [Option.bind_some, beq_self_eq_true, if_true]
  obtain ⟨v, e1, e2⟩ := sets_same (k + 4001) x.1 x.2.1 x.2.2.1 x.2.2.2.1 x.2.2.2.2 (by omega)
  rw [e1, e2]; simp only [Option.bind_some, if_true]
  rw [impl_InsOk_eq _ _ _ _ _ _ (by omega), spec_InsOk_eq]; simp only [Option.bind_some, beq_self_eq_true, if_true]
  rcases insOf_cases n with h | ⟨op, r, a, b, m, h, hw⟩
  · rw [h]; simp
  · rw [h]; simp only [if_true]; rw [hw]; simp
theorem FnCodes : laws_FnCodes.Mine := by
  intro l hl
  have hl' := hl
  refine ⟨100 + 4001 + 1 + 1, ?_⟩
  unfold laws_FnCodes.f laws_big.f
  simp only [Option.bind_some]
  by_cases hb : (l.length : Int) > 1048576
  · rw [if_pos (decide_eq_true hb)]
  rw [if_neg (by simpa using hb)]
  obtain ⟨x, ex, _⟩ := drawW_T 102 l hl'
  rw [show (100 + 4001 + 1 + 1 : Nat) = 102 + 4001 from rfl, ex]; simp only [Option.bind_some]
  rw [impl_Word32_eq _ _ _ _ _ _ (by omega), spec_Word32_eq, impl_InsOk_eq _ _ _ _ _ _ (by omega)]; simp only [Option.bind_some, bne_self_eq_false, Bool.false_eq_true, if_false, if_true]
  rw [show (102 + 4001 : Nat) = (101 + 4001) + 1 from rfl]
  simp only [laws_FnCodes.j0]
  have j1 := codes_j1 100 l hl'
  by_cases hi : insM x.1 x.2.1 x.2.2.1 x.2.2.2.1 x.2.2.2.2 = true
  · have ew : word32M x.1 x.2.1 x.2.2.1 x.2.2.2.1 x.2.2.2.2 = (w32 x.1 x.2.1 x.2.2.1 x.2.2.2.1 x.2.2.2.2, true) := by unfold word32M; rw [if_pos hi]
    have hw := w32_in x.1 x.2.1 x.2.2.1 x.2.2.2.1 x.2.2.2.2
    rw [ew] at hw
    rw [ew, hi]; simp only [bne_self_eq_false, Bool.false_eq_true, if_false, if_true]
    rw [impl_InsOf_eq _ _ (by omega) hw.1 hw.2, insOf_back hi]; simp only [Option.bind_some, if_true, beq_self_eq_true, Bool.not_true, Bool.or_false, Bool.false_eq_true, if_false]
    exact j1
  · have ew : word32M x.1 x.2.1 x.2.2.1 x.2.2.2.1 x.2.2.2.2 = (0, false) := by unfold word32M; rw [if_neg hi]
    have hi' : insM x.1 x.2.1 x.2.2.1 x.2.2.2.1 x.2.2.2.2 = false := by simpa using hi
    rw [ew, hi']; simp only [bne_self_eq_false, Bool.false_eq_true, if_false]
    exact j1

end Go.Proofs.Ytopbiecjfhfhdaa.Pure
