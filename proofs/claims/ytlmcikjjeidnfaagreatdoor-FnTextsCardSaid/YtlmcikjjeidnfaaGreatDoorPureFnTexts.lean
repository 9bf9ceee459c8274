/- A drawn place and a drawn program are read from their texts as they were, and a text that is read is that of what was read: the law answers true at every input; no conditions. -/
import Derived.Test.YtlmcikjjeidnfaaGreatDoorPFnTextsx14
namespace Go.Proofs.YtlmcikjjeidnfaaGreatDoor.Pure
open Go.RowKit Go.Proofs.YtlmcikjjeidnfaaGreatDoor.PFnTexts Go.Proofs.YtlmcikjjeidnfaaGreatDoorW.PrintWords Go.Proofs.YtlmcikjjeidnfaaGreatDoorW.PrintLast Go.Proofs.YtlmcikjjeidnfaaGreatDoorW.PrintMore
set_option linter.unusedVariables false
set_option linter.unusedSimpArgs false

def laws_FnTexts.Mine : Prop := ∀ (l0 : List Int), l0.length ≤ maxLen → ∃ k, laws_FnTexts.f k l0 = some true

theorem i64_bits : IntKind.i64.bits = 64 := rfl
theorem wrap_i64' (n : Int) : IntKind.i64.wrap n = wrap64 n := by unfold wrap64; exact IntKind.wrap_i64 n
theorem wrap_in {n : Int} (h0 : -9223372036854775808 ≤ n) (h1 : n ≤ 9223372036854775807) : wrap64 n = n := by unfold wrap64; omega
theorem wrap_lo (n : Int) : -9223372036854775808 ≤ wrap64 n ∧ wrap64 n ≤ 9223372036854775807 := by unfold wrap64; omega

def hR (op : Int) : Bool := decide ((1 ≤ op ∧ op ≤ 10) ∨ op = 12)
def hA (op : Int) : Bool := decide (2 ≤ op ∧ op ≤ 14)
def hB (op : Int) : Bool := decide (op = 2 ∨ (4 ≤ op ∧ op ≤ 8) ∨ op = 11)
def hN (op : Int) : Bool := decide (op = 1 ∨ op = 6 ∨ op = 10 ∨ op = 11 ∨ op = 13)
def hOp (op : Int) : Bool := decide (1 ≤ op ∧ op ≤ 15)
theorem op_cases (op : Int) : op = 1 ∨ op = 2 ∨ op = 3 ∨ op = 4 ∨ op = 5 ∨ op = 6 ∨ op = 7 ∨ op = 8 ∨ op = 9 ∨ op = 10 ∨ op = 11 ∨ op = 12 ∨ op = 13 ∨ op = 14 ∨ op = 15 ∨ ¬ (1 ≤ op ∧ op ≤ 15) := by omega
theorem formOf_none (k : Nat) (op : Int) (h : ¬ (1 ≤ op ∧ op ≤ 15)) : impl_formOf.f (k + 2) op = some ((⟨#[]⟩ : ByteArray), false) := by
  have ne : ∀ m : Int, 1 ≤ m → m ≤ 15 → op ≠ m := fun m _ _ => by omega
  unfold impl_formOf.f
  simp [impl_formOf.j0, impl_formOf.j1, ne]
theorem formOf_ok (k : Nat) (op : Int) : ∃ s, impl_formOf.f (k + 2) op = some (s, hOp op) := by
  rcases op_cases op with rfl | rfl | rfl | rfl | rfl | rfl | rfl | rfl | rfl | rfl | rfl | rfl | rfl | rfl | rfl | h
  case inr.inr.inr.inr.inr.inr.inr.inr.inr.inr.inr.inr.inr.inr.inr => exact ⟨(⟨#[]⟩ : ByteArray), by rw [formOf_none k op h]; simp [hOp, h]⟩
  all_goals exact ⟨_, rfl⟩
theorem hasPart_up {k : Nat} {op r a b n p : Int} {v : Bool} (hk : 12 ≤ k) (h : impl_hasPart.f 12 op 0 0 0 0 p = some v) : impl_hasPart.f k op r a b n p = some v :=
  at_rounds (fun k => impl_hasPart.mono op r a b n p k) hk h
theorem hasPart_none (k : Nat) (op r a b n p : Int) (hk : 12 ≤ k) (h : ¬ (1 ≤ op ∧ op ≤ 15)) : impl_hasPart.f k op r a b n p = some false := by
  refine at_rounds (fun k => impl_hasPart.mono op r a b n p k) hk ?_
  show impl_hasPart.f 12 op r a b n p = some false
  unfold impl_hasPart.f
  rw [formOf_none 10 op h]
  rfl
theorem hasPart_R (k : Nat) (op r a b n : Int) (hk : 12 ≤ k) : impl_hasPart.f k op r a b n 82 = some (hR op) := by
  rcases op_cases op with rfl | rfl | rfl | rfl | rfl | rfl | rfl | rfl | rfl | rfl | rfl | rfl | rfl | rfl | rfl | h
  case inr.inr.inr.inr.inr.inr.inr.inr.inr.inr.inr.inr.inr.inr.inr => rw [hasPart_none k op r a b n 82 hk h]; congr 1; symm; unfold hR; simp; omega
  all_goals exact hasPart_up hk (by decide +kernel)
theorem hasPart_A (k : Nat) (op r a b n : Int) (hk : 12 ≤ k) : impl_hasPart.f k op r a b n 65 = some (hA op) := by
  rcases op_cases op with rfl | rfl | rfl | rfl | rfl | rfl | rfl | rfl | rfl | rfl | rfl | rfl | rfl | rfl | rfl | h
  case inr.inr.inr.inr.inr.inr.inr.inr.inr.inr.inr.inr.inr.inr.inr => rw [hasPart_none k op r a b n 65 hk h]; congr 1; symm; unfold hA; simp; omega
  all_goals exact hasPart_up hk (by decide +kernel)
theorem hasPart_B (k : Nat) (op r a b n : Int) (hk : 12 ≤ k) : impl_hasPart.f k op r a b n 66 = some (hB op) := by
  rcases op_cases op with rfl | rfl | rfl | rfl | rfl | rfl | rfl | rfl | rfl | rfl | rfl | rfl | rfl | rfl | rfl | h
  case inr.inr.inr.inr.inr.inr.inr.inr.inr.inr.inr.inr.inr.inr.inr => rw [hasPart_none k op r a b n 66 hk h]; congr 1; symm; unfold hB; simp; omega
  all_goals exact hasPart_up hk (by decide +kernel)
theorem hasPart_N (k : Nat) (op r a b n : Int) (hk : 12 ≤ k) : impl_hasPart.f k op r a b n 78 = some (hN op) := by
  rcases op_cases op with rfl | rfl | rfl | rfl | rfl | rfl | rfl | rfl | rfl | rfl | rfl | rfl | rfl | rfl | rfl | h
  case inr.inr.inr.inr.inr.inr.inr.inr.inr.inr.inr.inr.inr.inr.inr => rw [hasPart_none k op r a b n 78 hk h]; congr 1; symm; unfold hN; simp; omega
  all_goals exact hasPart_up hk (by decide +kernel)

theorem impl_in_eq (n lo hi : Int) : impl_in.f n lo hi = some (decide (lo ≤ n ∧ n ≤ hi)) := by
  unfold impl_in.f; by_cases h : n ≥ lo
  · rw [if_pos h]; simp [show lo ≤ n from h]
  · rw [if_neg h]; simp [show ¬ lo ≤ n from h]
theorem spec_in_eq (n lo hi : Int) : spec_l1In.f n lo hi = some (decide (lo ≤ n ∧ n ≤ hi)) := by
  unfold spec_l1In.f; by_cases h : n ≥ lo
  · rw [if_pos h]; simp [show lo ≤ n from h]
  · rw [if_neg h]; simp [show ¬ lo ≤ n from h]

theorem has_bits4 (op : Int) : ∃ t, spec_l6Has.f op = some t ∧ ((bits .and .i64 t 1) != 0) = hR op ∧ ((bits .and .i64 t 2) != 0) = hA op ∧ ((bits .and .i64 t 4) != 0) = hB op ∧ ((bits .and .i64 t 8) = 0 ↔ hN op = false) := by
  rcases op_cases op with rfl | rfl | rfl | rfl | rfl | rfl | rfl | rfl | rfl | rfl | rfl | rfl | rfl | rfl | rfl | h
  case inr.inr.inr.inr.inr.inr.inr.inr.inr.inr.inr.inr.inr.inr.inr =>
    refine ⟨0, ?_, ?_, ?_, ?_, ?_⟩
    · unfold spec_l6Has.f; rw [spec_in_eq]; simp only [Option.bind_some]; rw [if_neg (by simpa using h)]
    · have : hR op = false := by unfold hR; simp; omega
      rw [this]; decide +kernel
    · have : hA op = false := by unfold hA; simp; omega
      rw [this]; decide +kernel
    · have : hB op = false := by unfold hB; simp; omega
      rw [this]; decide +kernel
    · have : hN op = false := by unfold hN; simp; omega
      rw [this]; decide +kernel
  all_goals exact ⟨_, rfl, by decide +kernel, by decide +kernel, by decide +kernel, by decide +kernel⟩

theorem bits_and_raw (n m : Int) (p : Nat) (hm : (BitVec.ofInt 64 m).toNat = 2 ^ p - 1) :
    bits .and .i64 n m = wrap64 (((n % ((2 ^ 64 : Nat) : Int)).toNat % 2 ^ p : Nat) : Int) := by
  have key : (BitVec.ofInt 64 n &&& BitVec.ofInt 64 m).toNat = (n % ((2 ^ 64 : Nat) : Int)).toNat % 2 ^ p := by
    rw [BitVec.toNat_and, BitVec.toNat_ofInt, hm, Nat.and_two_pow_sub_one_eq_mod]
  show IntKind.i64.wrap ((BitVec.ofInt 64 n &&& BitVec.ofInt 64 m).toNat : Nat) = _
  rw [key, wrap_i64']
theorem and_255 (n : Int) : bits .and .i64 n 255 = n % 256 := by rw [bits_and_raw n 255 8 (by decide)]; unfold wrap64; omega
theorem and_65535 (n : Int) : bits .and .i64 n 65535 = n % 65536 := by rw [bits_and_raw n 65535 16 (by decide)]; unfold wrap64; omega
theorem and_63 (n : Int) : bits .and .i64 n 63 = n % 64 := by rw [bits_and_raw n 63 6 (by decide)]; unfold wrap64; omega
theorem and_15 (n : Int) : bits .and .i64 n 15 = n % 16 := by rw [bits_and_raw n 15 4 (by decide)]; unfold wrap64; omega
theorem and_7 (n : Int) : bits .and .i64 n 7 = n % 8 := by rw [bits_and_raw n 7 3 (by decide)]; unfold wrap64; omega

theorem new_rounds (l : List Int) (d : Nat) : ∀ (k : Nat) (x i : Int), 0 ≤ i → i ≤ 4000 → 4000 - i = d → d < k → ∃ h, spec_l1New.l0 k l x i = some (l, 0, h) := by
  induction d with
  | zero =>
    intro k x i h0 h1 hd hk
    obtain ⟨k, rfl⟩ : ∃ m, k = m + 1 := ⟨k - 1, by omega⟩
    simp only [spec_l1New.l0]
    by_cases hl : i < (l.length : Int)
    · rw [if_pos hl, if_neg (by omega)]; exact ⟨_, rfl⟩
    · rw [if_neg hl]; exact ⟨_, rfl⟩
  | succ d ih =>
    intro k x i h0 h1 hd hk
    obtain ⟨k, rfl⟩ : ∃ m, k = m + 1 := ⟨k - 1, by omega⟩
    simp only [spec_l1New.l0]
    by_cases hl : i < (l.length : Int)
    · rw [if_pos hl, if_pos (by omega), if_pos h0, show wrap64 (i + 1) = i + 1 from wrap_in (by omega) (by omega)]
      exact ih k _ (i + 1) (by omega) (by omega) (by omega) (by omega)
    · rw [if_neg hl]; exact ⟨_, rfl⟩
theorem new_tells (k : Nat) (l : List Int) (hk : 4001 ≤ k) : ∃ h, spec_l1New.f k l = some (l, 0, h) :=
  new_rounds l 4000 k _ 0 (by omega) (by omega) (by omega) (by omega)
theorem byte_tells (s : List Int) (i h : Int) (hs : s.length ≤ maxLen) (h0 : 0 ≤ i) : ∃ r i' h', spec_l1Byte.f s i h = some (r, i', h') ∧ 0 ≤ i' ∧ 0 ≤ r ∧ r ≤ 255 := by
  unfold maxLen at hs
  unfold spec_l1Byte.f
  by_cases hl : i < (s.length : Int)
  · rw [if_pos hl, if_pos h0, show wrap64 (i + 1) = i + 1 from wrap_in (by omega) (by omega), and_255]
    exact ⟨_, _, _, rfl, by omega, by omega, by omega⟩
  · rw [if_neg hl, and_255]
    exact ⟨_, _, _, rfl, by omega, by omega, by omega⟩
theorem tmod_in {a n : Int} (h : 0 ≤ a) (hn : 0 < n) : 0 ≤ Int.tmod a n ∧ Int.tmod a n < n := by
  rw [Int.tmod_eq_emod_of_nonneg h]; exact ⟨Int.emod_nonneg _ (by omega), Int.emod_lt_of_pos _ hn⟩
theorem below_tells (s : List Int) (i h n : Int) (hs : s.length ≤ maxLen) (h0 : 0 ≤ i) (hn : 0 < n) : ∃ r i' h', spec_l1Below.f s i h n = some (r, i', h') ∧ 0 ≤ i' ∧ 0 ≤ r ∧ r < n := by
  unfold spec_l1Below.f
  rw [if_neg (by omega)]
  by_cases hl : n ≤ 256
  · rw [if_pos hl]
    obtain ⟨r, i1, h1, e, hi, hr0, hr1⟩ := byte_tells s i h hs h0
    rw [e]; simp only [Option.bind_some]; rw [if_neg (by omega)]
    have := tmod_in hr0 hn
    exact ⟨_, _, _, rfl, hi, this.1, this.2⟩
  · rw [if_neg hl]
    obtain ⟨r1, i1, h1, e1, hi1, ha1, hb1⟩ := byte_tells s i h hs h0
    rw [e1]; simp only [Option.bind_some]
    obtain ⟨r2, i2, h2, e2, hi2, ha2, hb2⟩ := byte_tells s i1 h1 hs hi1
    rw [e2]; simp only [Option.bind_some]
    obtain ⟨r3, i3, h3, e3, hi3, ha3, hb3⟩ := byte_tells s i2 h2 hs hi2
    rw [e3]; simp only [Option.bind_some]
    obtain ⟨r4, i4, h4, e4, hi4, ha4, hb4⟩ := byte_tells s i3 h3 hs hi3
    rw [e4]; simp only [Option.bind_some]; rw [if_neg (by omega)]
    rw [wrap_in (n := r1 * 16777216) (by omega) (by omega), wrap_in (n := r2 * 65536) (by omega) (by omega), wrap_in (n := r3 * 256) (by omega) (by omega),
      wrap_in (n := r1 * 16777216 + r2 * 65536) (by omega) (by omega), wrap_in (n := r1 * 16777216 + r2 * 65536 + r3 * 256) (by omega) (by omega), wrap_in (n := r1 * 16777216 + r2 * 65536 + r3 * 256 + r4) (by omega) (by omega)]
    have := tmod_in (a := r1 * 16777216 + r2 * 65536 + r3 * 256 + r4) (n := n) (by omega) hn
    exact ⟨_, _, _, rfl, hi4, this.1, this.2⟩
theorem rd_mem (l : List Int) (i : Int) (h0 : 0 ≤ i) (h1 : i < (l.length : Int)) : rd l i ∈ l := by
  unfold rd
  rw [List.getD_eq_getElem?_getD, List.getElem?_eq_getElem (by omega)]
  exact List.getElem_mem _

def Tells {α : Type} (o : Option α) (P : α → Prop) : Prop := ∃ r, o = some r ∧ P r
theorem Tells.some {α : Type} {P : α → Prop} {r : α} (h : P r) : Tells (some r) P := ⟨r, rfl, h⟩
theorem Tells.imp {α : Type} {o : Option α} {P Q : α → Prop} (h : Tells o P) (f : ∀ r, P r → Q r) : Tells o Q := by obtain ⟨r, e, p⟩ := h; exact ⟨r, e, f r p⟩
theorem Tells.bind {α β : Type} {o : Option α} {f : α → Option β} {P : α → Prop} {Q : β → Prop} (h : Tells o P) (k : ∀ r, P r → Tells (f r) Q) : Tells (o.bind f) Q := by
  obtain ⟨r, e, p⟩ := h; rw [e]; exact k r p
theorem Tells.ite {α : Type} {c : Prop} [Decidable c] {a b : Option α} {P : α → Prop} (h : c → Tells a P) (k : ¬ c → Tells b P) : Tells (if c then a else b) P := by
  by_cases g : c
  · rw [if_pos g]; exact h g
  · rw [if_neg g]; exact k g
theorem new_T (k : Nat) (l : List Int) (hk : 4001 ≤ k) (hs : l.length ≤ maxLen) : Tells (spec_l1New.f k l) (fun r => r.1.length ≤ maxLen ∧ 0 ≤ r.2.1) := by
  obtain ⟨h, e⟩ := new_tells k l hk
  exact ⟨_, e, hs, Int.le_refl 0⟩
theorem below_T (s : List Int) (i h n : Int) (hs : s.length ≤ maxLen) (h0 : 0 ≤ i) (hn : 0 < n) : Tells (spec_l1Below.f s i h n) (fun r => 0 ≤ r.2.1 ∧ 0 ≤ r.1 ∧ r.1 < n) := by
  obtain ⟨r, i1, h1, e, hi, hr0, hr1⟩ := below_tells s i h n hs h0 hn
  exact ⟨_, e, hi, hr0, hr1⟩

theorem once_tells (s : List Int) (i h n : Int) (hs : s.length ≤ maxLen) (h0 : 0 ≤ i) (hn : 0 < n) : ∃ r i' h', spec_l1Once.f s i h n = some (r, i', h') ∧ 0 ≤ i' := by
  unfold spec_l1Once.f
  obtain ⟨r, i1, h1, e, hi, hr0, hr1⟩ := below_tells s i h n hs h0 hn
  rw [e]; exact ⟨_, _, _, rfl, hi⟩

theorem once_T (s : List Int) (i h n : Int) (hs : s.length ≤ maxLen) (h0 : 0 ≤ i) (hn : 0 < n) : Tells (spec_l1Once.f s i h n) (fun r => 0 ≤ r.2.1) := by
  obtain ⟨r, i1, h1, e, hi⟩ := once_tells s i h n hs h0 hn
  exact ⟨_, e, hi⟩

theorem pick_tells (s : List Int) (i h : Int) (l : List Int) (hs : s.length ≤ maxLen) (h0 : 0 ≤ i) (hl : 0 < (l.length : Int)) : ∃ r i' h', spec_l1PickInt.f s i h l = some (r, i', h') ∧ 0 ≤ i' ∧ r ∈ l := by
  unfold spec_l1PickInt.f
  obtain ⟨r, i1, h1, e, hi, hr0, hr1⟩ := below_tells s i h l.length hs h0 hl
  rw [e]; simp only [Option.bind_some]
  rw [if_pos hr0, if_pos hr1]
  exact ⟨_, _, _, rfl, hi, rd_mem l r hr0 hr1⟩

theorem pick_T (s : List Int) (i h : Int) (l : List Int) (hs : s.length ≤ maxLen) (h0 : 0 ≤ i) (hl : 0 < (l.length : Int)) : Tells (spec_l1PickInt.f s i h l) (fun r => 0 ≤ r.2.1 ∧ r.1 ∈ l) := by
  obtain ⟨r, i1, h1, e, hi, hr⟩ := pick_tells s i h l hs h0 hl
  exact ⟨_, e, hi, hr⟩

theorem has_T (op : Int) : Tells (spec_l6Has.f op) (fun _ => True) := by
  obtain ⟨t, e, _⟩ := has_bits4 op
  exact ⟨t, e, True.intro⟩
theorem ins_j1 (k : Nat) (x5 x6 x8 : Int) (s : List Int) (i h a b c d e : Int) (h0 : 0 ≤ i) : Tells (spec_l6DrawIns.j1 (k + 1) x5 x6 x8 s i h a b c d e) (fun r => 0 ≤ r.2.2.2.2.2.1) := by
  simp only [spec_l6DrawIns.j1]
  repeat' (first | ((with_reducible refine Tells.some ?_); first | (dsimp only; omega) | exact True.intro) | (with_reducible refine Tells.ite (fun _ => ?_) (fun _ => ?_)))
theorem ins_j0 (k : Nat) (x4 x5 x6 x8 : Int) (s : List Int) (i h a b c d e : Int) (h0 : 0 ≤ i) : Tells (spec_l6DrawIns.j0 (k + 2) x4 x5 x6 x8 s i h a b c d e) (fun r => 0 ≤ r.2.2.2.2.2.1) := by
  simp only [spec_l6DrawIns.j0]
  exact Tells.ite (fun _ => ins_j1 _ _ _ _ _ _ _ _ _ _ _ _ h0) (fun _ => ins_j1 _ _ _ _ _ _ _ _ _ _ _ _ h0)
theorem ins_T (k : Nat) (s : List Int) (i h : Int) (hs : s.length ≤ maxLen) (h0 : 0 ≤ i) : Tells (spec_l6DrawIns.f (k + 2) s i h) (fun r => 0 ≤ r.2.2.2.2.2.1) := by
  unfold spec_l6DrawIns.f
  refine Tells.bind (below_T _ _ _ _ hs h0 (by omega)) (fun r1 p1 => ?_)
  refine Tells.bind (below_T _ _ _ _ hs p1.1 (by omega)) (fun r2 p2 => ?_)
  refine Tells.bind (below_T _ _ _ _ hs p2.1 (by omega)) (fun r3 p3 => ?_)
  refine Tells.bind (pick_T _ _ _ _ hs p3.1 (by simp)) (fun r4 p4 => ?_)
  refine Tells.bind (pick_T _ _ _ _ hs p4.1 (by simp)) (fun r5 p5 => ?_)
  refine Tells.bind (has_T _) (fun r6 _ => ?_)
  exact Tells.ite (fun _ => ins_j0 _ _ _ _ _ _ _ _ _ _ _ _ _ p5.1) (fun _ => ins_j0 _ _ _ _ _ _ _ _ _ _ _ _ _ p5.1)
theorem spoil_T (s : List Int) (i h a b c d e : Int) (hs : s.length ≤ maxLen) (h0 : 0 ≤ i) : Tells (spec_l6Spoil.f s i h a b c d e) (fun _ => True) := by
  unfold spec_l6Spoil.f
  repeat' (first
    | ((with_reducible refine Tells.some ?_); first | (dsimp only; omega) | exact True.intro)
    | (with_reducible refine Tells.ite (fun _ => ?_) (fun _ => ?_))
    | ((with_reducible refine Tells.bind (below_T _ _ _ _ ?_ ?_ ?_) ?_); exact hs; omega; omega; intro _ _)
    | ((with_reducible refine Tells.imp (below_T _ _ _ _ ?_ ?_ ?_) ?_); exact hs; omega; omega; intro _ _; first | assumption | omega | (dsimp only at *; omega) | exact True.intro)
    | ((with_reducible refine Tells.bind (pick_T _ _ _ _ ?_ ?_ ?_) ?_); exact hs; omega; (first | decide | simp); intro _ _)
    | ((with_reducible refine Tells.imp (pick_T _ _ _ _ ?_ ?_ ?_) ?_); exact hs; omega; (first | decide | simp); intro _ _; first | assumption | omega | (dsimp only at *; omega) | exact True.intro))
theorem one_T (k : Nat) (l : List Int) (hs : l.length ≤ maxLen) : Tells (spec_l6DrawOne.f (k + 4001) l) (fun _ => True) := by
  unfold spec_l6DrawOne.f
  refine Tells.bind (new_T _ _ (by omega) hs) (fun r hr => ?_)
  refine Tells.bind (ins_T (k + 3999) _ _ _ hr.1 hr.2) (fun r1 p1 => ?_)
  refine Tells.bind (once_T _ _ _ _ hr.1 p1 (by omega)) (fun r2 p2 => ?_)
  refine Tells.ite (fun _ => ?_) (fun _ => Tells.some True.intro)
  exact Tells.bind (spoil_T _ _ _ _ _ _ _ _ hr.1 p2) (fun _ _ => Tells.some True.intro)

theorem code_l0 (s : List Int) (hs : s.length ≤ maxLen) (n : Int) (d : Nat) : ∀ (k : Nat) (l : List S25) (i : Int) (c h : Int), 0 ≤ i → i + d ≤ 100 → n - i = d → d + 3 < k → l.length + d ≤ 100 → 0 ≤ c → Tells (spec_l6DrawCode.l0 k l n i s c h) (fun r => 1 ≤ r.1.length ∧ r.1.length ≤ 101 ∧ 0 ≤ r.2.1) := by
  induction d with
  | zero =>
    intro k l i c h h0 hi hd hk hl hc
    obtain ⟨k, rfl⟩ : ∃ m, k = m + 1 := ⟨k - 1, by omega⟩
    simp only [spec_l6DrawCode.l0]; rw [if_neg (by omega), if_pos (by omega)]
    exact Tells.some ⟨by simp, by simp; omega, hc⟩
  | succ d ih =>
    intro k l i c h h0 hi hd hk hl hc
    obtain ⟨k, rfl⟩ : ∃ m, k = m + 3 := ⟨k - 3, by omega⟩
    simp only [spec_l6DrawCode.l0]
    by_cases hin : i < n
    · rw [if_pos hin]
      refine Tells.bind (ins_T k s c h hs hc) (fun r p => ?_)
      rw [if_pos (by omega), show wrap64 (i + 1) = i + 1 from wrap_in (by omega) (by omega)]
      exact ih (k + 2) _ (i + 1) _ _ (by omega) (by omega) (by omega) (by omega) (by simp; omega) p
    · omega
theorem code_j0 (k : Nat) (s : List Int) (hs : s.length ≤ maxLen) (l : List S25) (c h : Int) (hl : l.length ≤ 10) (hc : 0 ≤ c) : Tells (spec_l6DrawCode.j0 (k + 30) l s c h) (fun r => 1 ≤ r.1.length ∧ r.1.length ≤ 101 ∧ 0 ≤ r.2.1) := by
  rw [show k + 30 = k + 29 + 1 from rfl]
  simp only [spec_l6DrawCode.j0]
  refine Tells.bind (below_T _ _ _ _ hs hc (by omega)) (fun r p => ?_)
  exact code_l0 s hs r.1 r.1.toNat (k + 29) l 0 _ _ (by omega) (by omega) (by omega) (by omega) (by omega) p.1
theorem code_T (k : Nat) (s : List Int) (i h : Int) (hs : s.length ≤ maxLen) (h0 : 0 ≤ i) : Tells (spec_l6DrawCode.f (k + 30) s i h) (fun r => 1 ≤ r.1.length ∧ r.1.length ≤ 101 ∧ 0 ≤ r.2.1) := by
  unfold spec_l6DrawCode.f
  simp only [Option.bind_some]
  refine Tells.bind (below_T _ _ _ _ hs h0 (by omega)) (fun r p => ?_)
  refine Tells.ite (fun _ => ?_) (fun _ => Tells.ite (fun _ => ?_) (fun _ => Tells.ite (fun _ => ?_) (fun _ => ?_)))
  · rw [if_pos (by simp)]; exact code_j0 k s hs _ _ _ (by simp) p.1
  · rw [if_pos (by simp)]; exact code_j0 k s hs _ _ _ (by simp) p.1
  · rw [if_pos (by simp)]; exact code_j0 k s hs _ _ _ (by simp) p.1
  · exact code_j0 k s hs _ _ _ (by simp) p.1
theorem dcode_l0 (s : List Int) (hs : s.length ≤ maxLen) (d : Nat) : ∀ (k : Nat) (l : List S25) (c h : Int), 60 - (l.length : Int) ≤ d → l.length ≤ 101 → d < k → 0 ≤ c → Tells (spec_DrawCodeOk.l0 k l s c h) (fun r => r.length ≤ 101) := by
  induction d with
  | zero =>
    intro k l c h hd hl hk hc
    obtain ⟨k, rfl⟩ : ∃ m, k = m + 1 := ⟨k - 1, by omega⟩
    simp only [spec_DrawCodeOk.l0]
    refine Tells.bind (below_T _ _ _ _ hs hc (by omega)) (fun r p => ?_)
    rw [show wrap64 (48 + r.1) = 48 + r.1 from wrap_in (by omega) (by omega), if_neg (by omega)]
    exact Tells.some hl
  | succ d ih =>
    intro k l c h hd hl hk hc
    obtain ⟨k, rfl⟩ : ∃ m, k = m + 1 := ⟨k - 1, by omega⟩
    simp only [spec_DrawCodeOk.l0]
    refine Tells.bind (below_T _ _ _ _ hs hc (by omega)) (fun r p => ?_)
    rw [show wrap64 (48 + r.1) = 48 + r.1 from wrap_in (by omega) (by omega)]
    by_cases h2 : (l.length : Int) < 48 + r.1
    · rw [if_pos h2, if_pos (by omega)]
      exact ih k _ _ _ (by simp; omega) (by simp; omega) (by omega) p.1
    · rw [if_neg h2]; exact Tells.some hl
theorem dcode_T (k : Nat) (l : List Int) (hs : l.length ≤ maxLen) : Tells (spec_DrawCodeOk.f (k + 4001) l) (fun r => r.length ≤ 101) := by
  unfold spec_DrawCodeOk.f
  refine Tells.bind (new_T _ _ (by omega) hs) (fun r hr => ?_)
  refine Tells.bind (code_T (k + 3971) _ _ _ hr.1 hr.2) (fun r1 p1 => ?_)
  refine Tells.bind (below_T _ _ _ _ hr.1 p1.2.2 (by omega)) (fun r2 p2 => ?_)
  refine Tells.bind (below_T _ _ _ _ hr.1 p2.1 (by omega)) (fun r3 p3 => ?_)
  refine Tells.ite (fun _ => ?_) (fun _ => Tells.ite (fun _ => ?_) (fun _ => Tells.ite (fun _ => ?_) (fun _ => Tells.some p1.2.1)))
  · rw [if_pos p2.2.1, if_pos p2.2.2]
    exact Tells.bind (spoil_T _ _ _ _ _ _ _ _ hr.1 p3.1) (fun _ _ => Tells.some (by simp; exact p1.2.1))
  · rw [if_pos p2.2.1, if_pos (by omega)]
    exact Tells.some (by simp; omega)
  · exact dcode_l0 r.1 hr.1 60 _ _ _ _ (by omega) p1.2.1 (by omega) p3.1

def wordsL : List UInt8 → List (List UInt8)
  | [] => [[]]
  | c :: cs => if c = 32 then [] :: wordsL cs else
      match wordsL cs with
      | [] => [[c]]
      | w :: ws => (c :: w) :: ws
theorem wordsL_ne : ∀ s, wordsL s ≠ []
  | [] => by simp [wordsL]
  | c :: cs => by
    unfold wordsL
    by_cases h : c = 32
    · simp [h]
    · rw [if_neg h]
      cases wordsL cs <;> simp
theorem wordsL_app : ∀ (a b : List UInt8), (32 : UInt8) ∉ a → wordsL (a ++ 32 :: b) = a :: wordsL b
  | [], b, _ => by simp [wordsL]
  | c :: a, b, h => by
    have h1 : c ≠ 32 := fun e => h (by simp [e])
    have h2 : (32 : UInt8) ∉ a := fun e => h (List.mem_cons_of_mem _ e)
    rw [List.cons_append, wordsL, if_neg h1, wordsL_app a b h2]
theorem wordsL_one : ∀ (a : List UInt8), (32 : UInt8) ∉ a → wordsL a = [a]
  | [], _ => rfl
  | c :: a, h => by
    have h1 : c ≠ 32 := fun e => h (by simp [e])
    have h2 : (32 : UInt8) ∉ a := fun e => h (List.mem_cons_of_mem _ e)
    rw [wordsL, if_neg h1, wordsL_one a h2]
def joinL : List (List UInt8) → List UInt8
  | [] => []
  | [w] => w
  | w :: x :: ws => w ++ 32 :: joinL (x :: ws)
theorem join_words : ∀ s, joinL (wordsL s) = s
  | [] => rfl
  | c :: cs => by
    have ih := join_words cs
    unfold wordsL
    by_cases h : c = 32
    · subst h
      rw [if_pos rfl]
      cases e : wordsL cs with
      | nil => exact absurd e (wordsL_ne cs)
      | cons w ws => rw [e] at ih; show [] ++ 32 :: joinL (w :: ws) = _; rw [ih]; rfl
    · rw [if_neg h]
      cases e : wordsL cs with
      | nil => exact absurd e (wordsL_ne cs)
      | cons w ws =>
        rw [e] at ih
        cases ws with
        | nil => show c :: w = _; have : w = cs := ih; rw [this]
        | cons x xs => show (c :: w) ++ 32 :: joinL (x :: xs) = _; have : w ++ 32 :: joinL (x :: xs) = cs := ih; rw [List.cons_append, this]
theorem words_join : ∀ (ws : List (List UInt8)), ws ≠ [] → (∀ w ∈ ws, (32 : UInt8) ∉ w) → wordsL (joinL ws) = ws
  | [], h, _ => absurd rfl h
  | [w], _, h => wordsL_one w (h w (by simp))
  | w :: x :: ws, _, h => by
    show wordsL (w ++ 32 :: joinL (x :: ws)) = _
    rw [wordsL_app w _ (h w (by simp)), words_join (x :: ws) (by simp) (fun y hy => h y (List.mem_cons_of_mem _ hy))]

theorem idx_space : ∀ s : List UInt8, (Lib.index s [32] = -1 ∧ (32 : UInt8) ∉ s) ∨ ∃ a b, s = a ++ 32 :: b ∧ (32 : UInt8) ∉ a ∧ Lib.index s [32] = (a.length : Int)
  | [] => Or.inl ⟨rfl, by simp⟩
  | c :: l => by
    unfold Lib.index
    by_cases h : c = 32
    · subst h
      exact Or.inr ⟨[], l, rfl, by simp, by simp [List.isPrefixOf]⟩
    · have hp : ([32] : List UInt8).isPrefixOf (c :: l) = false := by
        simp only [List.isPrefixOf, Bool.and_true]
        exact beq_eq_false_iff_ne.mpr (fun e => h e.symm)
      rw [hp]
      rcases idx_space l with ⟨e, hn⟩ | ⟨a, b, e, hn, hi⟩
      · refine Or.inl ⟨by rw [e]; rfl, ?_⟩
        intro hm
        rcases List.mem_cons.mp hm with h1 | h1
        · exact h h1.symm
        · exact hn h1
      · refine Or.inr ⟨c :: a, b, by rw [e]; rfl, ?_, ?_⟩
        · intro hm
          rcases List.mem_cons.mp hm with h1 | h1
          · exact h h1.symm
          · exact hn h1
        · have hne : ¬ (Lib.index l [32] == -1) = true := by
            intro e2
            have := beq_iff_eq.mp e2
            omega
          rw [if_neg (by decide), if_neg hne, hi]
          simp
theorem splitK_words (n : Nat) : ∀ s : List UInt8, s.length ≤ n → Lib.splitK [32] 0 (Lib.count s [32]) s = wordsL s := by
  induction n with
  | zero =>
    intro s hs
    have : s = [] := List.length_eq_zero_iff.mp (by omega)
    subst this
    rfl
  | succ n ih =>
    intro s hs
    rcases idx_space s with ⟨e, hn⟩ | ⟨a, b, e, hn, hi⟩
    · rw [Lib.count_miss e, wordsL_one s hn]; rfl
    · rw [Lib.count_hit (by simp) hi, Nat.add_comm 1]
      have hd : s.drop (a.length + ([32] : List UInt8).length) = b := by
        rw [e]; simp [List.drop_append]
      have ht : s.take a.length = a := by rw [e]; simp
      unfold Lib.splitK
      rw [if_neg (by intro e2; have := beq_iff_eq.mp e2; omega), hi]
      simp only [Int.toNat_natCast, Nat.add_zero]
      rw [hd, ht, ih b (by have := congrArg List.length e; simp at this; omega), e, wordsL_app a b hn]
def spaceB : ByteArray := ⟨#[32]⟩
theorem split_words (s : ByteArray) : (Lib.splitB spaceB 0 (Lib.countB s spaceB) s).map (·.data.toList) = wordsL s.data.toList := by
  rw [Lib.splitB_data]
  exact splitK_words _ s.data.toList (Nat.le_refl _)

theorem bt_drop (s : ByteArray) (i : Int) (h0 : 0 ≤ i) (h : i < (s.size : Int)) : ∃ c, s.data.toList.drop i.toNat = c :: s.data.toList.drop (i.toNat + 1) ∧ bt s i = (c.toNat : Int) := by
  have hl : i.toNat < s.data.toList.length := by rw [data_length]; omega
  refine ⟨s.data.toList[i.toNat], List.drop_eq_getElem_cons hl, ?_⟩
  unfold bt
  have h2 : i.toNat < s.size := by omega
  rw [dif_pos h2]
  rfl
theorem extract_list (s : ByteArray) (a b : Nat) : (s.extract a b).data.toList = (s.data.toList.drop a).take (b - a) := by
  rw [Lib.extract_data]
theorem sw_rounds (s : ByteArray) (hs : s.size ≤ 1048576) (d : Nat) : ∀ (k : Nat) (x : List ByteArray) (f i : Int), 0 ≤ f → f ≤ i → (s.size : Int) - i = d → d + 2 < k → (x.length : Int) ≤ i → (32 : UInt8) ∉ (s.data.toList.drop f.toNat).take (i.toNat - f.toNat) →
    ∃ ws, spec_l7Words.l0 k s x f i = some (x ++ ws) ∧ ws.map (·.data.toList) = wordsL (s.data.toList.drop f.toNat) := by
  induction d with
  | zero =>
    intro k x f i h0 hf hd hk hx hn
    obtain ⟨k, rfl⟩ : ∃ m, k = m + 2 := ⟨k - 2, by omega⟩
    have e : i = (s.size : Int) := by omega
    refine ⟨[s.extract f.toNat i.toNat], ?_, ?_⟩
    · simp only [spec_l7Words.l0]
      rw [if_pos (by omega), if_pos e, if_pos h0, if_pos hf, if_pos (by omega)]
      rw [show wrap64 (i + 1) = i + 1 from wrap_in (by omega) (by omega), if_neg (by omega)]
    · have hl : s.data.toList.length = s.size := data_length s
      have ht : (s.data.toList.drop f.toNat).take (i.toNat - f.toNat) = s.data.toList.drop f.toNat := List.take_of_length_le (by rw [List.length_drop, hl]; omega)
      rw [ht] at hn
      rw [List.map_cons, List.map_nil, extract_list, ht, wordsL_one _ hn]
  | succ d ih =>
    intro k x f i h0 hf hd hk hx hn
    obtain ⟨k, rfl⟩ : ∃ m, k = m + 1 := ⟨k - 1, by omega⟩
    obtain ⟨c, hc, hb⟩ := bt_drop s i (by omega) (by omega)
    have hl : s.data.toList.length = s.size := data_length s
    simp only [spec_l7Words.l0]
    rw [if_pos (by omega), if_neg (by omega), if_pos (by omega), if_pos (by omega), hb]
    have hw : wrap64 (i + 1) = i + 1 := wrap_in (by omega) (by omega)
    have hcut : s.data.toList.drop f.toNat = (s.data.toList.drop f.toNat).take (i.toNat - f.toNat) ++ c :: s.data.toList.drop (i.toNat + 1) := by
      rw [← hc]
      have := (List.take_append_drop (i.toNat - f.toNat) (s.data.toList.drop f.toNat)).symm
      rw [List.drop_drop, show f.toNat + (i.toNat - f.toNat) = i.toNat by omega] at this
      exact this
    by_cases h32 : (c.toNat : Int) = 32
    · rw [if_pos h32, if_pos h0, if_pos hf, if_pos (by omega), hw]
      have e31 : c.toNat = 32 := by omega
      have e32 : c = 32 := UInt8.toNat_inj.mp e31
      obtain ⟨ws, e, hm⟩ := ih k (x ++ [s.extract f.toNat i.toNat]) (i + 1) (i + 1) (by omega) (by omega) (by omega) (by omega) (by simp; omega) (by simp)
      refine ⟨s.extract f.toNat i.toNat :: ws, by rw [e]; simp, ?_⟩
      rw [List.map_cons, hm, extract_list]
      conv => rhs; rw [hcut, e32]
      rw [wordsL_app _ _ hn, show (i + 1).toNat = i.toNat + 1 by omega]
    · rw [if_neg h32, hw]
      have hn2 : (32 : UInt8) ∉ (s.data.toList.drop f.toNat).take ((i + 1).toNat - f.toNat) := by
        rw [show (i + 1).toNat - f.toNat = (i.toNat - f.toNat) + 1 by omega]
        intro hm
        rw [hcut] at hm
        have hlen : ((s.data.toList.drop f.toNat).take (i.toNat - f.toNat)).length = i.toNat - f.toNat := by rw [List.length_take, List.length_drop, hl]; omega
        rw [List.take_append, hlen, show i.toNat - f.toNat + 1 - (i.toNat - f.toNat) = 1 by omega, List.take_of_length_le (by rw [hlen]; omega)] at hm
        rcases List.mem_append.mp hm with h1 | h1
        · exact hn h1
        · have : (32 : UInt8) = c := by simpa using h1
          exact h32 (by rw [← this]; rfl)
      exact ih k x f (i + 1) h0 (by omega) (by omega) (by omega) (by omega) hn2
theorem spec_words (s : ByteArray) (hs : s.size ≤ 1048576) (k : Nat) (hk : s.size + 3 < k) : ∃ ws, spec_l7Words.f k s = some ws ∧ ws.map (·.data.toList) = wordsL s.data.toList := by
  obtain ⟨ws, e, h⟩ := sw_rounds s hs s.size k [] 0 0 (by omega) (by omega) (by omega) (by omega) (by simp) (by simp)
  exact ⟨ws, by unfold spec_l7Words.f; simpa using e, by simpa using h⟩

def fM (x : Int) (h : Bool) : Bool := decide (0 ≤ x ∧ x ≤ 7) && (h || x == 0)
def nM (x : Int) (h : Bool) : Bool := decide (-128 ≤ x ∧ x ≤ 127) && (h || x == 0)
def insM (op r a b n : Int) : Bool := hOp op && (fM r (hR op) && (fM a (hA op) && (fM b (hB op) && nM n (hN op))))
theorem fM_not (x : Int) : (x == 0) = fM x false := by
  unfold fM; by_cases h : x = 0
  · subst h; rfl
  · have : (x == 0) = false := by simpa using h
    rw [this]; simp
theorem nM_not (x : Int) : (x == 0) = nM x false := by
  unfold nM; by_cases h : x = 0
  · subst h; rfl
  · have : (x == 0) = false := by simpa using h
    rw [this]; simp
theorem fM_yes (x : Int) : decide (0 ≤ x ∧ x ≤ 7) = fM x true := by unfold fM; simp
theorem nM_yes (x : Int) : decide (-128 ≤ x ∧ x ≤ 127) = nM x true := by unfold nM; simp
theorem ok_step (k : Nat) (x4 : Bool) (op r a b n i i' c x : Int) (h : Bool) (hi : 0 ≤ i) (hi4 : i < 4) (hc : rd ([82, 65, 66, 78] : List Int) i = c) (hw : wrap64 (i + 1) = i') (hp : impl_partOf.f op r a b n c = some x) (hh : impl_hasPart.f k op r a b n c = some h) (hne : c ≠ 78) :
    impl_InsOk.l0 (k + 1) x4 i op r a b n = impl_InsOk.l0 k (x4 && fM x h) i' op r a b n := by
  simp only [impl_InsOk.l0]
  rw [if_pos hi4, if_pos hi]
  simp only [hc, hp, hh, hw, Option.bind_some]
  cases h with
  | false => cases x4 <;> simp [← fM_not]
  | true => cases x4 <;> simp [hne, impl_in_eq, ← fM_yes]
theorem ok_stepN (k : Nat) (x4 : Bool) (op r a b n : Int) (h : Bool) (hh : impl_hasPart.f k op r a b n 78 = some h) :
    impl_InsOk.l0 (k + 1) x4 3 op r a b n = impl_InsOk.l0 k (x4 && nM n h) 4 op r a b n := by
  have hp : impl_partOf.f op r a b n 78 = some n := by unfold impl_partOf.f; simp
  simp only [impl_InsOk.l0]
  rw [if_pos (by decide), if_pos (by decide), show rd ([82, 65, 66, 78] : List Int) 3 = 78 from rfl, show wrap64 (3 + 1) = 4 by unfold wrap64; omega]
  simp only [hp, hh, Option.bind_some]
  cases h with
  | false => cases x4 <;> simp [← nM_not]
  | true => cases x4 <;> simp [impl_in_eq, ← nM_yes]
theorem ok_stepE (k : Nat) (x4 : Bool) (op r a b n : Int) : impl_InsOk.l0 (k + 1) x4 4 op r a b n = some x4 := by
  simp only [impl_InsOk.l0]; rw [if_neg (by decide)]
theorem impl_InsOk_eq (k : Nat) (op r a b n : Int) (hk : 20 ≤ k) : impl_InsOk.f k op r a b n = some (insM op r a b n) := by
  obtain ⟨k, rfl⟩ : ∃ m, k = m + 20 := ⟨k - 20, by omega⟩
  obtain ⟨s, e⟩ := formOf_ok (k + 18) op
  unfold impl_InsOk.f
  rw [show k + 20 = k + 18 + 2 from rfl, e]; simp only [Option.bind_some]
  show impl_InsOk.l0 (k + 19 + 1) (hOp op) 0 op r a b n = _
  rw [ok_step (k + 19) (hOp op) op r a b n 0 1 82 r (hR op) (by omega) (by omega) rfl (by unfold wrap64; omega) (by unfold impl_partOf.f; simp) (hasPart_R _ _ _ _ _ _ (by omega)) (by omega),
    ok_step (k + 18) _ op r a b n 1 2 65 a (hA op) (by omega) (by omega) rfl (by unfold wrap64; omega) (by unfold impl_partOf.f; simp) (hasPart_A _ _ _ _ _ _ (by omega)) (by omega),
    ok_step (k + 17) _ op r a b n 2 3 66 b (hB op) (by omega) (by omega) rfl (by unfold wrap64; omega) (by unfold impl_partOf.f; simp) (hasPart_B _ _ _ _ _ _ (by omega)) (by omega),
    ok_stepN (k + 16) _ op r a b n (hN op) (hasPart_N _ _ _ _ _ _ (by omega)), ok_stepE (k + 15)]
  unfold insM; simp only [Bool.and_assoc]
theorem spec_Field_eq (x : Int) (h : Bool) : spec_l6Field.f x h = some (fM x h) := by
  unfold spec_l6Field.f fM; rw [spec_in_eq]; simp only [Option.bind_some]
  by_cases hx : 0 ≤ x ∧ x ≤ 7
  · rw [if_pos (decide_eq_true hx)]; cases h <;> simp [hx]
  · rw [if_neg (by simpa using hx)]; simp [hx]
theorem spec_InsOk_eq (op r a b n : Int) : spec_InsOk.f op r a b n = some (insM op r a b n) := by
  obtain ⟨t, e, h1, h2, h3, h4⟩ := has_bits4 op
  unfold spec_InsOk.f
  rw [e]; simp only [Option.bind_some, spec_in_eq, h1, h2, h3, spec_Field_eq]
  unfold insM hOp
  by_cases ho : 1 ≤ op ∧ op ≤ 15
  · rw [if_pos (decide_eq_true ho)]
    cases fM r (hR op) <;> cases fM a (hA op) <;> cases fM b (hB op) <;> simp [ho]
    unfold nM
    by_cases hn : -128 ≤ n ∧ n ≤ 127
    · rw [if_pos hn]; simp only [hn, and_self, decide_true, Bool.true_and]
      cases hh : hN op with
      | false => rw [if_pos (h4.mpr hh)]; simp
      | true => rw [if_neg (by rw [h4, hh]; simp)]; simp
    · rw [if_neg hn]; simp [hn]
  · rw [if_neg (by simpa using ho)]; simp [ho]

def dig (n : Int) : ByteArray := ⟨(Lib.itoa n).toArray⟩
theorem dec1 (u : Nat) (h : u < 10) : Lib.decDigits u = [UInt8.ofNat (48 + u)] := by rw [Lib.decDigits]; simp [h]
theorem dec2 (u : Nat) (h : ¬ u < 10) (h2 : u < 100) : Lib.decDigits u = [UInt8.ofNat (48 + u / 10), UInt8.ofNat (48 + u % 10)] := by rw [Lib.decDigits]; simp [h, dec1 (u / 10) (by omega)]
theorem dec3 (u : Nat) (h : ¬ u < 100) (h2 : u < 1000) : Lib.decDigits u = [UInt8.ofNat (48 + u / 10 / 10), UInt8.ofNat (48 + u / 10 % 10), UInt8.ofNat (48 + u % 10)] := by rw [Lib.decDigits]; simp [show ¬ u < 10 by omega, dec2 (u / 10) (by omega) (by omega)]
def decM (u : Nat) : List UInt8 := if u < 10 then [UInt8.ofNat (48 + u)] else if u < 100 then [UInt8.ofNat (48 + u / 10), UInt8.ofNat (48 + u % 10)] else [UInt8.ofNat (48 + u / 10 / 10), UInt8.ofNat (48 + u / 10 % 10), UInt8.ofNat (48 + u % 10)]
theorem decM_eq (u : Nat) (h : u < 1000) : Lib.decDigits u = decM u := by
  unfold decM
  by_cases h1 : u < 10
  · rw [if_pos h1, dec1 u h1]
  · rw [if_neg h1]
    by_cases h2 : u < 100
    · rw [if_pos h2, dec2 u h1 h2]
    · rw [if_neg h2, dec3 u h2 h]
def digM (n : Int) : ByteArray := ⟨(if n < 0 then 45 :: decM n.natAbs else decM n.toNat).toArray⟩
theorem dig_eq (n : Int) (h1 : -128 ≤ n) (h2 : n ≤ 127) : dig n = digM n := by
  unfold dig digM Lib.itoa
  by_cases h : n < 0
  · rw [if_pos h, if_pos h, decM_eq _ (by omega)]
  · rw [if_neg h, if_neg h, decM_eq _ (by omega)]
set_option maxRecDepth 100000 in
theorem digits_all : (List.range 256).all (fun m => decide (spec_l7Digits.f 12 ((m : Int) - 128) = some (digM ((m : Int) - 128))) && decide ((digM ((m : Int) - 128)).size ≤ 4)) = true := by kernel_rfl
theorem digits (n : Int) (h1 : -128 ≤ n) (h2 : n ≤ 127) : spec_l7Digits.f 12 n = some (dig n) ∧ (dig n).size ≤ 4 := by
  have h := List.all_eq_true.mp digits_all (n + 128).toNat (List.mem_range.mpr (by omega))
  rw [show (((n + 128).toNat : Nat) : Int) - 128 = n by omega] at h
  simp only [Bool.and_eq_true, decide_eq_true_eq] at h
  rw [dig_eq n h1 h2]
  exact h
theorem itoa_eq (n : Int) (h1 : -128 ≤ n) (h2 : n ≤ 127) : strconv_Itoa.f n = some (dig n) := by
  unfold strconv_Itoa.f dig
  rw [if_pos (by omega), if_pos (by omega)]
theorem digits_up (k : Nat) (hk : 12 ≤ k) (n : Int) (h1 : -128 ≤ n) (h2 : n ≤ 127) : spec_l7Digits.f k n = some (dig n) := by
  have h := (digits n h1 h2).1
  exact at_rounds (fun k => spec_l7Digits.mono n k) hk h

def w32 (op r a b n : Int) : Int := wrap64 ((wrap64 ((wrap64 ((wrap64 (op + (wrap64 (16 * r)))) + (wrap64 (128 * a)))) + (wrap64 (1024 * b)))) + (wrap64 (8192 * (wrap64 (n + 128)))))
def word32M (op r a b n : Int) : Int × Bool := if insM op r a b n = true then (w32 op r a b n, true) else (0, false)
theorem wf64 {n : Int} (h : (Lit.int .i64 n).wf = true) : -9223372036854775808 ≤ n ∧ n ≤ 9223372036854775807 := by
  simp only [Lit.wf, Bool.and_eq_true, decide_eq_true_eq] at h
  exact h


theorem insM_n {op r a b n : Int} (h : insM op r a b n = true) : -128 ≤ n ∧ n ≤ 127 := by
  unfold insM nM at h; simp only [Bool.and_eq_true, decide_eq_true_eq] at h; exact h.2.2.2.2.1
def insOfM (n : Int) : Int × Int × Int × Int × Int × Bool :=
  if n < 0 then (0, 0, 0, 0, 0, false) else if insM (n % 16) (n / 16 % 8) (n / 128 % 8) (n / 1024 % 8) (n / 8192 - 128) = true then
    (if w32 (n % 16) (n / 16 % 8) (n / 128 % 8) (n / 1024 % 8) (n / 8192 - 128) = n then (n % 16, n / 16 % 8, n / 128 % 8, n / 1024 % 8, n / 8192 - 128, true) else (0, 0, 0, 0, 0, false)) else (0, 0, 0, 0, 0, false)
def namesM : List ByteArray := [(⟨#[]⟩ : ByteArray), (⟨#[115, 101, 116]⟩ : ByteArray), (⟨#[97, 100, 100]⟩ : ByteArray), (⟨#[109, 111, 118, 101]⟩ : ByteArray), (⟨#[119, 101, 97, 107]⟩ : ByteArray), (⟨#[98, 111, 117, 110, 100]⟩ : ByteArray), (⟨#[112, 111, 105, 110, 116]⟩ : ByteArray), (⟨#[115, 101, 97, 108]⟩ : ByteArray), (⟨#[111, 112, 101, 110]⟩ : ByteArray), (⟨#[105, 115]⟩ : ByteArray), (⟨#[108, 111, 97, 100]⟩ : ByteArray), (⟨#[115, 116, 111, 114, 101]⟩ : ByteArray), (⟨#[106, 117, 109, 112]⟩ : ByteArray), (⟨#[122, 101, 114, 111]⟩ : ByteArray), (⟨#[103, 111, 110, 101]⟩ : ByteArray), (⟨#[104, 97, 108, 116]⟩ : ByteArray)]
theorem names_i : impl_opNames.f = some namesM := rfl
theorem names_s : spec_l7Names.f = some namesM := rfl
theorem name_size (op : Int) (h1 : 1 ≤ op) (h2 : op ≤ 15) : (rdOf ByteArray.empty namesM op).size ≤ 5 := by
  rcases op_cases op with rfl | rfl | rfl | rfl | rfl | rfl | rfl | rfl | rfl | rfl | rfl | rfl | rfl | rfl | rfl | h
  all_goals first | exact absurd ⟨h1, h2⟩ h | decide
def addR (x : ByteArray) (v : Int) : ByteArray := (x ++ (⟨#[32, 114]⟩ : ByteArray)) ++ dig v
def addN (x : ByteArray) (v : Int) : ByteArray := (x ++ (⟨#[32]⟩ : ByteArray)) ++ dig v
theorem two_size : (⟨#[32, 114]⟩ : ByteArray).size = 2 := rfl
theorem one_size (c : UInt8) : (⟨#[c]⟩ : ByteArray).size = 1 := rfl
theorem addR_size {x : ByteArray} {v : Int} {c : Nat} (hx : x.size ≤ c) (h : -128 ≤ v ∧ v ≤ 127) : (addR x v).size ≤ c + 6 := by
  have := (digits v h.1 h.2).2
  unfold addR
  rw [ByteArray.size_append, ByteArray.size_append, two_size]
  omega
theorem addN_size {x : ByteArray} {v : Int} {c : Nat} (hx : x.size ≤ c) (h : -128 ≤ v ∧ v ≤ 127) : (addN x v).size ≤ c + 6 := by
  have := (digits v h.1 h.2).2
  unfold addN
  rw [ByteArray.size_append, ByteArray.size_append, one_size]
  omega
theorem two_words (x : ByteArray) : (x ++ (⟨#[32]⟩ : ByteArray)) ++ (⟨#[114]⟩ : ByteArray) = x ++ (⟨#[32, 114]⟩ : ByteArray) := by
  rw [ByteArray.append_assoc]; rfl
def textM (op r a b n : Int) : ByteArray :=
  let x0 := rdOf ByteArray.empty namesM op
  let x1 := if hR op then addR x0 r else x0
  let x2 := if hA op then addR x1 a else x1
  let x3 := if hB op then addR x2 b else x2
  if hN op then addN x3 n else x3
theorem im_step (k : Nat) (fm x : ByteArray) (i i' op r a b n q v : Int) (c : Nat) (hi : 0 ≤ i) (h2 : i < (fm.size : Int)) (hw : wrap64 (i + 1) = i') (hq : rd (bytesOf fm) i = q) (hne : q ≠ 78) (hp : impl_partOf.f op r a b n q = some v) (hv : -128 ≤ v ∧ v ≤ 127) (hx : x.size ≤ c) (hc : c ≤ 1000) :
    impl_InsText.l0 (k + 1) fm x i op r a b n = impl_InsText.l0 k fm (addR x v) i' op r a b n := by
  simp only [impl_InsText.l0]
  have hd := (digits v hv.1 hv.2).2
  rw [if_pos h2, if_pos hi, hq, hp, hw]
  simp only [Option.bind_some]
  rw [itoa_eq v hv.1 hv.2]
  simp only [Option.bind_some]
  rw [if_neg hne, if_pos (by omega), if_pos (by rw [ByteArray.size_append, one_size]; omega), if_pos (by rw [ByteArray.size_append, ByteArray.size_append, one_size, one_size]; omega), two_words]
  rfl
theorem im_stepN (k : Nat) (fm x : ByteArray) (i i' op r a b n v : Int) (c : Nat) (hi : 0 ≤ i) (h2 : i < (fm.size : Int)) (hw : wrap64 (i + 1) = i') (hq : rd (bytesOf fm) i = 78) (hp : impl_partOf.f op r a b n 78 = some v) (hv : -128 ≤ v ∧ v ≤ 127) (hx : x.size ≤ c) (hc : c ≤ 1000) :
    impl_InsText.l0 (k + 1) fm x i op r a b n = impl_InsText.l0 k fm (addN x v) i' op r a b n := by
  simp only [impl_InsText.l0]
  have hd := (digits v hv.1 hv.2).2
  rw [if_pos h2, if_pos hi, hq, hp, hw]
  simp only [Option.bind_some]
  rw [itoa_eq v hv.1 hv.2]
  simp only [Option.bind_some]
  rw [if_pos trivial, if_pos (by omega), if_pos (by rw [ByteArray.size_append, one_size]; omega)]
  rfl
theorem im_end (k : Nat) (fm x : ByteArray) (i op r a b n : Int) (h : ¬ i < (fm.size : Int)) : impl_InsText.l0 (k + 1) fm x i op r a b n = some x := by
  simp only [impl_InsText.l0]
  rw [if_neg h]
theorem form_of (k : Nat) (hk : 12 ≤ k) (op : Int) (s : ByteArray) (h : impl_formOf.f 12 op = some (s, true)) : impl_formOf.f k op = some (s, true) := at_rounds (fun k => impl_formOf.mono op k) hk h
theorem insM_parts {op r a b n : Int} (h : insM op r a b n = true) : (1 ≤ op ∧ op ≤ 15) ∧ (-128 ≤ r ∧ r ≤ 127) ∧ (-128 ≤ a ∧ a ≤ 127) ∧ (-128 ≤ b ∧ b ≤ 127) ∧ (-128 ≤ n ∧ n ≤ 127) := by
  have hn := insM_n h
  unfold insM at h
  simp only [Bool.and_eq_true] at h
  obtain ⟨h1, h2, h3, h4, _⟩ := h
  have g : ∀ x t, fM x t = true → (-128 ≤ x ∧ x ≤ 127) := by
    intro x t hx
    unfold fM at hx
    simp only [Bool.and_eq_true, decide_eq_true_eq] at hx
    omega
  refine ⟨?_, g r _ h2, g a _ h3, g b _ h4, hn⟩
  rcases op_cases op with rfl | rfl | rfl | rfl | rfl | rfl | rfl | rfl | rfl | rfl | rfl | rfl | rfl | rfl | rfl | h
  all_goals first | omega | skip
  unfold hOp at h1
  simp at h1
  omega
set_option maxHeartbeats 1000000 in
theorem impl_text (k : Nat) (op r a b n : Int) (h : insM op r a b n = true) : impl_InsText.f (k + 24) op r a b n = some (textM op r a b n) := by
  obtain ⟨ho, hr, ha, hb, hn⟩ := insM_parts h
  unfold impl_InsText.f
  rw [impl_InsOk_eq _ _ _ _ _ _ (by omega), h]
  simp only [Option.bind_some, if_true]
  rw [names_i]
  simp only [Option.bind_some]
  rw [if_pos (by omega), if_pos (by show op < ((16 : Nat) : Int); omega)]
  have hz := name_size op ho.1 ho.2
  have pR : ∀ op, impl_partOf.f op r a b n 82 = some r := fun op => by unfold impl_partOf.f; rfl
  have pA : ∀ op, impl_partOf.f op r a b n 65 = some a := fun op => by unfold impl_partOf.f; rfl
  have pB : ∀ op, impl_partOf.f op r a b n 66 = some b := fun op => by unfold impl_partOf.f; rfl
  have pN : ∀ op, impl_partOf.f op r a b n 78 = some n := fun op => by unfold impl_partOf.f; rfl
  generalize hx : rdOf ByteArray.empty namesM op = x at hz
  unfold textM
  rw [hx]
  have z1 := fun v (hv : -128 ≤ v ∧ v ≤ 127) => addR_size hz hv
  rcases op_cases op with rfl | rfl | rfl | rfl | rfl | rfl | rfl | rfl | rfl | rfl | rfl | rfl | rfl | rfl | rfl | h'
  · rw [form_of (k + 24) (by omega) 1 (⟨#[82, 78]⟩ : ByteArray) (by decide +kernel)]
    simp only [Option.bind_some]
    rw [if_pos (by show (2 : Nat) ≤ _; decide)]
    rw [im_step (k + 23) _ x 0 1 1 r a b n 82 r 5 (by decide) (by decide) (by unfold wrap64; omega) (by rfl) (by decide) (pR 1) hr (hz) (by decide)]
    rw [im_stepN (k + 22) _ (addR x r) 1 2 1 r a b n n 11 (by decide) (by decide) (by unfold wrap64; omega) (by rfl) (pN 1) hn (addR_size hz hr) (by decide)]
    rw [im_end (k + 21) _ _ 2 1 r a b n (by decide)]
    rfl
  · rw [form_of (k + 24) (by omega) 2 (⟨#[82, 65, 66]⟩ : ByteArray) (by decide +kernel)]
    simp only [Option.bind_some]
    rw [if_pos (by show (3 : Nat) ≤ _; decide)]
    rw [im_step (k + 23) _ x 0 1 2 r a b n 82 r 5 (by decide) (by decide) (by unfold wrap64; omega) (by rfl) (by decide) (pR 2) hr (hz) (by decide)]
    rw [im_step (k + 22) _ (addR x r) 1 2 2 r a b n 65 a 11 (by decide) (by decide) (by unfold wrap64; omega) (by rfl) (by decide) (pA 2) ha (addR_size hz hr) (by decide)]
    rw [im_step (k + 21) _ (addR (addR x r) a) 2 3 2 r a b n 66 b 17 (by decide) (by decide) (by unfold wrap64; omega) (by rfl) (by decide) (pB 2) hb (addR_size (addR_size hz hr) ha) (by decide)]
    rw [im_end (k + 20) _ _ 3 2 r a b n (by decide)]
    rfl
  · rw [form_of (k + 24) (by omega) 3 (⟨#[82, 65]⟩ : ByteArray) (by decide +kernel)]
    simp only [Option.bind_some]
    rw [if_pos (by show (2 : Nat) ≤ _; decide)]
    rw [im_step (k + 23) _ x 0 1 3 r a b n 82 r 5 (by decide) (by decide) (by unfold wrap64; omega) (by rfl) (by decide) (pR 3) hr (hz) (by decide)]
    rw [im_step (k + 22) _ (addR x r) 1 2 3 r a b n 65 a 11 (by decide) (by decide) (by unfold wrap64; omega) (by rfl) (by decide) (pA 3) ha (addR_size hz hr) (by decide)]
    rw [im_end (k + 21) _ _ 2 3 r a b n (by decide)]
    rfl
  · rw [form_of (k + 24) (by omega) 4 (⟨#[82, 65, 66]⟩ : ByteArray) (by decide +kernel)]
    simp only [Option.bind_some]
    rw [if_pos (by show (3 : Nat) ≤ _; decide)]
    rw [im_step (k + 23) _ x 0 1 4 r a b n 82 r 5 (by decide) (by decide) (by unfold wrap64; omega) (by rfl) (by decide) (pR 4) hr (hz) (by decide)]
    rw [im_step (k + 22) _ (addR x r) 1 2 4 r a b n 65 a 11 (by decide) (by decide) (by unfold wrap64; omega) (by rfl) (by decide) (pA 4) ha (addR_size hz hr) (by decide)]
    rw [im_step (k + 21) _ (addR (addR x r) a) 2 3 4 r a b n 66 b 17 (by decide) (by decide) (by unfold wrap64; omega) (by rfl) (by decide) (pB 4) hb (addR_size (addR_size hz hr) ha) (by decide)]
    rw [im_end (k + 20) _ _ 3 4 r a b n (by decide)]
    rfl
  · rw [form_of (k + 24) (by omega) 5 (⟨#[82, 65, 66]⟩ : ByteArray) (by decide +kernel)]
    simp only [Option.bind_some]
    rw [if_pos (by show (3 : Nat) ≤ _; decide)]
    rw [im_step (k + 23) _ x 0 1 5 r a b n 82 r 5 (by decide) (by decide) (by unfold wrap64; omega) (by rfl) (by decide) (pR 5) hr (hz) (by decide)]
    rw [im_step (k + 22) _ (addR x r) 1 2 5 r a b n 65 a 11 (by decide) (by decide) (by unfold wrap64; omega) (by rfl) (by decide) (pA 5) ha (addR_size hz hr) (by decide)]
    rw [im_step (k + 21) _ (addR (addR x r) a) 2 3 5 r a b n 66 b 17 (by decide) (by decide) (by unfold wrap64; omega) (by rfl) (by decide) (pB 5) hb (addR_size (addR_size hz hr) ha) (by decide)]
    rw [im_end (k + 20) _ _ 3 5 r a b n (by decide)]
    rfl
  · rw [form_of (k + 24) (by omega) 6 (⟨#[82, 65, 66, 78]⟩ : ByteArray) (by decide +kernel)]
    simp only [Option.bind_some]
    rw [if_pos (by show (4 : Nat) ≤ _; decide)]
    rw [im_step (k + 23) _ x 0 1 6 r a b n 82 r 5 (by decide) (by decide) (by unfold wrap64; omega) (by rfl) (by decide) (pR 6) hr (hz) (by decide)]
    rw [im_step (k + 22) _ (addR x r) 1 2 6 r a b n 65 a 11 (by decide) (by decide) (by unfold wrap64; omega) (by rfl) (by decide) (pA 6) ha (addR_size hz hr) (by decide)]
    rw [im_step (k + 21) _ (addR (addR x r) a) 2 3 6 r a b n 66 b 17 (by decide) (by decide) (by unfold wrap64; omega) (by rfl) (by decide) (pB 6) hb (addR_size (addR_size hz hr) ha) (by decide)]
    rw [im_stepN (k + 20) _ (addR (addR (addR x r) a) b) 3 4 6 r a b n n 23 (by decide) (by decide) (by unfold wrap64; omega) (by rfl) (pN 6) hn (addR_size (addR_size (addR_size hz hr) ha) hb) (by decide)]
    rw [im_end (k + 19) _ _ 4 6 r a b n (by decide)]
    rfl
  · rw [form_of (k + 24) (by omega) 7 (⟨#[82, 65, 66]⟩ : ByteArray) (by decide +kernel)]
    simp only [Option.bind_some]
    rw [if_pos (by show (3 : Nat) ≤ _; decide)]
    rw [im_step (k + 23) _ x 0 1 7 r a b n 82 r 5 (by decide) (by decide) (by unfold wrap64; omega) (by rfl) (by decide) (pR 7) hr (hz) (by decide)]
    rw [im_step (k + 22) _ (addR x r) 1 2 7 r a b n 65 a 11 (by decide) (by decide) (by unfold wrap64; omega) (by rfl) (by decide) (pA 7) ha (addR_size hz hr) (by decide)]
    rw [im_step (k + 21) _ (addR (addR x r) a) 2 3 7 r a b n 66 b 17 (by decide) (by decide) (by unfold wrap64; omega) (by rfl) (by decide) (pB 7) hb (addR_size (addR_size hz hr) ha) (by decide)]
    rw [im_end (k + 20) _ _ 3 7 r a b n (by decide)]
    rfl
  · rw [form_of (k + 24) (by omega) 8 (⟨#[82, 65, 66]⟩ : ByteArray) (by decide +kernel)]
    simp only [Option.bind_some]
    rw [if_pos (by show (3 : Nat) ≤ _; decide)]
    rw [im_step (k + 23) _ x 0 1 8 r a b n 82 r 5 (by decide) (by decide) (by unfold wrap64; omega) (by rfl) (by decide) (pR 8) hr (hz) (by decide)]
    rw [im_step (k + 22) _ (addR x r) 1 2 8 r a b n 65 a 11 (by decide) (by decide) (by unfold wrap64; omega) (by rfl) (by decide) (pA 8) ha (addR_size hz hr) (by decide)]
    rw [im_step (k + 21) _ (addR (addR x r) a) 2 3 8 r a b n 66 b 17 (by decide) (by decide) (by unfold wrap64; omega) (by rfl) (by decide) (pB 8) hb (addR_size (addR_size hz hr) ha) (by decide)]
    rw [im_end (k + 20) _ _ 3 8 r a b n (by decide)]
    rfl
  · rw [form_of (k + 24) (by omega) 9 (⟨#[82, 65]⟩ : ByteArray) (by decide +kernel)]
    simp only [Option.bind_some]
    rw [if_pos (by show (2 : Nat) ≤ _; decide)]
    rw [im_step (k + 23) _ x 0 1 9 r a b n 82 r 5 (by decide) (by decide) (by unfold wrap64; omega) (by rfl) (by decide) (pR 9) hr (hz) (by decide)]
    rw [im_step (k + 22) _ (addR x r) 1 2 9 r a b n 65 a 11 (by decide) (by decide) (by unfold wrap64; omega) (by rfl) (by decide) (pA 9) ha (addR_size hz hr) (by decide)]
    rw [im_end (k + 21) _ _ 2 9 r a b n (by decide)]
    rfl
  · rw [form_of (k + 24) (by omega) 10 (⟨#[82, 65, 78]⟩ : ByteArray) (by decide +kernel)]
    simp only [Option.bind_some]
    rw [if_pos (by show (3 : Nat) ≤ _; decide)]
    rw [im_step (k + 23) _ x 0 1 10 r a b n 82 r 5 (by decide) (by decide) (by unfold wrap64; omega) (by rfl) (by decide) (pR 10) hr (hz) (by decide)]
    rw [im_step (k + 22) _ (addR x r) 1 2 10 r a b n 65 a 11 (by decide) (by decide) (by unfold wrap64; omega) (by rfl) (by decide) (pA 10) ha (addR_size hz hr) (by decide)]
    rw [im_stepN (k + 21) _ (addR (addR x r) a) 2 3 10 r a b n n 17 (by decide) (by decide) (by unfold wrap64; omega) (by rfl) (pN 10) hn (addR_size (addR_size hz hr) ha) (by decide)]
    rw [im_end (k + 20) _ _ 3 10 r a b n (by decide)]
    rfl
  · rw [form_of (k + 24) (by omega) 11 (⟨#[65, 66, 78]⟩ : ByteArray) (by decide +kernel)]
    simp only [Option.bind_some]
    rw [if_pos (by show (3 : Nat) ≤ _; decide)]
    rw [im_step (k + 23) _ x 0 1 11 r a b n 65 a 5 (by decide) (by decide) (by unfold wrap64; omega) (by rfl) (by decide) (pA 11) ha (hz) (by decide)]
    rw [im_step (k + 22) _ (addR x a) 1 2 11 r a b n 66 b 11 (by decide) (by decide) (by unfold wrap64; omega) (by rfl) (by decide) (pB 11) hb (addR_size hz ha) (by decide)]
    rw [im_stepN (k + 21) _ (addR (addR x a) b) 2 3 11 r a b n n 17 (by decide) (by decide) (by unfold wrap64; omega) (by rfl) (pN 11) hn (addR_size (addR_size hz ha) hb) (by decide)]
    rw [im_end (k + 20) _ _ 3 11 r a b n (by decide)]
    rfl
  · rw [form_of (k + 24) (by omega) 12 (⟨#[82, 65]⟩ : ByteArray) (by decide +kernel)]
    simp only [Option.bind_some]
    rw [if_pos (by show (2 : Nat) ≤ _; decide)]
    rw [im_step (k + 23) _ x 0 1 12 r a b n 82 r 5 (by decide) (by decide) (by unfold wrap64; omega) (by rfl) (by decide) (pR 12) hr (hz) (by decide)]
    rw [im_step (k + 22) _ (addR x r) 1 2 12 r a b n 65 a 11 (by decide) (by decide) (by unfold wrap64; omega) (by rfl) (by decide) (pA 12) ha (addR_size hz hr) (by decide)]
    rw [im_end (k + 21) _ _ 2 12 r a b n (by decide)]
    rfl
  · rw [form_of (k + 24) (by omega) 13 (⟨#[65, 78]⟩ : ByteArray) (by decide +kernel)]
    simp only [Option.bind_some]
    rw [if_pos (by show (2 : Nat) ≤ _; decide)]
    rw [im_step (k + 23) _ x 0 1 13 r a b n 65 a 5 (by decide) (by decide) (by unfold wrap64; omega) (by rfl) (by decide) (pA 13) ha (hz) (by decide)]
    rw [im_stepN (k + 22) _ (addR x a) 1 2 13 r a b n n 11 (by decide) (by decide) (by unfold wrap64; omega) (by rfl) (pN 13) hn (addR_size hz ha) (by decide)]
    rw [im_end (k + 21) _ _ 2 13 r a b n (by decide)]
    rfl
  · rw [form_of (k + 24) (by omega) 14 (⟨#[65]⟩ : ByteArray) (by decide +kernel)]
    simp only [Option.bind_some]
    rw [if_pos (by show (1 : Nat) ≤ _; decide)]
    rw [im_step (k + 23) _ x 0 1 14 r a b n 65 a 5 (by decide) (by decide) (by unfold wrap64; omega) (by rfl) (by decide) (pA 14) ha (hz) (by decide)]
    rw [im_end (k + 22) _ _ 1 14 r a b n (by decide)]
    rfl
  · rw [form_of (k + 24) (by omega) 15 (⟨#[]⟩ : ByteArray) (by decide +kernel)]
    simp only [Option.bind_some]
    rw [if_pos (by show (0 : Nat) ≤ _; decide)]
    rw [im_end (k + 23) _ _ 0 15 r a b n (by decide)]
    rfl
  · exact absurd ho h'
theorem spec_text (k : Nat) (op r a b n : Int) (h : insM op r a b n = true) : spec_InsText.f (k + 24) op r a b n = some (textM op r a b n) := by
  obtain ⟨ho, hr, ha, hb, hn⟩ := insM_parts h
  obtain ⟨t, e, b1, b2, b4, b8⟩ := has_bits4 op
  have hz := name_size op ho.1 ho.2
  have dg : ∀ k v, -128 ≤ v ∧ v ≤ 127 → spec_l7Digits.f (k + 12) v = some (dig v) := fun k v hv => digits_up (k + 12) (by omega) v hv.1 hv.2
  have sz : ∀ v, -128 ≤ v ∧ v ≤ 127 → (dig v).size ≤ 4 := fun v hv => (digits v hv.1 hv.2).2
  have sr := sz r hr
  have sa := sz a ha
  have sb := sz b hb
  have sn := sz n hn
  unfold spec_InsText.f
  rw [spec_InsOk_eq, h]
  simp only [Option.bind_some, if_true]
  rw [e, names_s]
  simp only [Option.bind_some]
  rw [if_pos (by omega), if_pos (by show op < ((16 : Nat) : Int); omega)]
  generalize hx : rdOf ByteArray.empty namesM op = x at hz
  unfold textM
  rw [hx]
  have J1 : ∀ (k : Nat) (x : ByteArray), x.size ≤ 100 → spec_InsText.j1 (k + 13) t x op r a b n = some (let x3 := if hB op then addR x b else x; if hN op then addN x3 n else x3) := by
    intro k x hx
    simp only [spec_InsText.j1]
    have N1 : ∀ y : ByteArray, y.size ≤ 200 → ((if (bits .and .i64 t 8) = 0 then some y else (if y.size + 1 ≤ 9223372036854775807 then ((spec_l7Digits.f (k + 12) n).bind fun bl => (if (y ++ (⟨#[32]⟩ : ByteArray)).size + bl.size ≤ 9223372036854775807 then (some ((y ++ (⟨#[32]⟩ : ByteArray)) ++ bl)) else none)) else none)) : Option ByteArray) = some (if hN op then addN y n else y) := by
      intro y hy
      by_cases c : (bits .and .i64 t 8) = 0
      · rw [if_pos c, b8.mp c]; rfl
      · have : hN op = true := by
          cases hh : hN op with
          | true => rfl
          | false => exact absurd (b8.mpr hh) c
        rw [if_neg c, this, if_pos (by omega), dg k n hn]
        simp only [Option.bind_some, if_true]
        rw [if_pos (by rw [ByteArray.size_append, one_size]; omega)]
        rfl
    cases hb' : hB op with
    | false =>
      rw [hb'] at b4
      have c : (bits .and .i64 t 4) = 0 := by simpa using b4
      rw [if_pos c]
      have := N1 x (by omega)
      simpa using this
    | true =>
      rw [hb'] at b4
      have c : ¬ (bits .and .i64 t 4) = 0 := by simpa using b4
      rw [if_neg c, if_pos (by omega), dg k b hb]
      simp only [Option.bind_some]
      rw [if_pos (by rw [ByteArray.size_append, two_size]; omega)]
      have := N1 (addR x b) (by have := addR_size hx hb; omega)
      simpa [addR] using this
  have J0 : ∀ (k : Nat) (x : ByteArray), x.size ≤ 50 → spec_InsText.j0 (k + 14) t x op r a b n = some (let x2 := if hA op then addR x a else x; let x3 := if hB op then addR x2 b else x2; if hN op then addN x3 n else x3) := by
    intro k x hx
    simp only [spec_InsText.j0]
    cases ha' : hA op with
    | false =>
      rw [ha'] at b2
      have c : (bits .and .i64 t 2) = 0 := by simpa using b2
      rw [if_pos c, J1 k x (by omega)]
      simp
    | true =>
      rw [ha'] at b2
      have c : ¬ (bits .and .i64 t 2) = 0 := by simpa using b2
      rw [if_neg c, if_pos (by omega), dg (k + 1) a ha]
      simp only [Option.bind_some]
      rw [if_pos (by rw [ByteArray.size_append, two_size]; omega)]
      have := J1 k (addR x a) (by have := addR_size hx ha; omega)
      simpa [addR] using this
  cases hr' : hR op with
  | false =>
    rw [hr'] at b1
    have c : (bits .and .i64 t 1) = 0 := by simpa using b1
    rw [if_pos c, J0 (k + 10) x (by omega)]
    simp
  | true =>
    rw [hr'] at b1
    have c : ¬ (bits .and .i64 t 1) = 0 := by simpa using b1
    rw [if_neg c, if_pos (by omega), dg (k + 12) r hr]
    simp only [Option.bind_some]
    rw [if_pos (by rw [ByteArray.size_append, two_size]; omega)]
    have := J0 (k + 10) (addR x r) (by have := addR_size hz hr; omega)
    simpa [addR] using this

def B (l : List UInt8) : ByteArray := ⟨l.toArray⟩
theorem B_data (l : List UInt8) : (B l).data.toList = l := rfl
theorem B_of (s : ByteArray) : B s.data.toList = s := rfl
theorem map_B {ws : List ByteArray} {ts : List (List UInt8)} (h : ws.map (·.data.toList) = ts) : ws = ts.map B := by
  rw [← h, List.map_map]
  exact (List.map_id'' (f := B ∘ (·.data.toList)) (fun s => rfl) ws).symm
def nameM (op : Int) : List UInt8 := (rdOf ByteArray.empty namesM op).data.toList
def tokR (v : Int) : List UInt8 := 114 :: Lib.itoa v
def tokens (op r a b n : Int) : List (List UInt8) :=
  nameM op :: ((if hR op then [tokR r] else []) ++ ((if hA op then [tokR a] else []) ++ ((if hB op then [tokR b] else []) ++ (if hN op then [Lib.itoa n] else []))))
theorem app_data (a b : ByteArray) : (a ++ b).data.toList = a.data.toList ++ b.data.toList := by simp
theorem addR_data (x : ByteArray) (v : Int) : (addR x v).data.toList = x.data.toList ++ 32 :: tokR v := by
  unfold addR
  rw [app_data, app_data]
  show (x.data.toList ++ [32, 114]) ++ Lib.itoa v = _
  simp [tokR]
theorem addN_data (x : ByteArray) (v : Int) : (addN x v).data.toList = x.data.toList ++ 32 :: Lib.itoa v := by
  unfold addN
  rw [app_data, app_data]
  show (x.data.toList ++ [32]) ++ Lib.itoa v = _
  simp
theorem join_snoc : ∀ (ts : List (List UInt8)) (t : List UInt8), ts ≠ [] → joinL (ts ++ [t]) = joinL ts ++ 32 :: t
  | [], _, h => absurd rfl h
  | [w], t, _ => rfl
  | w :: x :: ws, t, _ => by
    show w ++ 32 :: joinL ((x :: ws) ++ [t]) = (w ++ 32 :: joinL (x :: ws)) ++ 32 :: t
    rw [join_snoc (x :: ws) t (by simp)]
    simp
theorem if_addR {x : ByteArray} {ts : List (List UInt8)} (h : x.data.toList = joinL ts) (hn : ts ≠ []) (c : Bool) (v : Int) : (if c then addR x v else x).data.toList = joinL (ts ++ (if c then [tokR v] else [])) ∧ ts ++ (if c then [tokR v] else []) ≠ [] := by
  cases c with
  | true => exact ⟨by rw [if_pos rfl, addR_data, h, if_pos rfl, join_snoc ts _ hn], by simp⟩
  | false => exact ⟨by simpa using h, by simpa using hn⟩
theorem if_addN {x : ByteArray} {ts : List (List UInt8)} (h : x.data.toList = joinL ts) (hn : ts ≠ []) (c : Bool) (v : Int) : (if c then addN x v else x).data.toList = joinL (ts ++ (if c then [Lib.itoa v] else [])) := by
  cases c with
  | true => rw [if_pos rfl, addN_data, h, if_pos rfl, join_snoc ts _ hn]
  | false => simpa using h
theorem text_join (op r a b n : Int) : (textM op r a b n).data.toList = joinL (tokens op r a b n) := by
  obtain ⟨h1, n1⟩ := if_addR (x := rdOf ByteArray.empty namesM op) (ts := [nameM op]) rfl (by simp) (hR op) r
  obtain ⟨h2, n2⟩ := if_addR h1 n1 (hA op) a
  obtain ⟨h3, n3⟩ := if_addR h2 n2 (hB op) b
  have h4 := if_addN h3 n3 (hN op) n
  unfold textM tokens
  simp only [List.append_assoc, List.cons_append, List.nil_append] at h4 ⊢
  exact h4
theorem itoa_list (n : Int) (h1 : -128 ≤ n) (h2 : n ≤ 127) : Lib.itoa n = (digM n).data.toList := by
  have := congrArg (·.data.toList) (dig_eq n h1 h2)
  exact this
theorem dig_space_all : (List.range 256).all (fun m => !((digM ((m : Int) - 128)).data.toList.contains 32)) = true := by decide +kernel
theorem dig_space (n : Int) (h1 : -128 ≤ n) (h2 : n ≤ 127) : (32 : UInt8) ∉ Lib.itoa n := by
  have h := List.all_eq_true.mp dig_space_all (n + 128).toNat (List.mem_range.mpr (by omega))
  rw [show (((n + 128).toNat : Nat) : Int) - 128 = n by omega] at h
  rw [itoa_list n h1 h2]
  intro hm
  have : (digM n).data.toList.contains 32 = true := by simpa using hm
  rw [this] at h
  cases h
theorem name_space (op : Int) (h1 : 1 ≤ op) (h2 : op ≤ 15) : (32 : UInt8) ∉ nameM op := by
  rcases op_cases op with rfl | rfl | rfl | rfl | rfl | rfl | rfl | rfl | rfl | rfl | rfl | rfl | rfl | rfl | rfl | h
  all_goals first | exact absurd ⟨h1, h2⟩ h | decide
theorem tok_space (v : Int) (h : -128 ≤ v ∧ v ≤ 127) : (32 : UInt8) ∉ tokR v := by
  intro hm
  rcases List.mem_cons.mp hm with h1 | h1
  · exact absurd h1 (by decide)
  · exact dig_space v h.1 h.2 h1
theorem text_words {op r a b n : Int} (h : insM op r a b n = true) : wordsL (textM op r a b n).data.toList = tokens op r a b n := by
  obtain ⟨ho, hr, ha, hb, hn⟩ := insM_parts h
  rw [text_join]
  refine words_join _ (by simp [tokens]) ?_
  intro w hw
  unfold tokens at hw
  simp only [List.mem_cons, List.mem_append] at hw
  have one : ∀ (c : Bool) (t : List UInt8), w ∈ (if c then [t] else []) → w = t := by
    intro c t hm
    cases c with
    | true => simpa using hm
    | false => simp at hm
  rcases hw with e | e | e | e | e
  · rw [e]; exact name_space op ho.1 ho.2
  · rw [one _ _ e]; exact tok_space r hr
  · rw [one _ _ e]; exact tok_space a ha
  · rw [one _ _ e]; exact tok_space b hb
  · rw [one _ _ e]; exact dig_space n hn.1 hn.2

theorem ifR {x : ByteArray} {c : Nat} {v : Int} (t : Bool) (hx : x.size ≤ c) (h : -128 ≤ v ∧ v ≤ 127) : (if t then addR x v else x).size ≤ c + 6 := by
  cases t with
  | true => exact addR_size hx h
  | false => exact Nat.le_trans hx (Nat.le_add_right _ _)
theorem ifN {x : ByteArray} {c : Nat} {v : Int} (t : Bool) (hx : x.size ≤ c) (h : -128 ≤ v ∧ v ≤ 127) : (if t then addN x v else x).size ≤ c + 6 := by
  cases t with
  | true => exact addN_size hx h
  | false => exact Nat.le_trans hx (Nat.le_add_right _ _)
theorem textM_size {op r a b n : Int} (h : insM op r a b n = true) : (textM op r a b n).size ≤ 29 := by
  obtain ⟨ho, hr, ha, hb, hn⟩ := insM_parts h
  have := ifN (hN op) (ifR (hB op) (ifR (hA op) (ifR (hR op) (name_size op ho.1 ho.2) hr) ha) hb) hn
  exact this

theorem trim_all : (List.range 256).all (fun m => decide (strings_TrimPrefix.f (B (114 :: (digM ((m : Int) - 128)).data.toList)) (⟨#[114]⟩ : ByteArray) = some (digM ((m : Int) - 128))) && (decide (strings_TrimPrefix.f (digM ((m : Int) - 128)) (⟨#[114]⟩ : ByteArray) = some (digM ((m : Int) - 128))) && decide (strconv_Atoi.f (digM ((m : Int) - 128)) = some ((m : Int) - 128, true)))) = true := by decide +kernel
theorem trims (n : Int) (h1 : -128 ≤ n) (h2 : n ≤ 127) : strings_TrimPrefix.f (B (114 :: (digM n).data.toList)) (⟨#[114]⟩ : ByteArray) = some (digM n) ∧ strings_TrimPrefix.f (digM n) (⟨#[114]⟩ : ByteArray) = some (digM n) ∧ strconv_Atoi.f (digM n) = some (n, true) := by
  have h := List.all_eq_true.mp trim_all (n + 128).toNat (List.mem_range.mpr (by omega))
  rw [show (((n + 128).toNat : Nat) : Int) - 128 = n by omega] at h
  simp only [Bool.and_eq_true, decide_eq_true_eq] at h
  exact h
theorem B_itoa (v : Int) (h : -128 ≤ v ∧ v ≤ 127) : B (Lib.itoa v) = digM v := by rw [itoa_list v h.1 h.2]; rfl
theorem trim_r (v : Int) (h : -128 ≤ v ∧ v ≤ 127) : strings_TrimPrefix.f (B (tokR v)) (⟨#[114]⟩ : ByteArray) = some (dig v) := by
  rw [dig_eq v h.1 h.2]; unfold tokR; rw [itoa_list v h.1 h.2]; exact (trims v h.1 h.2).1
theorem trim_n (v : Int) (h : -128 ≤ v ∧ v ≤ 127) : strings_TrimPrefix.f (B (Lib.itoa v)) (⟨#[114]⟩ : ByteArray) = some (dig v) := by
  rw [dig_eq v h.1 h.2, B_itoa v h]; exact (trims v h.1 h.2).2.1
theorem atoi_dig (v : Int) (h : -128 ≤ v ∧ v ≤ 127) : strconv_Atoi.f (dig v) = some (v, true) := by
  rw [dig_eq v h.1 h.2]; exact (trims v h.1 h.2).2.2
theorem idx_of (k : Nat) (hk : 20 ≤ k) (op : Int) (h : slices_Index_string_string.f 20 namesM (B (nameM op)) = some op) : slices_Index_string_string.f k namesM (B (nameM op)) = some op := at_rounds (fun k => slices_Index_string_string.mono _ _ k) hk h
theorem zero_parts {op r a b n : Int} (h : insM op r a b n = true) : (hR op = false → (0 : Int) = r) ∧ (hA op = false → (0 : Int) = a) ∧ (hB op = false → (0 : Int) = b) ∧ (hN op = false → (0 : Int) = n) := by
  unfold insM at h
  simp only [Bool.and_eq_true] at h
  obtain ⟨_, h2, h3, h4, h5⟩ := h
  have g : ∀ x t, fM x t = true → t = false → (0 : Int) = x := by
    intro x t hx ht
    subst ht
    unfold fM at hx
    simp at hx
    omega
  refine ⟨g r _ h2, g a _ h3, g b _ h4, ?_⟩
  intro ht
  rw [ht] at h5
  unfold nM at h5
  simp at h5
  omega
theorem ir_step (k : Nat) (line : ByteArray) (ws : List ByteArray) (fm : ByteArray) (i i' op r a b n : Int) (tk t : ByteArray) (v q op' r' a' b' n' : Int) (hi : 0 ≤ i) (h1 : i < (ws.length : Int)) (hq : rdOf ByteArray.empty ws i = tk) (ht : strings_TrimPrefix.f tk (⟨#[114]⟩ : ByteArray) = some t) (ha : strconv_Atoi.f t = some (v, true)) (h2 : i < (fm.size : Int)) (hb : bt fm i = q) (hp : impl_withPart.f op r a b n q v = some (op', r', a', b', n')) (hw : wrap64 (i + 1) = i') :
    impl_InsRead.l0 (k + 1) line fm ws (ws.length : Int) i op r a b n = impl_InsRead.l0 k line fm ws (ws.length : Int) i' op' r' a' b' n' := by
  simp only [impl_InsRead.l0]
  rw [if_pos h1, if_pos hi, if_pos h1, hq, ht]; simp only [Option.bind_some]
  rw [ha]; simp only [Option.bind_some, if_true]
  rw [if_pos h2, hb, hp]; simp only [Option.bind_some]
  rw [hw]
theorem ir_end (k : Nat) (line : ByteArray) (ws : List ByteArray) (fm : ByteArray) (i op r a b n : Int) (h1 : ¬ i < (ws.length : Int)) :
    impl_InsRead.l0 (k + 1) line fm ws (ws.length : Int) i op r a b n = (impl_InsText.f k op r a b n).bind fun s => (if s.toList = line.toList then (some (op, r, a, b, n, true)) else (some (0, 0, 0, 0, 0, false))) := by
  simp only [impl_InsRead.l0]
  rw [if_neg h1]
theorem split_text {op r a b n : Int} (h : insM op r a b n = true) : strings_Split.f (textM op r a b n) (⟨#[32]⟩ : ByteArray) = some ((tokens op r a b n).map B) := by
  have hz := textM_size h
  have hw := map_B ((split_words (textM op r a b n)).trans (text_words h))
  have hc : Lib.countB (textM op r a b n) spaceB + 1 ≤ 9223372036854775807 := by
    have hl : (Lib.splitB spaceB 0 (Lib.countB (textM op r a b n) spaceB) (textM op r a b n)).length = Lib.countB (textM op r a b n) spaceB + 1 := Lib.splitB_all spaceB (by decide) 0 _ _ rfl
    have h2 := congrArg List.length hw
    rw [hl, List.length_map] at h2
    have : (tokens op r a b n).length ≤ 5 := by
      unfold tokens
      cases hR op <;> cases hA op <;> cases hB op <;> cases hN op <;> simp
    omega
  show strings_Split.f (textM op r a b n) spaceB = _
  unfold strings_Split.f
  rw [if_pos (by omega), if_pos (by decide), if_pos hc]
  exact congrArg some hw
set_option maxHeartbeats 1000000 in
theorem impl_read_back (k : Nat) (op r a b n : Int) (h : insM op r a b n = true) : impl_InsRead.f (k + 40) (textM op r a b n) = some (op, r, a, b, n, true) := by
  obtain ⟨ho, hr, ha, hb, hn⟩ := insM_parts h
  unfold impl_InsRead.f
  rw [split_text h]
  rcases op_cases op with rfl | rfl | rfl | rfl | rfl | rfl | rfl | rfl | rfl | rfl | rfl | rfl | rfl | rfl | rfl | h'
  · obtain ⟨zR, zA, zB, zN⟩ := zero_parts h
    obtain rfl := zA rfl
    obtain rfl := zB rfl
    clear zR zA zB zN
    have hws : (tokens 1 r 0 0 n).map B = B (nameM 1) :: [B (tokR r), B (Lib.itoa n)] := by rfl
    rw [hws]; simp only [Option.bind_some]
    rw [names_i]; simp only [Option.bind_some]
    rw [if_pos (by simp), show rdOf ByteArray.empty (B (nameM 1) :: [B (tokR r), B (Lib.itoa n)]) 0 = B (nameM 1) from rfl, idx_of (k + 40) (by omega) 1 (by decide +kernel)]; simp only [Option.bind_some]
    rw [form_of (k + 40) (by omega) 1 (⟨#[82, 78]⟩ : ByteArray) (by decide +kernel)]; simp only [Option.bind_some, if_true]
    rw [show (((B (nameM 1) :: [B (tokR r), B (Lib.itoa n)]).length : Int) != wrap64 (((⟨#[82, 78]⟩ : ByteArray).size : Int) + 1)) = false from by (rw [show wrap64 (((⟨#[82, 78]⟩ : ByteArray).size : Int) + 1) = 3 from by (show wrap64 ((2 : Int) + 1) = 3; unfold wrap64; omega)]; rfl)]
    rw [show k + 40 = (k + 39) + 1 from rfl]; simp only [impl_InsRead.j0]; rw [if_neg (by decide), show (B (nameM 1) :: [B (tokR r), B (Lib.itoa n)]).drop 1 = [B (tokR r), B (Lib.itoa n)] from rfl]
    rw [ir_step (k + 38) _ [B (tokR r), B (Lib.itoa n)] (⟨#[82, 78]⟩ : ByteArray) 0 1 1 0 0 0 0 (B (tokR r)) (dig r) r 82 1 r 0 0 0 (by decide) (by show (0 : Int) < 2; decide) rfl (trim_r r hr) (atoi_dig r hr) (by show (0 : Int) < 2; decide) (by rfl) (by unfold impl_withPart.f; rfl) (by unfold wrap64; omega)]
    rw [ir_step (k + 37) _ [B (tokR r), B (Lib.itoa n)] (⟨#[82, 78]⟩ : ByteArray) 1 2 1 r 0 0 0 (B (Lib.itoa n)) (dig n) n 78 1 r 0 0 n (by decide) (by show (1 : Int) < 2; decide) rfl (trim_n n hn) (atoi_dig n hn) (by show (1 : Int) < 2; decide) (by rfl) (by unfold impl_withPart.f; rfl) (by unfold wrap64; omega)]
    rw [ir_end (k + 36) _ [B (tokR r), B (Lib.itoa n)] _ 2 1 r 0 0 n (by show ¬ (2 : Int) < 2; decide), impl_text (k + 12) _ _ _ _ _ h]; simp only [Option.bind_some, if_true]
  · obtain ⟨zR, zA, zB, zN⟩ := zero_parts h
    obtain rfl := zN rfl
    clear zR zA zB zN
    have hws : (tokens 2 r a b 0).map B = B (nameM 2) :: [B (tokR r), B (tokR a), B (tokR b)] := by rfl
    rw [hws]; simp only [Option.bind_some]
    rw [names_i]; simp only [Option.bind_some]
    rw [if_pos (by simp), show rdOf ByteArray.empty (B (nameM 2) :: [B (tokR r), B (tokR a), B (tokR b)]) 0 = B (nameM 2) from rfl, idx_of (k + 40) (by omega) 2 (by decide +kernel)]; simp only [Option.bind_some]
    rw [form_of (k + 40) (by omega) 2 (⟨#[82, 65, 66]⟩ : ByteArray) (by decide +kernel)]; simp only [Option.bind_some, if_true]
    rw [show (((B (nameM 2) :: [B (tokR r), B (tokR a), B (tokR b)]).length : Int) != wrap64 (((⟨#[82, 65, 66]⟩ : ByteArray).size : Int) + 1)) = false from by (rw [show wrap64 (((⟨#[82, 65, 66]⟩ : ByteArray).size : Int) + 1) = 4 from by (show wrap64 ((3 : Int) + 1) = 4; unfold wrap64; omega)]; rfl)]
    rw [show k + 40 = (k + 39) + 1 from rfl]; simp only [impl_InsRead.j0]; rw [if_neg (by decide), show (B (nameM 2) :: [B (tokR r), B (tokR a), B (tokR b)]).drop 1 = [B (tokR r), B (tokR a), B (tokR b)] from rfl]
    rw [ir_step (k + 38) _ [B (tokR r), B (tokR a), B (tokR b)] (⟨#[82, 65, 66]⟩ : ByteArray) 0 1 2 0 0 0 0 (B (tokR r)) (dig r) r 82 2 r 0 0 0 (by decide) (by show (0 : Int) < 3; decide) rfl (trim_r r hr) (atoi_dig r hr) (by show (0 : Int) < 3; decide) (by rfl) (by unfold impl_withPart.f; rfl) (by unfold wrap64; omega)]
    rw [ir_step (k + 37) _ [B (tokR r), B (tokR a), B (tokR b)] (⟨#[82, 65, 66]⟩ : ByteArray) 1 2 2 r 0 0 0 (B (tokR a)) (dig a) a 65 2 r a 0 0 (by decide) (by show (1 : Int) < 3; decide) rfl (trim_r a ha) (atoi_dig a ha) (by show (1 : Int) < 3; decide) (by rfl) (by unfold impl_withPart.f; rfl) (by unfold wrap64; omega)]
    rw [ir_step (k + 36) _ [B (tokR r), B (tokR a), B (tokR b)] (⟨#[82, 65, 66]⟩ : ByteArray) 2 3 2 r a 0 0 (B (tokR b)) (dig b) b 66 2 r a b 0 (by decide) (by show (2 : Int) < 3; decide) rfl (trim_r b hb) (atoi_dig b hb) (by show (2 : Int) < 3; decide) (by rfl) (by unfold impl_withPart.f; rfl) (by unfold wrap64; omega)]
    rw [ir_end (k + 35) _ [B (tokR r), B (tokR a), B (tokR b)] _ 3 2 r a b 0 (by show ¬ (3 : Int) < 3; decide), impl_text (k + 11) _ _ _ _ _ h]; simp only [Option.bind_some, if_true]
  · obtain ⟨zR, zA, zB, zN⟩ := zero_parts h
    obtain rfl := zB rfl
    obtain rfl := zN rfl
    clear zR zA zB zN
    have hws : (tokens 3 r a 0 0).map B = B (nameM 3) :: [B (tokR r), B (tokR a)] := by rfl
    rw [hws]; simp only [Option.bind_some]
    rw [names_i]; simp only [Option.bind_some]
    rw [if_pos (by simp), show rdOf ByteArray.empty (B (nameM 3) :: [B (tokR r), B (tokR a)]) 0 = B (nameM 3) from rfl, idx_of (k + 40) (by omega) 3 (by decide +kernel)]; simp only [Option.bind_some]
    rw [form_of (k + 40) (by omega) 3 (⟨#[82, 65]⟩ : ByteArray) (by decide +kernel)]; simp only [Option.bind_some, if_true]
    rw [show (((B (nameM 3) :: [B (tokR r), B (tokR a)]).length : Int) != wrap64 (((⟨#[82, 65]⟩ : ByteArray).size : Int) + 1)) = false from by (rw [show wrap64 (((⟨#[82, 65]⟩ : ByteArray).size : Int) + 1) = 3 from by (show wrap64 ((2 : Int) + 1) = 3; unfold wrap64; omega)]; rfl)]
    rw [show k + 40 = (k + 39) + 1 from rfl]; simp only [impl_InsRead.j0]; rw [if_neg (by decide), show (B (nameM 3) :: [B (tokR r), B (tokR a)]).drop 1 = [B (tokR r), B (tokR a)] from rfl]
    rw [ir_step (k + 38) _ [B (tokR r), B (tokR a)] (⟨#[82, 65]⟩ : ByteArray) 0 1 3 0 0 0 0 (B (tokR r)) (dig r) r 82 3 r 0 0 0 (by decide) (by show (0 : Int) < 2; decide) rfl (trim_r r hr) (atoi_dig r hr) (by show (0 : Int) < 2; decide) (by rfl) (by unfold impl_withPart.f; rfl) (by unfold wrap64; omega)]
    rw [ir_step (k + 37) _ [B (tokR r), B (tokR a)] (⟨#[82, 65]⟩ : ByteArray) 1 2 3 r 0 0 0 (B (tokR a)) (dig a) a 65 3 r a 0 0 (by decide) (by show (1 : Int) < 2; decide) rfl (trim_r a ha) (atoi_dig a ha) (by show (1 : Int) < 2; decide) (by rfl) (by unfold impl_withPart.f; rfl) (by unfold wrap64; omega)]
    rw [ir_end (k + 36) _ [B (tokR r), B (tokR a)] _ 2 3 r a 0 0 (by show ¬ (2 : Int) < 2; decide), impl_text (k + 12) _ _ _ _ _ h]; simp only [Option.bind_some, if_true]
  · obtain ⟨zR, zA, zB, zN⟩ := zero_parts h
    obtain rfl := zN rfl
    clear zR zA zB zN
    have hws : (tokens 4 r a b 0).map B = B (nameM 4) :: [B (tokR r), B (tokR a), B (tokR b)] := by rfl
    rw [hws]; simp only [Option.bind_some]
    rw [names_i]; simp only [Option.bind_some]
    rw [if_pos (by simp), show rdOf ByteArray.empty (B (nameM 4) :: [B (tokR r), B (tokR a), B (tokR b)]) 0 = B (nameM 4) from rfl, idx_of (k + 40) (by omega) 4 (by decide +kernel)]; simp only [Option.bind_some]
    rw [form_of (k + 40) (by omega) 4 (⟨#[82, 65, 66]⟩ : ByteArray) (by decide +kernel)]; simp only [Option.bind_some, if_true]
    rw [show (((B (nameM 4) :: [B (tokR r), B (tokR a), B (tokR b)]).length : Int) != wrap64 (((⟨#[82, 65, 66]⟩ : ByteArray).size : Int) + 1)) = false from by (rw [show wrap64 (((⟨#[82, 65, 66]⟩ : ByteArray).size : Int) + 1) = 4 from by (show wrap64 ((3 : Int) + 1) = 4; unfold wrap64; omega)]; rfl)]
    rw [show k + 40 = (k + 39) + 1 from rfl]; simp only [impl_InsRead.j0]; rw [if_neg (by decide), show (B (nameM 4) :: [B (tokR r), B (tokR a), B (tokR b)]).drop 1 = [B (tokR r), B (tokR a), B (tokR b)] from rfl]
    rw [ir_step (k + 38) _ [B (tokR r), B (tokR a), B (tokR b)] (⟨#[82, 65, 66]⟩ : ByteArray) 0 1 4 0 0 0 0 (B (tokR r)) (dig r) r 82 4 r 0 0 0 (by decide) (by show (0 : Int) < 3; decide) rfl (trim_r r hr) (atoi_dig r hr) (by show (0 : Int) < 3; decide) (by rfl) (by unfold impl_withPart.f; rfl) (by unfold wrap64; omega)]
    rw [ir_step (k + 37) _ [B (tokR r), B (tokR a), B (tokR b)] (⟨#[82, 65, 66]⟩ : ByteArray) 1 2 4 r 0 0 0 (B (tokR a)) (dig a) a 65 4 r a 0 0 (by decide) (by show (1 : Int) < 3; decide) rfl (trim_r a ha) (atoi_dig a ha) (by show (1 : Int) < 3; decide) (by rfl) (by unfold impl_withPart.f; rfl) (by unfold wrap64; omega)]
    rw [ir_step (k + 36) _ [B (tokR r), B (tokR a), B (tokR b)] (⟨#[82, 65, 66]⟩ : ByteArray) 2 3 4 r a 0 0 (B (tokR b)) (dig b) b 66 4 r a b 0 (by decide) (by show (2 : Int) < 3; decide) rfl (trim_r b hb) (atoi_dig b hb) (by show (2 : Int) < 3; decide) (by rfl) (by unfold impl_withPart.f; rfl) (by unfold wrap64; omega)]
    rw [ir_end (k + 35) _ [B (tokR r), B (tokR a), B (tokR b)] _ 3 4 r a b 0 (by show ¬ (3 : Int) < 3; decide), impl_text (k + 11) _ _ _ _ _ h]; simp only [Option.bind_some, if_true]
  · obtain ⟨zR, zA, zB, zN⟩ := zero_parts h
    obtain rfl := zN rfl
    clear zR zA zB zN
    have hws : (tokens 5 r a b 0).map B = B (nameM 5) :: [B (tokR r), B (tokR a), B (tokR b)] := by rfl
    rw [hws]; simp only [Option.bind_some]
    rw [names_i]; simp only [Option.bind_some]
    rw [if_pos (by simp), show rdOf ByteArray.empty (B (nameM 5) :: [B (tokR r), B (tokR a), B (tokR b)]) 0 = B (nameM 5) from rfl, idx_of (k + 40) (by omega) 5 (by decide +kernel)]; simp only [Option.bind_some]
    rw [form_of (k + 40) (by omega) 5 (⟨#[82, 65, 66]⟩ : ByteArray) (by decide +kernel)]; simp only [Option.bind_some, if_true]
    rw [show (((B (nameM 5) :: [B (tokR r), B (tokR a), B (tokR b)]).length : Int) != wrap64 (((⟨#[82, 65, 66]⟩ : ByteArray).size : Int) + 1)) = false from by (rw [show wrap64 (((⟨#[82, 65, 66]⟩ : ByteArray).size : Int) + 1) = 4 from by (show wrap64 ((3 : Int) + 1) = 4; unfold wrap64; omega)]; rfl)]
    rw [show k + 40 = (k + 39) + 1 from rfl]; simp only [impl_InsRead.j0]; rw [if_neg (by decide), show (B (nameM 5) :: [B (tokR r), B (tokR a), B (tokR b)]).drop 1 = [B (tokR r), B (tokR a), B (tokR b)] from rfl]
    rw [ir_step (k + 38) _ [B (tokR r), B (tokR a), B (tokR b)] (⟨#[82, 65, 66]⟩ : ByteArray) 0 1 5 0 0 0 0 (B (tokR r)) (dig r) r 82 5 r 0 0 0 (by decide) (by show (0 : Int) < 3; decide) rfl (trim_r r hr) (atoi_dig r hr) (by show (0 : Int) < 3; decide) (by rfl) (by unfold impl_withPart.f; rfl) (by unfold wrap64; omega)]
    rw [ir_step (k + 37) _ [B (tokR r), B (tokR a), B (tokR b)] (⟨#[82, 65, 66]⟩ : ByteArray) 1 2 5 r 0 0 0 (B (tokR a)) (dig a) a 65 5 r a 0 0 (by decide) (by show (1 : Int) < 3; decide) rfl (trim_r a ha) (atoi_dig a ha) (by show (1 : Int) < 3; decide) (by rfl) (by unfold impl_withPart.f; rfl) (by unfold wrap64; omega)]
    rw [ir_step (k + 36) _ [B (tokR r), B (tokR a), B (tokR b)] (⟨#[82, 65, 66]⟩ : ByteArray) 2 3 5 r a 0 0 (B (tokR b)) (dig b) b 66 5 r a b 0 (by decide) (by show (2 : Int) < 3; decide) rfl (trim_r b hb) (atoi_dig b hb) (by show (2 : Int) < 3; decide) (by rfl) (by unfold impl_withPart.f; rfl) (by unfold wrap64; omega)]
    rw [ir_end (k + 35) _ [B (tokR r), B (tokR a), B (tokR b)] _ 3 5 r a b 0 (by show ¬ (3 : Int) < 3; decide), impl_text (k + 11) _ _ _ _ _ h]; simp only [Option.bind_some, if_true]
  · obtain ⟨zR, zA, zB, zN⟩ := zero_parts h
    clear zR zA zB zN
    have hws : (tokens 6 r a b n).map B = B (nameM 6) :: [B (tokR r), B (tokR a), B (tokR b), B (Lib.itoa n)] := by rfl
    rw [hws]; simp only [Option.bind_some]
    rw [names_i]; simp only [Option.bind_some]
    rw [if_pos (by simp), show rdOf ByteArray.empty (B (nameM 6) :: [B (tokR r), B (tokR a), B (tokR b), B (Lib.itoa n)]) 0 = B (nameM 6) from rfl, idx_of (k + 40) (by omega) 6 (by decide +kernel)]; simp only [Option.bind_some]
    rw [form_of (k + 40) (by omega) 6 (⟨#[82, 65, 66, 78]⟩ : ByteArray) (by decide +kernel)]; simp only [Option.bind_some, if_true]
    rw [show (((B (nameM 6) :: [B (tokR r), B (tokR a), B (tokR b), B (Lib.itoa n)]).length : Int) != wrap64 (((⟨#[82, 65, 66, 78]⟩ : ByteArray).size : Int) + 1)) = false from by (rw [show wrap64 (((⟨#[82, 65, 66, 78]⟩ : ByteArray).size : Int) + 1) = 5 from by (show wrap64 ((4 : Int) + 1) = 5; unfold wrap64; omega)]; rfl)]
    rw [show k + 40 = (k + 39) + 1 from rfl]; simp only [impl_InsRead.j0]; rw [if_neg (by decide), show (B (nameM 6) :: [B (tokR r), B (tokR a), B (tokR b), B (Lib.itoa n)]).drop 1 = [B (tokR r), B (tokR a), B (tokR b), B (Lib.itoa n)] from rfl]
    rw [ir_step (k + 38) _ [B (tokR r), B (tokR a), B (tokR b), B (Lib.itoa n)] (⟨#[82, 65, 66, 78]⟩ : ByteArray) 0 1 6 0 0 0 0 (B (tokR r)) (dig r) r 82 6 r 0 0 0 (by decide) (by show (0 : Int) < 4; decide) rfl (trim_r r hr) (atoi_dig r hr) (by show (0 : Int) < 4; decide) (by rfl) (by unfold impl_withPart.f; rfl) (by unfold wrap64; omega)]
    rw [ir_step (k + 37) _ [B (tokR r), B (tokR a), B (tokR b), B (Lib.itoa n)] (⟨#[82, 65, 66, 78]⟩ : ByteArray) 1 2 6 r 0 0 0 (B (tokR a)) (dig a) a 65 6 r a 0 0 (by decide) (by show (1 : Int) < 4; decide) rfl (trim_r a ha) (atoi_dig a ha) (by show (1 : Int) < 4; decide) (by rfl) (by unfold impl_withPart.f; rfl) (by unfold wrap64; omega)]
    rw [ir_step (k + 36) _ [B (tokR r), B (tokR a), B (tokR b), B (Lib.itoa n)] (⟨#[82, 65, 66, 78]⟩ : ByteArray) 2 3 6 r a 0 0 (B (tokR b)) (dig b) b 66 6 r a b 0 (by decide) (by show (2 : Int) < 4; decide) rfl (trim_r b hb) (atoi_dig b hb) (by show (2 : Int) < 4; decide) (by rfl) (by unfold impl_withPart.f; rfl) (by unfold wrap64; omega)]
    rw [ir_step (k + 35) _ [B (tokR r), B (tokR a), B (tokR b), B (Lib.itoa n)] (⟨#[82, 65, 66, 78]⟩ : ByteArray) 3 4 6 r a b 0 (B (Lib.itoa n)) (dig n) n 78 6 r a b n (by decide) (by show (3 : Int) < 4; decide) rfl (trim_n n hn) (atoi_dig n hn) (by show (3 : Int) < 4; decide) (by rfl) (by unfold impl_withPart.f; rfl) (by unfold wrap64; omega)]
    rw [ir_end (k + 34) _ [B (tokR r), B (tokR a), B (tokR b), B (Lib.itoa n)] _ 4 6 r a b n (by show ¬ (4 : Int) < 4; decide), impl_text (k + 10) _ _ _ _ _ h]; simp only [Option.bind_some, if_true]
  · obtain ⟨zR, zA, zB, zN⟩ := zero_parts h
    obtain rfl := zN rfl
    clear zR zA zB zN
    have hws : (tokens 7 r a b 0).map B = B (nameM 7) :: [B (tokR r), B (tokR a), B (tokR b)] := by rfl
    rw [hws]; simp only [Option.bind_some]
    rw [names_i]; simp only [Option.bind_some]
    rw [if_pos (by simp), show rdOf ByteArray.empty (B (nameM 7) :: [B (tokR r), B (tokR a), B (tokR b)]) 0 = B (nameM 7) from rfl, idx_of (k + 40) (by omega) 7 (by decide +kernel)]; simp only [Option.bind_some]
    rw [form_of (k + 40) (by omega) 7 (⟨#[82, 65, 66]⟩ : ByteArray) (by decide +kernel)]; simp only [Option.bind_some, if_true]
    rw [show (((B (nameM 7) :: [B (tokR r), B (tokR a), B (tokR b)]).length : Int) != wrap64 (((⟨#[82, 65, 66]⟩ : ByteArray).size : Int) + 1)) = false from by (rw [show wrap64 (((⟨#[82, 65, 66]⟩ : ByteArray).size : Int) + 1) = 4 from by (show wrap64 ((3 : Int) + 1) = 4; unfold wrap64; omega)]; rfl)]
    rw [show k + 40 = (k + 39) + 1 from rfl]; simp only [impl_InsRead.j0]; rw [if_neg (by decide), show (B (nameM 7) :: [B (tokR r), B (tokR a), B (tokR b)]).drop 1 = [B (tokR r), B (tokR a), B (tokR b)] from rfl]
    rw [ir_step (k + 38) _ [B (tokR r), B (tokR a), B (tokR b)] (⟨#[82, 65, 66]⟩ : ByteArray) 0 1 7 0 0 0 0 (B (tokR r)) (dig r) r 82 7 r 0 0 0 (by decide) (by show (0 : Int) < 3; decide) rfl (trim_r r hr) (atoi_dig r hr) (by show (0 : Int) < 3; decide) (by rfl) (by unfold impl_withPart.f; rfl) (by unfold wrap64; omega)]
    rw [ir_step (k + 37) _ [B (tokR r), B (tokR a), B (tokR b)] (⟨#[82, 65, 66]⟩ : ByteArray) 1 2 7 r 0 0 0 (B (tokR a)) (dig a) a 65 7 r a 0 0 (by decide) (by show (1 : Int) < 3; decide) rfl (trim_r a ha) (atoi_dig a ha) (by show (1 : Int) < 3; decide) (by rfl) (by unfold impl_withPart.f; rfl) (by unfold wrap64; omega)]
    rw [ir_step (k + 36) _ [B (tokR r), B (tokR a), B (tokR b)] (⟨#[82, 65, 66]⟩ : ByteArray) 2 3 7 r a 0 0 (B (tokR b)) (dig b) b 66 7 r a b 0 (by decide) (by show (2 : Int) < 3; decide) rfl (trim_r b hb) (atoi_dig b hb) (by show (2 : Int) < 3; decide) (by rfl) (by unfold impl_withPart.f; rfl) (by unfold wrap64; omega)]
    rw [ir_end (k + 35) _ [B (tokR r), B (tokR a), B (tokR b)] _ 3 7 r a b 0 (by show ¬ (3 : Int) < 3; decide), impl_text (k + 11) _ _ _ _ _ h]; simp only [Option.bind_some, if_true]
  · obtain ⟨zR, zA, zB, zN⟩ := zero_parts h
    obtain rfl := zN rfl
    clear zR zA zB zN
    have hws : (tokens 8 r a b 0).map B = B (nameM 8) :: [B (tokR r), B (tokR a), B (tokR b)] := by rfl
    rw [hws]; simp only [Option.bind_some]
    rw [names_i]; simp only [Option.bind_some]
    rw [if_pos (by simp), show rdOf ByteArray.empty (B (nameM 8) :: [B (tokR r), B (tokR a), B (tokR b)]) 0 = B (nameM 8) from rfl, idx_of (k + 40) (by omega) 8 (by decide +kernel)]; simp only [Option.bind_some]
    rw [form_of (k + 40) (by omega) 8 (⟨#[82, 65, 66]⟩ : ByteArray) (by decide +kernel)]; simp only [Option.bind_some, if_true]
    rw [show (((B (nameM 8) :: [B (tokR r), B (tokR a), B (tokR b)]).length : Int) != wrap64 (((⟨#[82, 65, 66]⟩ : ByteArray).size : Int) + 1)) = false from by (rw [show wrap64 (((⟨#[82, 65, 66]⟩ : ByteArray).size : Int) + 1) = 4 from by (show wrap64 ((3 : Int) + 1) = 4; unfold wrap64; omega)]; rfl)]
    rw [show k + 40 = (k + 39) + 1 from rfl]; simp only [impl_InsRead.j0]; rw [if_neg (by decide), show (B (nameM 8) :: [B (tokR r), B (tokR a), B (tokR b)]).drop 1 = [B (tokR r), B (tokR a), B (tokR b)] from rfl]
    rw [ir_step (k + 38) _ [B (tokR r), B (tokR a), B (tokR b)] (⟨#[82, 65, 66]⟩ : ByteArray) 0 1 8 0 0 0 0 (B (tokR r)) (dig r) r 82 8 r 0 0 0 (by decide) (by show (0 : Int) < 3; decide) rfl (trim_r r hr) (atoi_dig r hr) (by show (0 : Int) < 3; decide) (by rfl) (by unfold impl_withPart.f; rfl) (by unfold wrap64; omega)]
    rw [ir_step (k + 37) _ [B (tokR r), B (tokR a), B (tokR b)] (⟨#[82, 65, 66]⟩ : ByteArray) 1 2 8 r 0 0 0 (B (tokR a)) (dig a) a 65 8 r a 0 0 (by decide) (by show (1 : Int) < 3; decide) rfl (trim_r a ha) (atoi_dig a ha) (by show (1 : Int) < 3; decide) (by rfl) (by unfold impl_withPart.f; rfl) (by unfold wrap64; omega)]
    rw [ir_step (k + 36) _ [B (tokR r), B (tokR a), B (tokR b)] (⟨#[82, 65, 66]⟩ : ByteArray) 2 3 8 r a 0 0 (B (tokR b)) (dig b) b 66 8 r a b 0 (by decide) (by show (2 : Int) < 3; decide) rfl (trim_r b hb) (atoi_dig b hb) (by show (2 : Int) < 3; decide) (by rfl) (by unfold impl_withPart.f; rfl) (by unfold wrap64; omega)]
    rw [ir_end (k + 35) _ [B (tokR r), B (tokR a), B (tokR b)] _ 3 8 r a b 0 (by show ¬ (3 : Int) < 3; decide), impl_text (k + 11) _ _ _ _ _ h]; simp only [Option.bind_some, if_true]
  · obtain ⟨zR, zA, zB, zN⟩ := zero_parts h
    obtain rfl := zB rfl
    obtain rfl := zN rfl
    clear zR zA zB zN
    have hws : (tokens 9 r a 0 0).map B = B (nameM 9) :: [B (tokR r), B (tokR a)] := by rfl
    rw [hws]; simp only [Option.bind_some]
    rw [names_i]; simp only [Option.bind_some]
    rw [if_pos (by simp), show rdOf ByteArray.empty (B (nameM 9) :: [B (tokR r), B (tokR a)]) 0 = B (nameM 9) from rfl, idx_of (k + 40) (by omega) 9 (by decide +kernel)]; simp only [Option.bind_some]
    rw [form_of (k + 40) (by omega) 9 (⟨#[82, 65]⟩ : ByteArray) (by decide +kernel)]; simp only [Option.bind_some, if_true]
    rw [show (((B (nameM 9) :: [B (tokR r), B (tokR a)]).length : Int) != wrap64 (((⟨#[82, 65]⟩ : ByteArray).size : Int) + 1)) = false from by (rw [show wrap64 (((⟨#[82, 65]⟩ : ByteArray).size : Int) + 1) = 3 from by (show wrap64 ((2 : Int) + 1) = 3; unfold wrap64; omega)]; rfl)]
    rw [show k + 40 = (k + 39) + 1 from rfl]; simp only [impl_InsRead.j0]; rw [if_neg (by decide), show (B (nameM 9) :: [B (tokR r), B (tokR a)]).drop 1 = [B (tokR r), B (tokR a)] from rfl]
    rw [ir_step (k + 38) _ [B (tokR r), B (tokR a)] (⟨#[82, 65]⟩ : ByteArray) 0 1 9 0 0 0 0 (B (tokR r)) (dig r) r 82 9 r 0 0 0 (by decide) (by show (0 : Int) < 2; decide) rfl (trim_r r hr) (atoi_dig r hr) (by show (0 : Int) < 2; decide) (by rfl) (by unfold impl_withPart.f; rfl) (by unfold wrap64; omega)]
    rw [ir_step (k + 37) _ [B (tokR r), B (tokR a)] (⟨#[82, 65]⟩ : ByteArray) 1 2 9 r 0 0 0 (B (tokR a)) (dig a) a 65 9 r a 0 0 (by decide) (by show (1 : Int) < 2; decide) rfl (trim_r a ha) (atoi_dig a ha) (by show (1 : Int) < 2; decide) (by rfl) (by unfold impl_withPart.f; rfl) (by unfold wrap64; omega)]
    rw [ir_end (k + 36) _ [B (tokR r), B (tokR a)] _ 2 9 r a 0 0 (by show ¬ (2 : Int) < 2; decide), impl_text (k + 12) _ _ _ _ _ h]; simp only [Option.bind_some, if_true]
  · obtain ⟨zR, zA, zB, zN⟩ := zero_parts h
    obtain rfl := zB rfl
    clear zR zA zB zN
    have hws : (tokens 10 r a 0 n).map B = B (nameM 10) :: [B (tokR r), B (tokR a), B (Lib.itoa n)] := by rfl
    rw [hws]; simp only [Option.bind_some]
    rw [names_i]; simp only [Option.bind_some]
    rw [if_pos (by simp), show rdOf ByteArray.empty (B (nameM 10) :: [B (tokR r), B (tokR a), B (Lib.itoa n)]) 0 = B (nameM 10) from rfl, idx_of (k + 40) (by omega) 10 (by decide +kernel)]; simp only [Option.bind_some]
    rw [form_of (k + 40) (by omega) 10 (⟨#[82, 65, 78]⟩ : ByteArray) (by decide +kernel)]; simp only [Option.bind_some, if_true]
    rw [show (((B (nameM 10) :: [B (tokR r), B (tokR a), B (Lib.itoa n)]).length : Int) != wrap64 (((⟨#[82, 65, 78]⟩ : ByteArray).size : Int) + 1)) = false from by (rw [show wrap64 (((⟨#[82, 65, 78]⟩ : ByteArray).size : Int) + 1) = 4 from by (show wrap64 ((3 : Int) + 1) = 4; unfold wrap64; omega)]; rfl)]
    rw [show k + 40 = (k + 39) + 1 from rfl]; simp only [impl_InsRead.j0]; rw [if_neg (by decide), show (B (nameM 10) :: [B (tokR r), B (tokR a), B (Lib.itoa n)]).drop 1 = [B (tokR r), B (tokR a), B (Lib.itoa n)] from rfl]
    rw [ir_step (k + 38) _ [B (tokR r), B (tokR a), B (Lib.itoa n)] (⟨#[82, 65, 78]⟩ : ByteArray) 0 1 10 0 0 0 0 (B (tokR r)) (dig r) r 82 10 r 0 0 0 (by decide) (by show (0 : Int) < 3; decide) rfl (trim_r r hr) (atoi_dig r hr) (by show (0 : Int) < 3; decide) (by rfl) (by unfold impl_withPart.f; rfl) (by unfold wrap64; omega)]
    rw [ir_step (k + 37) _ [B (tokR r), B (tokR a), B (Lib.itoa n)] (⟨#[82, 65, 78]⟩ : ByteArray) 1 2 10 r 0 0 0 (B (tokR a)) (dig a) a 65 10 r a 0 0 (by decide) (by show (1 : Int) < 3; decide) rfl (trim_r a ha) (atoi_dig a ha) (by show (1 : Int) < 3; decide) (by rfl) (by unfold impl_withPart.f; rfl) (by unfold wrap64; omega)]
    rw [ir_step (k + 36) _ [B (tokR r), B (tokR a), B (Lib.itoa n)] (⟨#[82, 65, 78]⟩ : ByteArray) 2 3 10 r a 0 0 (B (Lib.itoa n)) (dig n) n 78 10 r a 0 n (by decide) (by show (2 : Int) < 3; decide) rfl (trim_n n hn) (atoi_dig n hn) (by show (2 : Int) < 3; decide) (by rfl) (by unfold impl_withPart.f; rfl) (by unfold wrap64; omega)]
    rw [ir_end (k + 35) _ [B (tokR r), B (tokR a), B (Lib.itoa n)] _ 3 10 r a 0 n (by show ¬ (3 : Int) < 3; decide), impl_text (k + 11) _ _ _ _ _ h]; simp only [Option.bind_some, if_true]
  · obtain ⟨zR, zA, zB, zN⟩ := zero_parts h
    obtain rfl := zR rfl
    clear zR zA zB zN
    have hws : (tokens 11 0 a b n).map B = B (nameM 11) :: [B (tokR a), B (tokR b), B (Lib.itoa n)] := by rfl
    rw [hws]; simp only [Option.bind_some]
    rw [names_i]; simp only [Option.bind_some]
    rw [if_pos (by simp), show rdOf ByteArray.empty (B (nameM 11) :: [B (tokR a), B (tokR b), B (Lib.itoa n)]) 0 = B (nameM 11) from rfl, idx_of (k + 40) (by omega) 11 (by decide +kernel)]; simp only [Option.bind_some]
    rw [form_of (k + 40) (by omega) 11 (⟨#[65, 66, 78]⟩ : ByteArray) (by decide +kernel)]; simp only [Option.bind_some, if_true]
    rw [show (((B (nameM 11) :: [B (tokR a), B (tokR b), B (Lib.itoa n)]).length : Int) != wrap64 (((⟨#[65, 66, 78]⟩ : ByteArray).size : Int) + 1)) = false from by (rw [show wrap64 (((⟨#[65, 66, 78]⟩ : ByteArray).size : Int) + 1) = 4 from by (show wrap64 ((3 : Int) + 1) = 4; unfold wrap64; omega)]; rfl)]
    rw [show k + 40 = (k + 39) + 1 from rfl]; simp only [impl_InsRead.j0]; rw [if_neg (by decide), show (B (nameM 11) :: [B (tokR a), B (tokR b), B (Lib.itoa n)]).drop 1 = [B (tokR a), B (tokR b), B (Lib.itoa n)] from rfl]
    rw [ir_step (k + 38) _ [B (tokR a), B (tokR b), B (Lib.itoa n)] (⟨#[65, 66, 78]⟩ : ByteArray) 0 1 11 0 0 0 0 (B (tokR a)) (dig a) a 65 11 0 a 0 0 (by decide) (by show (0 : Int) < 3; decide) rfl (trim_r a ha) (atoi_dig a ha) (by show (0 : Int) < 3; decide) (by rfl) (by unfold impl_withPart.f; rfl) (by unfold wrap64; omega)]
    rw [ir_step (k + 37) _ [B (tokR a), B (tokR b), B (Lib.itoa n)] (⟨#[65, 66, 78]⟩ : ByteArray) 1 2 11 0 a 0 0 (B (tokR b)) (dig b) b 66 11 0 a b 0 (by decide) (by show (1 : Int) < 3; decide) rfl (trim_r b hb) (atoi_dig b hb) (by show (1 : Int) < 3; decide) (by rfl) (by unfold impl_withPart.f; rfl) (by unfold wrap64; omega)]
    rw [ir_step (k + 36) _ [B (tokR a), B (tokR b), B (Lib.itoa n)] (⟨#[65, 66, 78]⟩ : ByteArray) 2 3 11 0 a b 0 (B (Lib.itoa n)) (dig n) n 78 11 0 a b n (by decide) (by show (2 : Int) < 3; decide) rfl (trim_n n hn) (atoi_dig n hn) (by show (2 : Int) < 3; decide) (by rfl) (by unfold impl_withPart.f; rfl) (by unfold wrap64; omega)]
    rw [ir_end (k + 35) _ [B (tokR a), B (tokR b), B (Lib.itoa n)] _ 3 11 0 a b n (by show ¬ (3 : Int) < 3; decide), impl_text (k + 11) _ _ _ _ _ h]; simp only [Option.bind_some, if_true]
  · obtain ⟨zR, zA, zB, zN⟩ := zero_parts h
    obtain rfl := zB rfl
    obtain rfl := zN rfl
    clear zR zA zB zN
    have hws : (tokens 12 r a 0 0).map B = B (nameM 12) :: [B (tokR r), B (tokR a)] := by rfl
    rw [hws]; simp only [Option.bind_some]
    rw [names_i]; simp only [Option.bind_some]
    rw [if_pos (by simp), show rdOf ByteArray.empty (B (nameM 12) :: [B (tokR r), B (tokR a)]) 0 = B (nameM 12) from rfl, idx_of (k + 40) (by omega) 12 (by decide +kernel)]; simp only [Option.bind_some]
    rw [form_of (k + 40) (by omega) 12 (⟨#[82, 65]⟩ : ByteArray) (by decide +kernel)]; simp only [Option.bind_some, if_true]
    rw [show (((B (nameM 12) :: [B (tokR r), B (tokR a)]).length : Int) != wrap64 (((⟨#[82, 65]⟩ : ByteArray).size : Int) + 1)) = false from by (rw [show wrap64 (((⟨#[82, 65]⟩ : ByteArray).size : Int) + 1) = 3 from by (show wrap64 ((2 : Int) + 1) = 3; unfold wrap64; omega)]; rfl)]
    rw [show k + 40 = (k + 39) + 1 from rfl]; simp only [impl_InsRead.j0]; rw [if_neg (by decide), show (B (nameM 12) :: [B (tokR r), B (tokR a)]).drop 1 = [B (tokR r), B (tokR a)] from rfl]
    rw [ir_step (k + 38) _ [B (tokR r), B (tokR a)] (⟨#[82, 65]⟩ : ByteArray) 0 1 12 0 0 0 0 (B (tokR r)) (dig r) r 82 12 r 0 0 0 (by decide) (by show (0 : Int) < 2; decide) rfl (trim_r r hr) (atoi_dig r hr) (by show (0 : Int) < 2; decide) (by rfl) (by unfold impl_withPart.f; rfl) (by unfold wrap64; omega)]
    rw [ir_step (k + 37) _ [B (tokR r), B (tokR a)] (⟨#[82, 65]⟩ : ByteArray) 1 2 12 r 0 0 0 (B (tokR a)) (dig a) a 65 12 r a 0 0 (by decide) (by show (1 : Int) < 2; decide) rfl (trim_r a ha) (atoi_dig a ha) (by show (1 : Int) < 2; decide) (by rfl) (by unfold impl_withPart.f; rfl) (by unfold wrap64; omega)]
    rw [ir_end (k + 36) _ [B (tokR r), B (tokR a)] _ 2 12 r a 0 0 (by show ¬ (2 : Int) < 2; decide), impl_text (k + 12) _ _ _ _ _ h]; simp only [Option.bind_some, if_true]
  · obtain ⟨zR, zA, zB, zN⟩ := zero_parts h
    obtain rfl := zR rfl
    obtain rfl := zB rfl
    clear zR zA zB zN
    have hws : (tokens 13 0 a 0 n).map B = B (nameM 13) :: [B (tokR a), B (Lib.itoa n)] := by rfl
    rw [hws]; simp only [Option.bind_some]
    rw [names_i]; simp only [Option.bind_some]
    rw [if_pos (by simp), show rdOf ByteArray.empty (B (nameM 13) :: [B (tokR a), B (Lib.itoa n)]) 0 = B (nameM 13) from rfl, idx_of (k + 40) (by omega) 13 (by decide +kernel)]; simp only [Option.bind_some]
    rw [form_of (k + 40) (by omega) 13 (⟨#[65, 78]⟩ : ByteArray) (by decide +kernel)]; simp only [Option.bind_some, if_true]
    rw [show (((B (nameM 13) :: [B (tokR a), B (Lib.itoa n)]).length : Int) != wrap64 (((⟨#[65, 78]⟩ : ByteArray).size : Int) + 1)) = false from by (rw [show wrap64 (((⟨#[65, 78]⟩ : ByteArray).size : Int) + 1) = 3 from by (show wrap64 ((2 : Int) + 1) = 3; unfold wrap64; omega)]; rfl)]
    rw [show k + 40 = (k + 39) + 1 from rfl]; simp only [impl_InsRead.j0]; rw [if_neg (by decide), show (B (nameM 13) :: [B (tokR a), B (Lib.itoa n)]).drop 1 = [B (tokR a), B (Lib.itoa n)] from rfl]
    rw [ir_step (k + 38) _ [B (tokR a), B (Lib.itoa n)] (⟨#[65, 78]⟩ : ByteArray) 0 1 13 0 0 0 0 (B (tokR a)) (dig a) a 65 13 0 a 0 0 (by decide) (by show (0 : Int) < 2; decide) rfl (trim_r a ha) (atoi_dig a ha) (by show (0 : Int) < 2; decide) (by rfl) (by unfold impl_withPart.f; rfl) (by unfold wrap64; omega)]
    rw [ir_step (k + 37) _ [B (tokR a), B (Lib.itoa n)] (⟨#[65, 78]⟩ : ByteArray) 1 2 13 0 a 0 0 (B (Lib.itoa n)) (dig n) n 78 13 0 a 0 n (by decide) (by show (1 : Int) < 2; decide) rfl (trim_n n hn) (atoi_dig n hn) (by show (1 : Int) < 2; decide) (by rfl) (by unfold impl_withPart.f; rfl) (by unfold wrap64; omega)]
    rw [ir_end (k + 36) _ [B (tokR a), B (Lib.itoa n)] _ 2 13 0 a 0 n (by show ¬ (2 : Int) < 2; decide), impl_text (k + 12) _ _ _ _ _ h]; simp only [Option.bind_some, if_true]
  · obtain ⟨zR, zA, zB, zN⟩ := zero_parts h
    obtain rfl := zR rfl
    obtain rfl := zB rfl
    obtain rfl := zN rfl
    clear zR zA zB zN
    have hws : (tokens 14 0 a 0 0).map B = B (nameM 14) :: [B (tokR a)] := by rfl
    rw [hws]; simp only [Option.bind_some]
    rw [names_i]; simp only [Option.bind_some]
    rw [if_pos (by simp), show rdOf ByteArray.empty (B (nameM 14) :: [B (tokR a)]) 0 = B (nameM 14) from rfl, idx_of (k + 40) (by omega) 14 (by decide +kernel)]; simp only [Option.bind_some]
    rw [form_of (k + 40) (by omega) 14 (⟨#[65]⟩ : ByteArray) (by decide +kernel)]; simp only [Option.bind_some, if_true]
    rw [show (((B (nameM 14) :: [B (tokR a)]).length : Int) != wrap64 (((⟨#[65]⟩ : ByteArray).size : Int) + 1)) = false from by (rw [show wrap64 (((⟨#[65]⟩ : ByteArray).size : Int) + 1) = 2 from by (show wrap64 ((1 : Int) + 1) = 2; unfold wrap64; omega)]; rfl)]
    rw [show k + 40 = (k + 39) + 1 from rfl]; simp only [impl_InsRead.j0]; rw [if_neg (by decide), show (B (nameM 14) :: [B (tokR a)]).drop 1 = [B (tokR a)] from rfl]
    rw [ir_step (k + 38) _ [B (tokR a)] (⟨#[65]⟩ : ByteArray) 0 1 14 0 0 0 0 (B (tokR a)) (dig a) a 65 14 0 a 0 0 (by decide) (by show (0 : Int) < 1; decide) rfl (trim_r a ha) (atoi_dig a ha) (by show (0 : Int) < 1; decide) (by rfl) (by unfold impl_withPart.f; rfl) (by unfold wrap64; omega)]
    rw [ir_end (k + 37) _ [B (tokR a)] _ 1 14 0 a 0 0 (by show ¬ (1 : Int) < 1; decide), impl_text (k + 13) _ _ _ _ _ h]; simp only [Option.bind_some, if_true]
  · obtain ⟨zR, zA, zB, zN⟩ := zero_parts h
    obtain rfl := zR rfl
    obtain rfl := zA rfl
    obtain rfl := zB rfl
    obtain rfl := zN rfl
    clear zR zA zB zN
    have hws : (tokens 15 0 0 0 0).map B = B (nameM 15) :: [] := by rfl
    rw [hws]; simp only [Option.bind_some]
    rw [names_i]; simp only [Option.bind_some]
    rw [if_pos (by simp), show rdOf ByteArray.empty (B (nameM 15) :: []) 0 = B (nameM 15) from rfl, idx_of (k + 40) (by omega) 15 (by decide +kernel)]; simp only [Option.bind_some]
    rw [form_of (k + 40) (by omega) 15 (⟨#[]⟩ : ByteArray) (by decide +kernel)]; simp only [Option.bind_some, if_true]
    rw [show (((B (nameM 15) :: []).length : Int) != wrap64 (((⟨#[]⟩ : ByteArray).size : Int) + 1)) = false from by (rw [show wrap64 (((⟨#[]⟩ : ByteArray).size : Int) + 1) = 1 from by (show wrap64 ((0 : Int) + 1) = 1; unfold wrap64; omega)]; rfl)]
    rw [show k + 40 = (k + 39) + 1 from rfl]; simp only [impl_InsRead.j0]; rw [if_neg (by decide), show (B (nameM 15) :: []).drop 1 = [] from rfl]
    rw [ir_end (k + 38) _ [] _ 0 15 0 0 0 0 (by show ¬ (0 : Int) < 0; decide), impl_text (k + 14) _ _ _ _ _ h]; simp only [Option.bind_some, if_true]
  · exact absurd ho h'

theorem num_all : (List.range 256).all (fun m => decide (spec_l7Num.f 12 (B (114 :: (digM (((m % 8 : Nat)) : Int)).data.toList)) = some (((m % 8 : Nat)) : Int)) && decide (spec_l7Num.f 12 (digM ((m : Int) - 128)) = some ((m : Int) - 128))) = true := by decide +kernel
theorem nums (n : Int) (h1 : -128 ≤ n) (h2 : n ≤ 127) : spec_l7Num.f 12 (digM n) = some n := by
  have h := List.all_eq_true.mp num_all (n + 128).toNat (List.mem_range.mpr (by omega))
  rw [show (((n + 128).toNat : Nat) : Int) - 128 = n by omega] at h
  simp only [Bool.and_eq_true, decide_eq_true_eq] at h
  exact h.2
theorem numr (v : Int) (h1 : 0 ≤ v) (h2 : v ≤ 7) : spec_l7Num.f 12 (B (114 :: (digM v).data.toList)) = some v := by
  have h := List.all_eq_true.mp num_all v.toNat (List.mem_range.mpr (by omega))
  simp only [Bool.and_eq_true, decide_eq_true_eq] at h
  have e : ((v.toNat % 8 : Nat) : Int) = v := by omega
  rw [e] at h
  exact h.1
theorem num_r (k : Nat) (hk : 12 ≤ k) (v : Int) (h : 0 ≤ v ∧ v ≤ 7) : spec_l7Num.f k (B (tokR v)) = some v := by
  unfold tokR; rw [itoa_list v (by omega) (by omega)]
  exact at_rounds (fun k => spec_l7Num.mono _ k) hk (numr v h.1 h.2)
theorem num_n (k : Nat) (hk : 12 ≤ k) (v : Int) (h : -128 ≤ v ∧ v ≤ 127) : spec_l7Num.f k (B (Lib.itoa v)) = some v := by
  rw [B_itoa v h]
  exact at_rounds (fun k => spec_l7Num.mono _ k) hk (nums v h.1 h.2)

theorem insM_regs {op r a b n : Int} (h : insM op r a b n = true) : (0 ≤ r ∧ r ≤ 7) ∧ (0 ≤ a ∧ a ≤ 7) ∧ (0 ≤ b ∧ b ≤ 7) := by
  unfold insM at h
  simp only [Bool.and_eq_true] at h
  obtain ⟨_, h2, h3, h4, _⟩ := h
  have g : ∀ x t, fM x t = true → (0 ≤ x ∧ x ≤ 7) := by
    intro x t hx
    unfold fM at hx
    simp only [Bool.and_eq_true, decide_eq_true_eq] at hx
    exact hx.1
  exact ⟨g r _ h2, g a _ h3, g b _ h4⟩
def opS (w : ByteArray) (g : Int) : List Int → Int
  | [] => g
  | j :: js => if (rdOf ByteArray.empty namesM j).toList = w.toList then opS w j js else opS w g js
theorem l0_step (k : Nat) (line : ByteArray) (ws : List ByteArray) (hw : 0 < (ws.length : Int)) (i i' g : Int) (h0 : 0 ≤ i) (h1 : i < 16) (hi : wrap64 (i + 1) = i') :
    spec_InsRead.l0 (k + 1) line ws namesM i g 0 0 0 0 = spec_InsRead.l0 k line ws namesM i' (if (rdOf ByteArray.empty namesM i).toList = (rdOf ByteArray.empty ws 0).toList then i else g) 0 0 0 0 := by
  simp only [spec_InsRead.l0]
  rw [if_pos (by show i < ((16 : Nat) : Int); omega), if_pos h0, if_pos hw, hi]
  by_cases c : (rdOf ByteArray.empty namesM i).toList = (rdOf ByteArray.empty ws 0).toList
  · rw [if_pos c, if_pos c]
  · rw [if_neg c, if_neg c]
theorem opS_cons (w : ByteArray) (g j : Int) (js : List Int) : opS w g (j :: js) = opS w (if (rdOf ByteArray.empty namesM j).toList = w.toList then j else g) js := by
  simp only [opS]
  by_cases c : (rdOf ByteArray.empty namesM j).toList = w.toList
  · rw [if_pos c, if_pos c]
  · rw [if_neg c, if_neg c]
theorem l0_all (k : Nat) (line : ByteArray) (ws : List ByteArray) (hw : 0 < ws.length) :
    spec_InsRead.l0 (k + 16) line ws namesM 1 0 0 0 0 0 = (spec_l6Has.f (opS (rdOf ByteArray.empty ws 0) 0 [1, 2, 3, 4, 5, 6, 7, 8, 9, 10, 11, 12, 13, 14, 15])).bind fun bx => spec_InsRead.l1 k line ws bx ([0, 0, 0, 0] : List Int) 1 0 (opS (rdOf ByteArray.empty ws 0) 0 [1, 2, 3, 4, 5, 6, 7, 8, 9, 10, 11, 12, 13, 14, 15]) 0 0 0 0 := by
  have hw' : 0 < (ws.length : Int) := by omega
  rw [l0_step (k + 15) line ws hw' 1 2 0 (by decide) (by decide) (by unfold wrap64; omega), l0_step (k + 14) line ws hw' 2 3 _ (by decide) (by decide) (by unfold wrap64; omega), l0_step (k + 13) line ws hw' 3 4 _ (by decide) (by decide) (by unfold wrap64; omega), l0_step (k + 12) line ws hw' 4 5 _ (by decide) (by decide) (by unfold wrap64; omega), l0_step (k + 11) line ws hw' 5 6 _ (by decide) (by decide) (by unfold wrap64; omega), l0_step (k + 10) line ws hw' 6 7 _ (by decide) (by decide) (by unfold wrap64; omega), l0_step (k + 9) line ws hw' 7 8 _ (by decide) (by decide) (by unfold wrap64; omega), l0_step (k + 8) line ws hw' 8 9 _ (by decide) (by decide) (by unfold wrap64; omega), l0_step (k + 7) line ws hw' 9 10 _ (by decide) (by decide) (by unfold wrap64; omega), l0_step (k + 6) line ws hw' 10 11 _ (by decide) (by decide) (by unfold wrap64; omega), l0_step (k + 5) line ws hw' 11 12 _ (by decide) (by decide) (by unfold wrap64; omega), l0_step (k + 4) line ws hw' 12 13 _ (by decide) (by decide) (by unfold wrap64; omega), l0_step (k + 3) line ws hw' 13 14 _ (by decide) (by decide) (by unfold wrap64; omega), l0_step (k + 2) line ws hw' 14 15 _ (by decide) (by decide) (by unfold wrap64; omega), l0_step (k + 1) line ws hw' 15 16 _ (by decide) (by decide) (by unfold wrap64; omega)]
  simp only [opS_cons]
  rw [show ∀ g, opS (rdOf ByteArray.empty ws 0) g [] = g from fun _ => rfl]
  generalize (if (rdOf ByteArray.empty namesM 15).toList = (rdOf ByteArray.empty ws 0).toList then (15 : Int) else _) = g
  simp only [spec_InsRead.l0]
  rw [if_neg (by show ¬ (16 : Int) < ((16 : Nat) : Int); decide)]
theorem l1_skip (k : Nat) (line : ByteArray) (ws : List ByteArray) (h : Int) (xs : List Int) (at_ kk kk' op : Int) (h0 : 0 ≤ kk) (h4 : kk < 4) (hb : (bits .and .i64 (shr .i64 h kk) 1) = 0) (hk : wrap64 (kk + 1) = kk') :
    spec_InsRead.l1 (k + 1) line ws h xs at_ kk op 0 0 0 0 = spec_InsRead.l1 k line ws h xs at_ kk' op 0 0 0 0 := by
  simp only [spec_InsRead.l1]
  rw [if_pos h4, if_pos h0, if_pos hb, hk]
theorem l1_over (k : Nat) (line : ByteArray) (ws : List ByteArray) (h : Int) (xs : List Int) (at_ kk kk' op : Int) (h0 : 0 ≤ kk) (h4 : kk < 4) (hb : ¬ (bits .and .i64 (shr .i64 h kk) 1) = 0) (ha : ¬ at_ < (ws.length : Int)) (hk : wrap64 (kk + 1) = kk') :
    spec_InsRead.l1 (k + 1) line ws h xs at_ kk op 0 0 0 0 = spec_InsRead.l1 k line ws h xs at_ kk' op 0 0 0 0 := by
  simp only [spec_InsRead.l1]
  rw [if_pos h4, if_pos h0, if_neg hb, if_neg ha, hk]
theorem l1_take (k : Nat) (line : ByteArray) (ws : List ByteArray) (h : Int) (xs ys : List Int) (at_ at' kk kk' op : Int) (tk : ByteArray) (v : Int) (h0 : 0 ≤ kk) (h4 : kk < 4) (hb : ¬ (bits .and .i64 (shr .i64 h kk) 1) = 0) (ha0 : 0 ≤ at_) (ha : at_ < (ws.length : Int)) (hr : rdOf ByteArray.empty ws at_ = tk) (hv : spec_l7Num.f k tk = some v) (hs : (if kk < (xs.length : Int) then some (xs.set kk.toNat v) else none) = some ys) (hat : wrap64 (at_ + 1) = at') (hk : wrap64 (kk + 1) = kk') :
    spec_InsRead.l1 (k + 1) line ws h xs at_ kk op 0 0 0 0 = spec_InsRead.l1 k line ws h ys at' kk' op 0 0 0 0 := by
  simp only [spec_InsRead.l1]
  rw [if_pos h4, if_pos h0, if_neg hb, if_pos ha, if_pos ha0, hr, hv]; simp only [Option.bind_some]
  by_cases c : kk < (xs.length : Int)
  · rw [if_pos c] at hs ⊢
    obtain rfl := Option.some.inj hs
    rw [hat, hk]
  · rw [if_neg c] at hs
    cases hs
theorem l1_end (k : Nat) (line : ByteArray) (ws : List ByteArray) (h : Int) (xs : List Int) (at_ kk op r a b n : Int) (hx : xs = [r, a, b, n]) (h4 : kk = 4 := by rfl) :
    spec_InsRead.l1 (k + 1) line ws h xs at_ kk op 0 0 0 0 = (if line.toList = ([] : List UInt8) then (some (0, 0, 0, 0, 0, false)) else ((spec_InsText.f k op r a b n).bind fun bz => (if bz.toList = line.toList then (some (op, r, a, b, n, true)) else (some (0, 0, 0, 0, 0, false))))) := by
  subst hx
  subst h4
  simp only [spec_InsRead.l1]
  rw [if_neg (by decide)]
  rfl
set_option maxHeartbeats 1000000 in
theorem spec_read_back (k : Nat) (op r a b n : Int) (h : insM op r a b n = true) (hk : 60 ≤ k) : spec_InsRead.f (k + 60) (textM op r a b n) = some (op, r, a, b, n, true) := by
  obtain ⟨ho, _, _, _, hn⟩ := insM_parts h
  obtain ⟨hr, ha, hb⟩ := insM_regs h
  have hz := textM_size h
  obtain ⟨ws, e, hm⟩ := spec_words (textM op r a b n) (by omega) (k + 60) (by omega)
  have e2 := map_B (hm.trans (text_words h))
  subst e2
  have e1 : ¬ (textM op r a b n).toList = ([] : List UInt8) := by
    intro e0
    have h2 := text_words h
    have h3 : (textM op r a b n).data.toList = [] := by rw [← Lib.toList_data]; exact e0
    rw [h3] at h2
    unfold tokens at h2
    have h4 : nameM op = [] := by
      have := congrArg List.head? h2
      simpa [wordsL] using this.symm
    revert h4
    rcases op_cases op with rfl | rfl | rfl | rfl | rfl | rfl | rfl | rfl | rfl | rfl | rfl | rfl | rfl | rfl | rfl | h'
    all_goals first | exact absurd ho h' | decide
  unfold spec_InsRead.f
  rw [e]; simp only [Option.bind_some]
  rw [names_s]; simp only [Option.bind_some]
  rcases op_cases op with rfl | rfl | rfl | rfl | rfl | rfl | rfl | rfl | rfl | rfl | rfl | rfl | rfl | rfl | rfl | h'
  · obtain ⟨zR, zA, zB, zN⟩ := zero_parts h
    obtain rfl := zA rfl
    obtain rfl := zB rfl
    clear zR zA zB zN
    have hws : (tokens 1 r 0 0 n).map B = B (nameM 1) :: [B (tokR r), B (Lib.itoa n)] := by rfl
    rw [hws]
    have e6 : spec_l6Has.f 1 = some 9 := by decide +kernel
    have eo : opS (B (nameM 1)) 0 [1, 2, 3, 4, 5, 6, 7, 8, 9, 10, 11, 12, 13, 14, 15] = 1 := by decide +kernel
    rw [show k + 60 = (k + 44) + 16 from rfl, l0_all (k + 44) _ (B (nameM 1) :: [B (tokR r), B (Lib.itoa n)]) (by simp), show rdOf ByteArray.empty (B (nameM 1) :: [B (tokR r), B (Lib.itoa n)]) 0 = B (nameM 1) from rfl, eo, e6]; simp only [Option.bind_some]
    rw [l1_take (k + 43) _ (B (nameM 1) :: [B (tokR r), B (Lib.itoa n)]) 9 ([0, 0, 0, 0] : List Int) ([r, 0, 0, 0] : List Int) 1 2 0 1 1 (B (tokR r)) r (by decide) (by decide) (by decide +kernel) (by decide) (by show (1 : Int) < 3; decide) rfl (num_r (k + 43) (by omega) r hr) rfl (by unfold wrap64; omega) (by unfold wrap64; omega)]
    rw [l1_skip (k + 42) _ (B (nameM 1) :: [B (tokR r), B (Lib.itoa n)]) 9 ([r, 0, 0, 0] : List Int) 2 1 2 1 (by decide) (by decide) (by decide +kernel) (by unfold wrap64; omega)]
    rw [l1_skip (k + 41) _ (B (nameM 1) :: [B (tokR r), B (Lib.itoa n)]) 9 ([r, 0, 0, 0] : List Int) 2 2 3 1 (by decide) (by decide) (by decide +kernel) (by unfold wrap64; omega)]
    rw [l1_take (k + 40) _ (B (nameM 1) :: [B (tokR r), B (Lib.itoa n)]) 9 ([r, 0, 0, 0] : List Int) ([r, 0, 0, n] : List Int) 2 3 3 4 1 (B (Lib.itoa n)) n (by decide) (by decide) (by decide +kernel) (by decide) (by show (2 : Int) < 3; decide) rfl (num_n (k + 40) (by omega) n hn) rfl (by unfold wrap64; omega) (by unfold wrap64; omega)]
    rw [l1_end (k + 39) _ _ _ _ _ _ 1 r 0 0 n rfl, if_neg e1]
    rw [show k + 39 = (k + 15) + 24 from rfl, spec_text (k + 15) _ _ _ _ _ h]; simp only [Option.bind_some, if_true]
  · obtain ⟨zR, zA, zB, zN⟩ := zero_parts h
    obtain rfl := zN rfl
    clear zR zA zB zN
    have hws : (tokens 2 r a b 0).map B = B (nameM 2) :: [B (tokR r), B (tokR a), B (tokR b)] := by rfl
    rw [hws]
    have e6 : spec_l6Has.f 2 = some 7 := by decide +kernel
    have eo : opS (B (nameM 2)) 0 [1, 2, 3, 4, 5, 6, 7, 8, 9, 10, 11, 12, 13, 14, 15] = 2 := by decide +kernel
    rw [show k + 60 = (k + 44) + 16 from rfl, l0_all (k + 44) _ (B (nameM 2) :: [B (tokR r), B (tokR a), B (tokR b)]) (by simp), show rdOf ByteArray.empty (B (nameM 2) :: [B (tokR r), B (tokR a), B (tokR b)]) 0 = B (nameM 2) from rfl, eo, e6]; simp only [Option.bind_some]
    rw [l1_take (k + 43) _ (B (nameM 2) :: [B (tokR r), B (tokR a), B (tokR b)]) 7 ([0, 0, 0, 0] : List Int) ([r, 0, 0, 0] : List Int) 1 2 0 1 2 (B (tokR r)) r (by decide) (by decide) (by decide +kernel) (by decide) (by show (1 : Int) < 4; decide) rfl (num_r (k + 43) (by omega) r hr) rfl (by unfold wrap64; omega) (by unfold wrap64; omega)]
    rw [l1_take (k + 42) _ (B (nameM 2) :: [B (tokR r), B (tokR a), B (tokR b)]) 7 ([r, 0, 0, 0] : List Int) ([r, a, 0, 0] : List Int) 2 3 1 2 2 (B (tokR a)) a (by decide) (by decide) (by decide +kernel) (by decide) (by show (2 : Int) < 4; decide) rfl (num_r (k + 42) (by omega) a ha) rfl (by unfold wrap64; omega) (by unfold wrap64; omega)]
    rw [l1_take (k + 41) _ (B (nameM 2) :: [B (tokR r), B (tokR a), B (tokR b)]) 7 ([r, a, 0, 0] : List Int) ([r, a, b, 0] : List Int) 3 4 2 3 2 (B (tokR b)) b (by decide) (by decide) (by decide +kernel) (by decide) (by show (3 : Int) < 4; decide) rfl (num_r (k + 41) (by omega) b hb) rfl (by unfold wrap64; omega) (by unfold wrap64; omega)]
    rw [l1_skip (k + 40) _ (B (nameM 2) :: [B (tokR r), B (tokR a), B (tokR b)]) 7 ([r, a, b, 0] : List Int) 4 3 4 2 (by decide) (by decide) (by decide +kernel) (by unfold wrap64; omega)]
    rw [l1_end (k + 39) _ _ _ _ _ _ 2 r a b 0 rfl, if_neg e1]
    rw [show k + 39 = (k + 15) + 24 from rfl, spec_text (k + 15) _ _ _ _ _ h]; simp only [Option.bind_some, if_true]
  · obtain ⟨zR, zA, zB, zN⟩ := zero_parts h
    obtain rfl := zB rfl
    obtain rfl := zN rfl
    clear zR zA zB zN
    have hws : (tokens 3 r a 0 0).map B = B (nameM 3) :: [B (tokR r), B (tokR a)] := by rfl
    rw [hws]
    have e6 : spec_l6Has.f 3 = some 3 := by decide +kernel
    have eo : opS (B (nameM 3)) 0 [1, 2, 3, 4, 5, 6, 7, 8, 9, 10, 11, 12, 13, 14, 15] = 3 := by decide +kernel
    rw [show k + 60 = (k + 44) + 16 from rfl, l0_all (k + 44) _ (B (nameM 3) :: [B (tokR r), B (tokR a)]) (by simp), show rdOf ByteArray.empty (B (nameM 3) :: [B (tokR r), B (tokR a)]) 0 = B (nameM 3) from rfl, eo, e6]; simp only [Option.bind_some]
    rw [l1_take (k + 43) _ (B (nameM 3) :: [B (tokR r), B (tokR a)]) 3 ([0, 0, 0, 0] : List Int) ([r, 0, 0, 0] : List Int) 1 2 0 1 3 (B (tokR r)) r (by decide) (by decide) (by decide +kernel) (by decide) (by show (1 : Int) < 3; decide) rfl (num_r (k + 43) (by omega) r hr) rfl (by unfold wrap64; omega) (by unfold wrap64; omega)]
    rw [l1_take (k + 42) _ (B (nameM 3) :: [B (tokR r), B (tokR a)]) 3 ([r, 0, 0, 0] : List Int) ([r, a, 0, 0] : List Int) 2 3 1 2 3 (B (tokR a)) a (by decide) (by decide) (by decide +kernel) (by decide) (by show (2 : Int) < 3; decide) rfl (num_r (k + 42) (by omega) a ha) rfl (by unfold wrap64; omega) (by unfold wrap64; omega)]
    rw [l1_skip (k + 41) _ (B (nameM 3) :: [B (tokR r), B (tokR a)]) 3 ([r, a, 0, 0] : List Int) 3 2 3 3 (by decide) (by decide) (by decide +kernel) (by unfold wrap64; omega)]
    rw [l1_skip (k + 40) _ (B (nameM 3) :: [B (tokR r), B (tokR a)]) 3 ([r, a, 0, 0] : List Int) 3 3 4 3 (by decide) (by decide) (by decide +kernel) (by unfold wrap64; omega)]
    rw [l1_end (k + 39) _ _ _ _ _ _ 3 r a 0 0 rfl, if_neg e1]
    rw [show k + 39 = (k + 15) + 24 from rfl, spec_text (k + 15) _ _ _ _ _ h]; simp only [Option.bind_some, if_true]
  · obtain ⟨zR, zA, zB, zN⟩ := zero_parts h
    obtain rfl := zN rfl
    clear zR zA zB zN
    have hws : (tokens 4 r a b 0).map B = B (nameM 4) :: [B (tokR r), B (tokR a), B (tokR b)] := by rfl
    rw [hws]
    have e6 : spec_l6Has.f 4 = some 7 := by decide +kernel
    have eo : opS (B (nameM 4)) 0 [1, 2, 3, 4, 5, 6, 7, 8, 9, 10, 11, 12, 13, 14, 15] = 4 := by decide +kernel
    rw [show k + 60 = (k + 44) + 16 from rfl, l0_all (k + 44) _ (B (nameM 4) :: [B (tokR r), B (tokR a), B (tokR b)]) (by simp), show rdOf ByteArray.empty (B (nameM 4) :: [B (tokR r), B (tokR a), B (tokR b)]) 0 = B (nameM 4) from rfl, eo, e6]; simp only [Option.bind_some]
    rw [l1_take (k + 43) _ (B (nameM 4) :: [B (tokR r), B (tokR a), B (tokR b)]) 7 ([0, 0, 0, 0] : List Int) ([r, 0, 0, 0] : List Int) 1 2 0 1 4 (B (tokR r)) r (by decide) (by decide) (by decide +kernel) (by decide) (by show (1 : Int) < 4; decide) rfl (num_r (k + 43) (by omega) r hr) rfl (by unfold wrap64; omega) (by unfold wrap64; omega)]
    rw [l1_take (k + 42) _ (B (nameM 4) :: [B (tokR r), B (tokR a), B (tokR b)]) 7 ([r, 0, 0, 0] : List Int) ([r, a, 0, 0] : List Int) 2 3 1 2 4 (B (tokR a)) a (by decide) (by decide) (by decide +kernel) (by decide) (by show (2 : Int) < 4; decide) rfl (num_r (k + 42) (by omega) a ha) rfl (by unfold wrap64; omega) (by unfold wrap64; omega)]
    rw [l1_take (k + 41) _ (B (nameM 4) :: [B (tokR r), B (tokR a), B (tokR b)]) 7 ([r, a, 0, 0] : List Int) ([r, a, b, 0] : List Int) 3 4 2 3 4 (B (tokR b)) b (by decide) (by decide) (by decide +kernel) (by decide) (by show (3 : Int) < 4; decide) rfl (num_r (k + 41) (by omega) b hb) rfl (by unfold wrap64; omega) (by unfold wrap64; omega)]
    rw [l1_skip (k + 40) _ (B (nameM 4) :: [B (tokR r), B (tokR a), B (tokR b)]) 7 ([r, a, b, 0] : List Int) 4 3 4 4 (by decide) (by decide) (by decide +kernel) (by unfold wrap64; omega)]
    rw [l1_end (k + 39) _ _ _ _ _ _ 4 r a b 0 rfl, if_neg e1]
    rw [show k + 39 = (k + 15) + 24 from rfl, spec_text (k + 15) _ _ _ _ _ h]; simp only [Option.bind_some, if_true]
  · obtain ⟨zR, zA, zB, zN⟩ := zero_parts h
    obtain rfl := zN rfl
    clear zR zA zB zN
    have hws : (tokens 5 r a b 0).map B = B (nameM 5) :: [B (tokR r), B (tokR a), B (tokR b)] := by rfl
    rw [hws]
    have e6 : spec_l6Has.f 5 = some 7 := by decide +kernel
    have eo : opS (B (nameM 5)) 0 [1, 2, 3, 4, 5, 6, 7, 8, 9, 10, 11, 12, 13, 14, 15] = 5 := by decide +kernel
    rw [show k + 60 = (k + 44) + 16 from rfl, l0_all (k + 44) _ (B (nameM 5) :: [B (tokR r), B (tokR a), B (tokR b)]) (by simp), show rdOf ByteArray.empty (B (nameM 5) :: [B (tokR r), B (tokR a), B (tokR b)]) 0 = B (nameM 5) from rfl, eo, e6]; simp only [Option.bind_some]
    rw [l1_take (k + 43) _ (B (nameM 5) :: [B (tokR r), B (tokR a), B (tokR b)]) 7 ([0, 0, 0, 0] : List Int) ([r, 0, 0, 0] : List Int) 1 2 0 1 5 (B (tokR r)) r (by decide) (by decide) (by decide +kernel) (by decide) (by show (1 : Int) < 4; decide) rfl (num_r (k + 43) (by omega) r hr) rfl (by unfold wrap64; omega) (by unfold wrap64; omega)]
    rw [l1_take (k + 42) _ (B (nameM 5) :: [B (tokR r), B (tokR a), B (tokR b)]) 7 ([r, 0, 0, 0] : List Int) ([r, a, 0, 0] : List Int) 2 3 1 2 5 (B (tokR a)) a (by decide) (by decide) (by decide +kernel) (by decide) (by show (2 : Int) < 4; decide) rfl (num_r (k + 42) (by omega) a ha) rfl (by unfold wrap64; omega) (by unfold wrap64; omega)]
    rw [l1_take (k + 41) _ (B (nameM 5) :: [B (tokR r), B (tokR a), B (tokR b)]) 7 ([r, a, 0, 0] : List Int) ([r, a, b, 0] : List Int) 3 4 2 3 5 (B (tokR b)) b (by decide) (by decide) (by decide +kernel) (by decide) (by show (3 : Int) < 4; decide) rfl (num_r (k + 41) (by omega) b hb) rfl (by unfold wrap64; omega) (by unfold wrap64; omega)]
    rw [l1_skip (k + 40) _ (B (nameM 5) :: [B (tokR r), B (tokR a), B (tokR b)]) 7 ([r, a, b, 0] : List Int) 4 3 4 5 (by decide) (by decide) (by decide +kernel) (by unfold wrap64; omega)]
    rw [l1_end (k + 39) _ _ _ _ _ _ 5 r a b 0 rfl, if_neg e1]
    rw [show k + 39 = (k + 15) + 24 from rfl, spec_text (k + 15) _ _ _ _ _ h]; simp only [Option.bind_some, if_true]
  · obtain ⟨zR, zA, zB, zN⟩ := zero_parts h
    clear zR zA zB zN
    have hws : (tokens 6 r a b n).map B = B (nameM 6) :: [B (tokR r), B (tokR a), B (tokR b), B (Lib.itoa n)] := by rfl
    rw [hws]
    have e6 : spec_l6Has.f 6 = some 15 := by decide +kernel
    have eo : opS (B (nameM 6)) 0 [1, 2, 3, 4, 5, 6, 7, 8, 9, 10, 11, 12, 13, 14, 15] = 6 := by decide +kernel
    rw [show k + 60 = (k + 44) + 16 from rfl, l0_all (k + 44) _ (B (nameM 6) :: [B (tokR r), B (tokR a), B (tokR b), B (Lib.itoa n)]) (by simp), show rdOf ByteArray.empty (B (nameM 6) :: [B (tokR r), B (tokR a), B (tokR b), B (Lib.itoa n)]) 0 = B (nameM 6) from rfl, eo, e6]; simp only [Option.bind_some]
    rw [l1_take (k + 43) _ (B (nameM 6) :: [B (tokR r), B (tokR a), B (tokR b), B (Lib.itoa n)]) 15 ([0, 0, 0, 0] : List Int) ([r, 0, 0, 0] : List Int) 1 2 0 1 6 (B (tokR r)) r (by decide) (by decide) (by decide +kernel) (by decide) (by show (1 : Int) < 5; decide) rfl (num_r (k + 43) (by omega) r hr) rfl (by unfold wrap64; omega) (by unfold wrap64; omega)]
    rw [l1_take (k + 42) _ (B (nameM 6) :: [B (tokR r), B (tokR a), B (tokR b), B (Lib.itoa n)]) 15 ([r, 0, 0, 0] : List Int) ([r, a, 0, 0] : List Int) 2 3 1 2 6 (B (tokR a)) a (by decide) (by decide) (by decide +kernel) (by decide) (by show (2 : Int) < 5; decide) rfl (num_r (k + 42) (by omega) a ha) rfl (by unfold wrap64; omega) (by unfold wrap64; omega)]
    rw [l1_take (k + 41) _ (B (nameM 6) :: [B (tokR r), B (tokR a), B (tokR b), B (Lib.itoa n)]) 15 ([r, a, 0, 0] : List Int) ([r, a, b, 0] : List Int) 3 4 2 3 6 (B (tokR b)) b (by decide) (by decide) (by decide +kernel) (by decide) (by show (3 : Int) < 5; decide) rfl (num_r (k + 41) (by omega) b hb) rfl (by unfold wrap64; omega) (by unfold wrap64; omega)]
    rw [l1_take (k + 40) _ (B (nameM 6) :: [B (tokR r), B (tokR a), B (tokR b), B (Lib.itoa n)]) 15 ([r, a, b, 0] : List Int) ([r, a, b, n] : List Int) 4 5 3 4 6 (B (Lib.itoa n)) n (by decide) (by decide) (by decide +kernel) (by decide) (by show (4 : Int) < 5; decide) rfl (num_n (k + 40) (by omega) n hn) rfl (by unfold wrap64; omega) (by unfold wrap64; omega)]
    rw [l1_end (k + 39) _ _ _ _ _ _ 6 r a b n rfl, if_neg e1]
    rw [show k + 39 = (k + 15) + 24 from rfl, spec_text (k + 15) _ _ _ _ _ h]; simp only [Option.bind_some, if_true]
  · obtain ⟨zR, zA, zB, zN⟩ := zero_parts h
    obtain rfl := zN rfl
    clear zR zA zB zN
    have hws : (tokens 7 r a b 0).map B = B (nameM 7) :: [B (tokR r), B (tokR a), B (tokR b)] := by rfl
    rw [hws]
    have e6 : spec_l6Has.f 7 = some 7 := by decide +kernel
    have eo : opS (B (nameM 7)) 0 [1, 2, 3, 4, 5, 6, 7, 8, 9, 10, 11, 12, 13, 14, 15] = 7 := by decide +kernel
    rw [show k + 60 = (k + 44) + 16 from rfl, l0_all (k + 44) _ (B (nameM 7) :: [B (tokR r), B (tokR a), B (tokR b)]) (by simp), show rdOf ByteArray.empty (B (nameM 7) :: [B (tokR r), B (tokR a), B (tokR b)]) 0 = B (nameM 7) from rfl, eo, e6]; simp only [Option.bind_some]
    rw [l1_take (k + 43) _ (B (nameM 7) :: [B (tokR r), B (tokR a), B (tokR b)]) 7 ([0, 0, 0, 0] : List Int) ([r, 0, 0, 0] : List Int) 1 2 0 1 7 (B (tokR r)) r (by decide) (by decide) (by decide +kernel) (by decide) (by show (1 : Int) < 4; decide) rfl (num_r (k + 43) (by omega) r hr) rfl (by unfold wrap64; omega) (by unfold wrap64; omega)]
    rw [l1_take (k + 42) _ (B (nameM 7) :: [B (tokR r), B (tokR a), B (tokR b)]) 7 ([r, 0, 0, 0] : List Int) ([r, a, 0, 0] : List Int) 2 3 1 2 7 (B (tokR a)) a (by decide) (by decide) (by decide +kernel) (by decide) (by show (2 : Int) < 4; decide) rfl (num_r (k + 42) (by omega) a ha) rfl (by unfold wrap64; omega) (by unfold wrap64; omega)]
    rw [l1_take (k + 41) _ (B (nameM 7) :: [B (tokR r), B (tokR a), B (tokR b)]) 7 ([r, a, 0, 0] : List Int) ([r, a, b, 0] : List Int) 3 4 2 3 7 (B (tokR b)) b (by decide) (by decide) (by decide +kernel) (by decide) (by show (3 : Int) < 4; decide) rfl (num_r (k + 41) (by omega) b hb) rfl (by unfold wrap64; omega) (by unfold wrap64; omega)]
    rw [l1_skip (k + 40) _ (B (nameM 7) :: [B (tokR r), B (tokR a), B (tokR b)]) 7 ([r, a, b, 0] : List Int) 4 3 4 7 (by decide) (by decide) (by decide +kernel) (by unfold wrap64; omega)]
    rw [l1_end (k + 39) _ _ _ _ _ _ 7 r a b 0 rfl, if_neg e1]
    rw [show k + 39 = (k + 15) + 24 from rfl, spec_text (k + 15) _ _ _ _ _ h]; simp only [Option.bind_some, if_true]
  · obtain ⟨zR, zA, zB, zN⟩ := zero_parts h
    obtain rfl := zN rfl
    clear zR zA zB zN
    have hws : (tokens 8 r a b 0).map B = B (nameM 8) :: [B (tokR r), B (tokR a), B (tokR b)] := by rfl
    rw [hws]
    have e6 : spec_l6Has.f 8 = some 7 := by decide +kernel
    have eo : opS (B (nameM 8)) 0 [1, 2, 3, 4, 5, 6, 7, 8, 9, 10, 11, 12, 13, 14, 15] = 8 := by decide +kernel
    rw [show k + 60 = (k + 44) + 16 from rfl, l0_all (k + 44) _ (B (nameM 8) :: [B (tokR r), B (tokR a), B (tokR b)]) (by simp), show rdOf ByteArray.empty (B (nameM 8) :: [B (tokR r), B (tokR a), B (tokR b)]) 0 = B (nameM 8) from rfl, eo, e6]; simp only [Option.bind_some]
    rw [l1_take (k + 43) _ (B (nameM 8) :: [B (tokR r), B (tokR a), B (tokR b)]) 7 ([0, 0, 0, 0] : List Int) ([r, 0, 0, 0] : List Int) 1 2 0 1 8 (B (tokR r)) r (by decide) (by decide) (by decide +kernel) (by decide) (by show (1 : Int) < 4; decide) rfl (num_r (k + 43) (by omega) r hr) rfl (by unfold wrap64; omega) (by unfold wrap64; omega)]
    rw [l1_take (k + 42) _ (B (nameM 8) :: [B (tokR r), B (tokR a), B (tokR b)]) 7 ([r, 0, 0, 0] : List Int) ([r, a, 0, 0] : List Int) 2 3 1 2 8 (B (tokR a)) a (by decide) (by decide) (by decide +kernel) (by decide) (by show (2 : Int) < 4; decide) rfl (num_r (k + 42) (by omega) a ha) rfl (by unfold wrap64; omega) (by unfold wrap64; omega)]
    rw [l1_take (k + 41) _ (B (nameM 8) :: [B (tokR r), B (tokR a), B (tokR b)]) 7 ([r, a, 0, 0] : List Int) ([r, a, b, 0] : List Int) 3 4 2 3 8 (B (tokR b)) b (by decide) (by decide) (by decide +kernel) (by decide) (by show (3 : Int) < 4; decide) rfl (num_r (k + 41) (by omega) b hb) rfl (by unfold wrap64; omega) (by unfold wrap64; omega)]
    rw [l1_skip (k + 40) _ (B (nameM 8) :: [B (tokR r), B (tokR a), B (tokR b)]) 7 ([r, a, b, 0] : List Int) 4 3 4 8 (by decide) (by decide) (by decide +kernel) (by unfold wrap64; omega)]
    rw [l1_end (k + 39) _ _ _ _ _ _ 8 r a b 0 rfl, if_neg e1]
    rw [show k + 39 = (k + 15) + 24 from rfl, spec_text (k + 15) _ _ _ _ _ h]; simp only [Option.bind_some, if_true]
  · obtain ⟨zR, zA, zB, zN⟩ := zero_parts h
    obtain rfl := zB rfl
    obtain rfl := zN rfl
    clear zR zA zB zN
    have hws : (tokens 9 r a 0 0).map B = B (nameM 9) :: [B (tokR r), B (tokR a)] := by rfl
    rw [hws]
    have e6 : spec_l6Has.f 9 = some 3 := by decide +kernel
    have eo : opS (B (nameM 9)) 0 [1, 2, 3, 4, 5, 6, 7, 8, 9, 10, 11, 12, 13, 14, 15] = 9 := by decide +kernel
    rw [show k + 60 = (k + 44) + 16 from rfl, l0_all (k + 44) _ (B (nameM 9) :: [B (tokR r), B (tokR a)]) (by simp), show rdOf ByteArray.empty (B (nameM 9) :: [B (tokR r), B (tokR a)]) 0 = B (nameM 9) from rfl, eo, e6]; simp only [Option.bind_some]
    rw [l1_take (k + 43) _ (B (nameM 9) :: [B (tokR r), B (tokR a)]) 3 ([0, 0, 0, 0] : List Int) ([r, 0, 0, 0] : List Int) 1 2 0 1 9 (B (tokR r)) r (by decide) (by decide) (by decide +kernel) (by decide) (by show (1 : Int) < 3; decide) rfl (num_r (k + 43) (by omega) r hr) rfl (by unfold wrap64; omega) (by unfold wrap64; omega)]
    rw [l1_take (k + 42) _ (B (nameM 9) :: [B (tokR r), B (tokR a)]) 3 ([r, 0, 0, 0] : List Int) ([r, a, 0, 0] : List Int) 2 3 1 2 9 (B (tokR a)) a (by decide) (by decide) (by decide +kernel) (by decide) (by show (2 : Int) < 3; decide) rfl (num_r (k + 42) (by omega) a ha) rfl (by unfold wrap64; omega) (by unfold wrap64; omega)]
    rw [l1_skip (k + 41) _ (B (nameM 9) :: [B (tokR r), B (tokR a)]) 3 ([r, a, 0, 0] : List Int) 3 2 3 9 (by decide) (by decide) (by decide +kernel) (by unfold wrap64; omega)]
    rw [l1_skip (k + 40) _ (B (nameM 9) :: [B (tokR r), B (tokR a)]) 3 ([r, a, 0, 0] : List Int) 3 3 4 9 (by decide) (by decide) (by decide +kernel) (by unfold wrap64; omega)]
    rw [l1_end (k + 39) _ _ _ _ _ _ 9 r a 0 0 rfl, if_neg e1]
    rw [show k + 39 = (k + 15) + 24 from rfl, spec_text (k + 15) _ _ _ _ _ h]; simp only [Option.bind_some, if_true]
  · obtain ⟨zR, zA, zB, zN⟩ := zero_parts h
    obtain rfl := zB rfl
    clear zR zA zB zN
    have hws : (tokens 10 r a 0 n).map B = B (nameM 10) :: [B (tokR r), B (tokR a), B (Lib.itoa n)] := by rfl
    rw [hws]
    have e6 : spec_l6Has.f 10 = some 11 := by decide +kernel
    have eo : opS (B (nameM 10)) 0 [1, 2, 3, 4, 5, 6, 7, 8, 9, 10, 11, 12, 13, 14, 15] = 10 := by decide +kernel
    rw [show k + 60 = (k + 44) + 16 from rfl, l0_all (k + 44) _ (B (nameM 10) :: [B (tokR r), B (tokR a), B (Lib.itoa n)]) (by simp), show rdOf ByteArray.empty (B (nameM 10) :: [B (tokR r), B (tokR a), B (Lib.itoa n)]) 0 = B (nameM 10) from rfl, eo, e6]; simp only [Option.bind_some]
    rw [l1_take (k + 43) _ (B (nameM 10) :: [B (tokR r), B (tokR a), B (Lib.itoa n)]) 11 ([0, 0, 0, 0] : List Int) ([r, 0, 0, 0] : List Int) 1 2 0 1 10 (B (tokR r)) r (by decide) (by decide) (by decide +kernel) (by decide) (by show (1 : Int) < 4; decide) rfl (num_r (k + 43) (by omega) r hr) rfl (by unfold wrap64; omega) (by unfold wrap64; omega)]
    rw [l1_take (k + 42) _ (B (nameM 10) :: [B (tokR r), B (tokR a), B (Lib.itoa n)]) 11 ([r, 0, 0, 0] : List Int) ([r, a, 0, 0] : List Int) 2 3 1 2 10 (B (tokR a)) a (by decide) (by decide) (by decide +kernel) (by decide) (by show (2 : Int) < 4; decide) rfl (num_r (k + 42) (by omega) a ha) rfl (by unfold wrap64; omega) (by unfold wrap64; omega)]
    rw [l1_skip (k + 41) _ (B (nameM 10) :: [B (tokR r), B (tokR a), B (Lib.itoa n)]) 11 ([r, a, 0, 0] : List Int) 3 2 3 10 (by decide) (by decide) (by decide +kernel) (by unfold wrap64; omega)]
    rw [l1_take (k + 40) _ (B (nameM 10) :: [B (tokR r), B (tokR a), B (Lib.itoa n)]) 11 ([r, a, 0, 0] : List Int) ([r, a, 0, n] : List Int) 3 4 3 4 10 (B (Lib.itoa n)) n (by decide) (by decide) (by decide +kernel) (by decide) (by show (3 : Int) < 4; decide) rfl (num_n (k + 40) (by omega) n hn) rfl (by unfold wrap64; omega) (by unfold wrap64; omega)]
    rw [l1_end (k + 39) _ _ _ _ _ _ 10 r a 0 n rfl, if_neg e1]
    rw [show k + 39 = (k + 15) + 24 from rfl, spec_text (k + 15) _ _ _ _ _ h]; simp only [Option.bind_some, if_true]
  · obtain ⟨zR, zA, zB, zN⟩ := zero_parts h
    obtain rfl := zR rfl
    clear zR zA zB zN
    have hws : (tokens 11 0 a b n).map B = B (nameM 11) :: [B (tokR a), B (tokR b), B (Lib.itoa n)] := by rfl
    rw [hws]
    have e6 : spec_l6Has.f 11 = some 14 := by decide +kernel
    have eo : opS (B (nameM 11)) 0 [1, 2, 3, 4, 5, 6, 7, 8, 9, 10, 11, 12, 13, 14, 15] = 11 := by decide +kernel
    rw [show k + 60 = (k + 44) + 16 from rfl, l0_all (k + 44) _ (B (nameM 11) :: [B (tokR a), B (tokR b), B (Lib.itoa n)]) (by simp), show rdOf ByteArray.empty (B (nameM 11) :: [B (tokR a), B (tokR b), B (Lib.itoa n)]) 0 = B (nameM 11) from rfl, eo, e6]; simp only [Option.bind_some]
    rw [l1_skip (k + 43) _ (B (nameM 11) :: [B (tokR a), B (tokR b), B (Lib.itoa n)]) 14 ([0, 0, 0, 0] : List Int) 1 0 1 11 (by decide) (by decide) (by decide +kernel) (by unfold wrap64; omega)]
    rw [l1_take (k + 42) _ (B (nameM 11) :: [B (tokR a), B (tokR b), B (Lib.itoa n)]) 14 ([0, 0, 0, 0] : List Int) ([0, a, 0, 0] : List Int) 1 2 1 2 11 (B (tokR a)) a (by decide) (by decide) (by decide +kernel) (by decide) (by show (1 : Int) < 4; decide) rfl (num_r (k + 42) (by omega) a ha) rfl (by unfold wrap64; omega) (by unfold wrap64; omega)]
    rw [l1_take (k + 41) _ (B (nameM 11) :: [B (tokR a), B (tokR b), B (Lib.itoa n)]) 14 ([0, a, 0, 0] : List Int) ([0, a, b, 0] : List Int) 2 3 2 3 11 (B (tokR b)) b (by decide) (by decide) (by decide +kernel) (by decide) (by show (2 : Int) < 4; decide) rfl (num_r (k + 41) (by omega) b hb) rfl (by unfold wrap64; omega) (by unfold wrap64; omega)]
    rw [l1_take (k + 40) _ (B (nameM 11) :: [B (tokR a), B (tokR b), B (Lib.itoa n)]) 14 ([0, a, b, 0] : List Int) ([0, a, b, n] : List Int) 3 4 3 4 11 (B (Lib.itoa n)) n (by decide) (by decide) (by decide +kernel) (by decide) (by show (3 : Int) < 4; decide) rfl (num_n (k + 40) (by omega) n hn) rfl (by unfold wrap64; omega) (by unfold wrap64; omega)]
    rw [l1_end (k + 39) _ _ _ _ _ _ 11 0 a b n rfl, if_neg e1]
    rw [show k + 39 = (k + 15) + 24 from rfl, spec_text (k + 15) _ _ _ _ _ h]; simp only [Option.bind_some, if_true]
  · obtain ⟨zR, zA, zB, zN⟩ := zero_parts h
    obtain rfl := zB rfl
    obtain rfl := zN rfl
    clear zR zA zB zN
    have hws : (tokens 12 r a 0 0).map B = B (nameM 12) :: [B (tokR r), B (tokR a)] := by rfl
    rw [hws]
    have e6 : spec_l6Has.f 12 = some 3 := by decide +kernel
    have eo : opS (B (nameM 12)) 0 [1, 2, 3, 4, 5, 6, 7, 8, 9, 10, 11, 12, 13, 14, 15] = 12 := by decide +kernel
    rw [show k + 60 = (k + 44) + 16 from rfl, l0_all (k + 44) _ (B (nameM 12) :: [B (tokR r), B (tokR a)]) (by simp), show rdOf ByteArray.empty (B (nameM 12) :: [B (tokR r), B (tokR a)]) 0 = B (nameM 12) from rfl, eo, e6]; simp only [Option.bind_some]
    rw [l1_take (k + 43) _ (B (nameM 12) :: [B (tokR r), B (tokR a)]) 3 ([0, 0, 0, 0] : List Int) ([r, 0, 0, 0] : List Int) 1 2 0 1 12 (B (tokR r)) r (by decide) (by decide) (by decide +kernel) (by decide) (by show (1 : Int) < 3; decide) rfl (num_r (k + 43) (by omega) r hr) rfl (by unfold wrap64; omega) (by unfold wrap64; omega)]
    rw [l1_take (k + 42) _ (B (nameM 12) :: [B (tokR r), B (tokR a)]) 3 ([r, 0, 0, 0] : List Int) ([r, a, 0, 0] : List Int) 2 3 1 2 12 (B (tokR a)) a (by decide) (by decide) (by decide +kernel) (by decide) (by show (2 : Int) < 3; decide) rfl (num_r (k + 42) (by omega) a ha) rfl (by unfold wrap64; omega) (by unfold wrap64; omega)]
    rw [l1_skip (k + 41) _ (B (nameM 12) :: [B (tokR r), B (tokR a)]) 3 ([r, a, 0, 0] : List Int) 3 2 3 12 (by decide) (by decide) (by decide +kernel) (by unfold wrap64; omega)]
    rw [l1_skip (k + 40) _ (B (nameM 12) :: [B (tokR r), B (tokR a)]) 3 ([r, a, 0, 0] : List Int) 3 3 4 12 (by decide) (by decide) (by decide +kernel) (by unfold wrap64; omega)]
    rw [l1_end (k + 39) _ _ _ _ _ _ 12 r a 0 0 rfl, if_neg e1]
    rw [show k + 39 = (k + 15) + 24 from rfl, spec_text (k + 15) _ _ _ _ _ h]; simp only [Option.bind_some, if_true]
  · obtain ⟨zR, zA, zB, zN⟩ := zero_parts h
    obtain rfl := zR rfl
    obtain rfl := zB rfl
    clear zR zA zB zN
    have hws : (tokens 13 0 a 0 n).map B = B (nameM 13) :: [B (tokR a), B (Lib.itoa n)] := by rfl
    rw [hws]
    have e6 : spec_l6Has.f 13 = some 10 := by decide +kernel
    have eo : opS (B (nameM 13)) 0 [1, 2, 3, 4, 5, 6, 7, 8, 9, 10, 11, 12, 13, 14, 15] = 13 := by decide +kernel
    rw [show k + 60 = (k + 44) + 16 from rfl, l0_all (k + 44) _ (B (nameM 13) :: [B (tokR a), B (Lib.itoa n)]) (by simp), show rdOf ByteArray.empty (B (nameM 13) :: [B (tokR a), B (Lib.itoa n)]) 0 = B (nameM 13) from rfl, eo, e6]; simp only [Option.bind_some]
    rw [l1_skip (k + 43) _ (B (nameM 13) :: [B (tokR a), B (Lib.itoa n)]) 10 ([0, 0, 0, 0] : List Int) 1 0 1 13 (by decide) (by decide) (by decide +kernel) (by unfold wrap64; omega)]
    rw [l1_take (k + 42) _ (B (nameM 13) :: [B (tokR a), B (Lib.itoa n)]) 10 ([0, 0, 0, 0] : List Int) ([0, a, 0, 0] : List Int) 1 2 1 2 13 (B (tokR a)) a (by decide) (by decide) (by decide +kernel) (by decide) (by show (1 : Int) < 3; decide) rfl (num_r (k + 42) (by omega) a ha) rfl (by unfold wrap64; omega) (by unfold wrap64; omega)]
    rw [l1_skip (k + 41) _ (B (nameM 13) :: [B (tokR a), B (Lib.itoa n)]) 10 ([0, a, 0, 0] : List Int) 2 2 3 13 (by decide) (by decide) (by decide +kernel) (by unfold wrap64; omega)]
    rw [l1_take (k + 40) _ (B (nameM 13) :: [B (tokR a), B (Lib.itoa n)]) 10 ([0, a, 0, 0] : List Int) ([0, a, 0, n] : List Int) 2 3 3 4 13 (B (Lib.itoa n)) n (by decide) (by decide) (by decide +kernel) (by decide) (by show (2 : Int) < 3; decide) rfl (num_n (k + 40) (by omega) n hn) rfl (by unfold wrap64; omega) (by unfold wrap64; omega)]
    rw [l1_end (k + 39) _ _ _ _ _ _ 13 0 a 0 n rfl, if_neg e1]
    rw [show k + 39 = (k + 15) + 24 from rfl, spec_text (k + 15) _ _ _ _ _ h]; simp only [Option.bind_some, if_true]
  · obtain ⟨zR, zA, zB, zN⟩ := zero_parts h
    obtain rfl := zR rfl
    obtain rfl := zB rfl
    obtain rfl := zN rfl
    clear zR zA zB zN
    have hws : (tokens 14 0 a 0 0).map B = B (nameM 14) :: [B (tokR a)] := by rfl
    rw [hws]
    have e6 : spec_l6Has.f 14 = some 2 := by decide +kernel
    have eo : opS (B (nameM 14)) 0 [1, 2, 3, 4, 5, 6, 7, 8, 9, 10, 11, 12, 13, 14, 15] = 14 := by decide +kernel
    rw [show k + 60 = (k + 44) + 16 from rfl, l0_all (k + 44) _ (B (nameM 14) :: [B (tokR a)]) (by simp), show rdOf ByteArray.empty (B (nameM 14) :: [B (tokR a)]) 0 = B (nameM 14) from rfl, eo, e6]; simp only [Option.bind_some]
    rw [l1_skip (k + 43) _ (B (nameM 14) :: [B (tokR a)]) 2 ([0, 0, 0, 0] : List Int) 1 0 1 14 (by decide) (by decide) (by decide +kernel) (by unfold wrap64; omega)]
    rw [l1_take (k + 42) _ (B (nameM 14) :: [B (tokR a)]) 2 ([0, 0, 0, 0] : List Int) ([0, a, 0, 0] : List Int) 1 2 1 2 14 (B (tokR a)) a (by decide) (by decide) (by decide +kernel) (by decide) (by show (1 : Int) < 2; decide) rfl (num_r (k + 42) (by omega) a ha) rfl (by unfold wrap64; omega) (by unfold wrap64; omega)]
    rw [l1_skip (k + 41) _ (B (nameM 14) :: [B (tokR a)]) 2 ([0, a, 0, 0] : List Int) 2 2 3 14 (by decide) (by decide) (by decide +kernel) (by unfold wrap64; omega)]
    rw [l1_skip (k + 40) _ (B (nameM 14) :: [B (tokR a)]) 2 ([0, a, 0, 0] : List Int) 2 3 4 14 (by decide) (by decide) (by decide +kernel) (by unfold wrap64; omega)]
    rw [l1_end (k + 39) _ _ _ _ _ _ 14 0 a 0 0 rfl, if_neg e1]
    rw [show k + 39 = (k + 15) + 24 from rfl, spec_text (k + 15) _ _ _ _ _ h]; simp only [Option.bind_some, if_true]
  · obtain ⟨zR, zA, zB, zN⟩ := zero_parts h
    obtain rfl := zR rfl
    obtain rfl := zA rfl
    obtain rfl := zB rfl
    obtain rfl := zN rfl
    clear zR zA zB zN
    have hws : (tokens 15 0 0 0 0).map B = B (nameM 15) :: [] := by rfl
    rw [hws]
    have e6 : spec_l6Has.f 15 = some 0 := by decide +kernel
    have eo : opS (B (nameM 15)) 0 [1, 2, 3, 4, 5, 6, 7, 8, 9, 10, 11, 12, 13, 14, 15] = 15 := by decide +kernel
    rw [show k + 60 = (k + 44) + 16 from rfl, l0_all (k + 44) _ (B (nameM 15) :: []) (by simp), show rdOf ByteArray.empty (B (nameM 15) :: []) 0 = B (nameM 15) from rfl, eo, e6]; simp only [Option.bind_some]
    rw [l1_skip (k + 43) _ (B (nameM 15) :: []) 0 ([0, 0, 0, 0] : List Int) 1 0 1 15 (by decide) (by decide) (by decide +kernel) (by unfold wrap64; omega)]
    rw [l1_skip (k + 42) _ (B (nameM 15) :: []) 0 ([0, 0, 0, 0] : List Int) 1 1 2 15 (by decide) (by decide) (by decide +kernel) (by unfold wrap64; omega)]
    rw [l1_skip (k + 41) _ (B (nameM 15) :: []) 0 ([0, 0, 0, 0] : List Int) 1 2 3 15 (by decide) (by decide) (by decide +kernel) (by unfold wrap64; omega)]
    rw [l1_skip (k + 40) _ (B (nameM 15) :: []) 0 ([0, 0, 0, 0] : List Int) 1 3 4 15 (by decide) (by decide) (by decide +kernel) (by unfold wrap64; omega)]
    rw [l1_end (k + 39) _ _ _ _ _ _ 15 0 0 0 0 rfl, if_neg e1]
    rw [show k + 39 = (k + 15) + 24 from rfl, spec_text (k + 15) _ _ _ _ _ h]; simp only [Option.bind_some, if_true]
  · exact absurd ho h'

def textA (op r a b n : Int) : ByteArray := if insM op r a b n then textM op r a b n else (⟨#[]⟩ : ByteArray)
theorem impl_text_any (k : Nat) (op r a b n : Int) : impl_InsText.f (k + 24) op r a b n = some (textA op r a b n) := by
  unfold textA
  cases h : insM op r a b n with
  | true => rw [impl_text k op r a b n h]; rfl
  | false =>
    unfold impl_InsText.f
    rw [impl_InsOk_eq _ _ _ _ _ _ (by omega), h]
    simp
theorem spec_text_any (k : Nat) (op r a b n : Int) : spec_InsText.f (k + 24) op r a b n = some (textA op r a b n) := by
  unfold textA
  cases h : insM op r a b n with
  | true => rw [spec_text k op r a b n h]; rfl
  | false =>
    unfold spec_InsText.f
    rw [spec_InsOk_eq, h]
    simp
theorem n_j3 (k : Nat) (s : ByteArray) (x3 x4 x5 : Int) (hx : x3 = 0 ∨ x3 = 1) (hz : x3 = 1 → 0 < (s.size : Int)) : ∃ v, spec_l7Num.j3 (k + 1) s x3 x4 x5 false = some v := by
  simp only [spec_l7Num.j3]
  rw [if_neg (by decide)]
  by_cases c : x3 = 1
  · rw [if_pos c, if_pos (hz c)]
    split <;> exact ⟨_, rfl⟩
  · rw [if_neg c]; exact ⟨_, rfl⟩
theorem n_l0 (s : ByteArray) (x3 : Int) (hx : x3 = 0 ∨ x3 = 1) (hz : x3 = 1 → 0 < (s.size : Int)) (d : Nat) : ∀ (k : Nat) (x4 x5 : Int), x3 ≤ x5 → x3 + 3 - x5 = d → ∃ v, spec_l7Num.l0 (k + (2 * d + 2)) s x3 x4 x5 = some v := by
  induction d with
  | zero =>
    intro k x4 x5 h0 hd
    rw [show k + (2 * 0 + 2) = (k + 1) + 1 from rfl]
    simp only [spec_l7Num.l0]
    have hf : decide (x5 < wrap64 (x3 + 3)) = false := by
      rw [show wrap64 (x3 + 3) = x3 + 3 from wrap_in (by omega) (by omega)]
      exact decide_eq_false (by omega)
    rw [hf]
    split <;> exact n_j3 k s x3 x4 x5 hx hz
  | succ d ih =>
    intro k x4 x5 h0 hd
    rw [show k + (2 * (d + 1) + 2) = ((k + (2 * d + 2)) + 1) + 1 by omega]
    simp only [spec_l7Num.l0]
    by_cases c : x5 < (s.size : Int)
    · rw [if_pos c]
      have hf : decide (x5 < wrap64 (x3 + 3)) = true := by
        rw [show wrap64 (x3 + 3) = x3 + 3 from wrap_in (by omega) (by omega)]
        exact decide_eq_true (by omega)
      rw [hf]
      simp only [spec_l7Num.j3]
      rw [if_pos trivial, if_pos (by omega), if_pos c]
      rw [show wrap64 (x5 + 1) = x5 + 1 from wrap_in (by omega) (by omega)]
      split
      · exact ⟨_, rfl⟩
      · split
        · exact ⟨_, rfl⟩
        · exact ih k _ (x5 + 1) (by omega) (by omega)
    · rw [if_neg c]; exact n_j3 _ s x3 x4 x5 hx hz
theorem num_any (k : Nat) (s : ByteArray) : ∃ v, spec_l7Num.f (k + 12) s = some v := by
  have J1 : ∀ (k : Nat) (x3 : Int), (x3 = 0 ∨ x3 = 1) → (x3 = 1 → 0 < (s.size : Int)) → ∃ v, spec_l7Num.j1 (k + 9) s x3 = some v := by
    intro k x3 hx hz
    simp only [spec_l7Num.j1]
    exact n_l0 s x3 hx hz 3 k 0 x3 (by omega) (by omega)
  have J0 : ∀ (k : Nat) (b : Bool), (b = true → 0 < (s.size : Int)) → ∃ v, spec_l7Num.j0 (k + 10) s 0 b = some v := by
    intro k b hb
    simp only [spec_l7Num.j0]
    cases b with
    | true => rw [if_pos rfl]; exact J1 k 1 (Or.inr rfl) (fun _ => hb rfl)
    | false => rw [if_neg (by decide)]; exact J1 k 0 (Or.inl rfl) (fun h => absurd h (by decide))
  unfold spec_l7Num.f
  by_cases c : s.toList = ([] : List UInt8)
  · rw [if_pos c]; exact J0 (k + 2) false (fun h => absurd h (by decide))
  · have hz : 0 < (s.size : Int) := by
      have h2 : s.data.toList ≠ [] := by rw [← Lib.toList_data]; exact c
      have h3 := List.length_pos_iff.mpr h2
      rw [data_length] at h3
      omega
    rw [if_neg c, if_pos hz]
    split
    · exact J0 (k + 2) true (fun _ => hz)
    · exact J0 (k + 2) _ (fun _ => hz)
theorem l1_total (line : ByteArray) (ws : List ByteArray) (h op : Int) (d : Nat) : ∀ (k : Nat) (xs : List Int) (at_ kk : Int), xs.length = 4 → 0 ≤ at_ → at_ ≤ 1 + kk → 0 ≤ kk → 4 - kk = d →
    ∃ r a b n, spec_InsRead.l1 (k + 37 + d) line ws h xs at_ kk op 0 0 0 0 = (if line.toList = ([] : List UInt8) then (some (0, 0, 0, 0, 0, false)) else (if (textA op r a b n).toList = line.toList then (some (op, r, a, b, n, true)) else (some (0, 0, 0, 0, 0, false)))) := by
  induction d with
  | zero =>
    intro k xs at_ kk hx ha ha2 h0 hd
    match xs, hx with
    | [r, a, b, n], _ =>
      refine ⟨r, a, b, n, ?_⟩
      rw [show k + 37 + 0 = (k + 36) + 1 from rfl, l1_end (k + 36) line ws h _ at_ kk op r a b n rfl (by omega)]
      rw [show k + 36 = (k + 12) + 24 from rfl, spec_text_any]
      rfl
  | succ d ih =>
    intro k xs at_ kk hx ha ha2 h0 hd
    have hw : wrap64 (kk + 1) = kk + 1 := wrap_in (by omega) (by omega)
    rw [show k + 37 + (d + 1) = (k + 37 + d) + 1 by omega]
    by_cases hb : (bits .and .i64 (shr .i64 h kk) 1) = 0
    · rw [l1_skip _ line ws h xs at_ kk (kk + 1) op h0 (by omega) hb hw]
      exact ih k xs at_ (kk + 1) hx ha (by omega) (by omega) (by omega)
    · by_cases hat : at_ < (ws.length : Int)
      · obtain ⟨v, hv⟩ := num_any (k + 25 + d) (rdOf ByteArray.empty ws at_)
        rw [l1_take _ line ws h xs (xs.set kk.toNat v) at_ (at_ + 1) kk (kk + 1) op _ v h0 (by omega) hb ha hat rfl (by rw [show k + 37 + d = k + 25 + d + 12 by omega]; exact hv) (by rw [if_pos (by omega)]) (wrap_in (by omega) (by omega)) hw]
        exact ih k _ (at_ + 1) (kk + 1) (by simpa using hx) (by omega) (by omega) (by omega) (by omega)
      · rw [l1_over _ line ws h xs at_ kk (kk + 1) op h0 (by omega) hb hat hw]
        exact ih k xs at_ (kk + 1) hx ha (by omega) (by omega) (by omega)
theorem spec_read_total (line : ByteArray) (hs : line.size ≤ 1048576) (k : Nat) (hk : line.size + 3 < k + 57) : ∃ op r a b n, spec_InsRead.f (k + 57) line = (if line.toList = ([] : List UInt8) then (some (0, 0, 0, 0, 0, false)) else (if (textA op r a b n).toList = line.toList then (some (op, r, a, b, n, true)) else (some (0, 0, 0, 0, 0, false)))) := by
  obtain ⟨ws, e, hm⟩ := spec_words line hs (k + 57) hk
  have hw : 0 < ws.length := by
    have := congrArg List.length hm
    rw [List.length_map] at this
    rw [this]
    exact List.length_pos_iff.mpr (wordsL_ne _)
  unfold spec_InsRead.f
  rw [e]; simp only [Option.bind_some]
  rw [names_s]; simp only [Option.bind_some]
  rw [show k + 57 = (k + 41) + 16 from rfl, l0_all (k + 41) line ws hw]
  generalize opS (rdOf ByteArray.empty ws 0) 0 [1, 2, 3, 4, 5, 6, 7, 8, 9, 10, 11, 12, 13, 14, 15] = op
  obtain ⟨t, et, _⟩ := has_bits4 op
  rw [et]; simp only [Option.bind_some]
  obtain ⟨r, a, b, n, h⟩ := l1_total line ws t op 4 k [0, 0, 0, 0] 1 0 rfl (by decide) (by decide) (by decide) (by decide)
  exact ⟨op, r, a, b, n, by rw [← h]⟩

theorem wordsL_len : ∀ (s w : List UInt8), w ∈ wordsL s → w.length ≤ s.length
  | [], w, h => by
    have : w = [] := by simpa [wordsL] using h
    rw [this]
    exact Nat.le_refl _
  | c :: cs, w, h => by
    unfold wordsL at h
    by_cases hc : c = 32
    · rw [if_pos hc] at h
      rcases List.mem_cons.mp h with e | e
      · rw [e]; simp
      · have := wordsL_len cs w e
        simp only [List.length_cons]; omega
    · rw [if_neg hc] at h
      have ih := wordsL_len cs
      cases e : wordsL cs with
      | nil => exact absurd e (wordsL_ne cs)
      | cons x xs =>
        rw [e] at h ih
        rcases List.mem_cons.mp h with e2 | e2
        · have := ih x (by simp)
          rw [e2]; simp only [List.length_cons]; omega
        · have := ih w (List.mem_cons_of_mem _ e2)
          simp only [List.length_cons]; omega
theorem wordsL_count : ∀ (s : List UInt8), (wordsL s).length ≤ s.length + 1
  | [] => by simp [wordsL]
  | c :: cs => by
    have ih := wordsL_count cs
    unfold wordsL
    by_cases hc : c = 32
    · rw [if_pos hc]; simp only [List.length_cons]; omega
    · rw [if_neg hc]
      cases e : wordsL cs with
      | nil => simp
      | cons x xs => rw [e] at ih; simp only [List.length_cons] at ih ⊢; omega
theorem split_any (line : ByteArray) (hs : line.size ≤ 1048576) : ∃ ws, strings_Split.f line (⟨#[32]⟩ : ByteArray) = some ws ∧ 0 < ws.length ∧ ∀ w ∈ ws, w.size ≤ 1048576 := by
  have hw := split_words line
  have hl : line.data.toList.length = line.size := data_length line
  have hc : Lib.countB line spaceB + 1 ≤ 9223372036854775807 := by
    have h1 : (Lib.splitB spaceB 0 (Lib.countB line spaceB) line).length = Lib.countB line spaceB + 1 := Lib.splitB_all spaceB (by decide) 0 _ _ rfl
    have h2 := congrArg List.length hw
    rw [List.length_map, h1] at h2
    have := wordsL_count line.data.toList
    omega
  refine ⟨Lib.splitB spaceB 0 (Lib.countB line spaceB) line, ?_, ?_, ?_⟩
  · show strings_Split.f line spaceB = _
    unfold strings_Split.f
    rw [if_pos (by omega), if_pos (by decide), if_pos hc]
  · have h2 := congrArg List.length hw
    rw [List.length_map] at h2
    rw [h2]
    exact List.length_pos_iff.mpr (wordsL_ne _)
  · intro w hm
    have h3 : w.data.toList ∈ wordsL line.data.toList := by rw [← hw]; exact List.mem_map_of_mem hm
    have := wordsL_len _ _ h3
    rw [data_length, hl] at this
    omega
theorem idx_total (w : ByteArray) (d : Nat) : ∀ (k : Nat) (i : Int), 0 ≤ i → 16 - i = d → ∃ j, slices_Index_string_string.l0 (k + 1 + d) namesM w 16 i = some j := by
  induction d with
  | zero =>
    intro k i h0 hd
    show ∃ j, slices_Index_string_string.l0 (k + 1) namesM w 16 i = some j
    simp only [slices_Index_string_string.l0]
    rw [if_neg (by omega)]
    exact ⟨_, rfl⟩
  | succ d ih =>
    intro k i h0 hd
    rw [show k + 1 + (d + 1) = (k + 1 + d) + 1 by omega]
    simp only [slices_Index_string_string.l0]
    rw [if_pos (by omega), if_pos h0, if_pos (by show i < ((16 : Nat) : Int); omega)]
    split
    · exact ⟨_, rfl⟩
    · rw [show wrap64 (i + 1) = i + 1 from wrap_in (by omega) (by omega)]
      exact ih k (i + 1) (by omega) (by omega)
theorem trim_any (w : ByteArray) (hs : w.size ≤ 1048576) : ∃ t, strings_TrimPrefix.f w (⟨#[114]⟩ : ByteArray) = some t ∧ t.size ≤ 1048576 := by
  have h1 : (⟨#[114]⟩ : ByteArray).size = 1 := rfl
  have hp : ∃ b, stringslite_HasPrefix.f w (⟨#[114]⟩ : ByteArray) = some b ∧ (b = true → 1 ≤ w.size) := by
    unfold stringslite_HasPrefix.f
    by_cases c : (w.size : Int) ≥ ((⟨#[114]⟩ : ByteArray).size : Int)
    · rw [if_pos c, if_pos (by omega), if_pos (by omega)]
      exact ⟨_, rfl, fun _ => by omega⟩
    · rw [if_neg c]; exact ⟨_, rfl, fun h => absurd h (by decide)⟩
  obtain ⟨b, e, hb⟩ := hp
  unfold strings_TrimPrefix.f stringslite_TrimPrefix.f
  rw [e]; simp only [Option.bind_some]
  cases b with
  | true =>
    have := hb rfl
    rw [if_pos rfl, if_pos (by omega), if_pos (by omega)]
    refine ⟨_, rfl, ?_⟩
    rw [ByteArray.size_extract]
    omega
  | false => rw [if_neg (by decide)]; exact ⟨_, rfl, hs⟩
theorem atoi_any (t : ByteArray) (hs : t.size ≤ 1048576) : ∃ v b, strconv_Atoi.f t = some (v, b) := by
  unfold strconv_Atoi.f
  rw [if_pos (by omega)]
  exact ⟨_, _, rfl⟩
theorem withPart_any (op r a b n q v : Int) : ∃ r' a' b' n', impl_withPart.f op r a b n q v = some (op, r', a', b', n') := by
  unfold impl_withPart.f
  repeat' split
  all_goals exact ⟨_, _, _, _, rfl⟩
theorem loop_total (line : ByteArray) (ws : List ByteArray) (fm : ByteArray) (op : Int) (hf : ws.length = fm.size) (hw : ∀ w ∈ ws, w.size ≤ 1048576) (hl : ws.length ≤ 100) (d : Nat) : ∀ (k : Nat) (i r a b n : Int), 0 ≤ i → (ws.length : Int) - i = d →
    impl_InsRead.l0 (k + 25 + d) line fm ws (ws.length : Int) i op r a b n = some (0, 0, 0, 0, 0, false) ∨ ∃ r' a' b' n', impl_InsRead.l0 (k + 25 + d) line fm ws (ws.length : Int) i op r a b n = (if (textA op r' a' b' n').toList = line.toList then (some (op, r', a', b', n', true)) else (some (0, 0, 0, 0, 0, false))) := by
  induction d with
  | zero =>
    intro k i r a b n h0 hd
    refine Or.inr ⟨r, a, b, n, ?_⟩
    rw [show k + 25 + 0 = (k + 24) + 1 from rfl, ir_end (k + 24) line ws fm i op r a b n (by omega), impl_text_any]
    rfl
  | succ d ih =>
    intro k i r a b n h0 hd
    have hm : rdOf ByteArray.empty ws i ∈ ws := by
      unfold rdOf
      rw [List.getD_eq_getElem?_getD, List.getElem?_eq_getElem (show i.toNat < ws.length by omega)]
      exact List.getElem_mem _
    obtain ⟨t, et, ht⟩ := trim_any _ (hw _ hm)
    obtain ⟨v, ok, ea⟩ := atoi_any t ht
    obtain ⟨r', a', b', n', ep⟩ := withPart_any op r a b n (bt fm i) v
    rw [show k + 25 + (d + 1) = (k + 25 + d) + 1 by omega]
    cases ok with
    | true =>
      rw [ir_step (k + 25 + d) line ws fm i (i + 1) op r a b n _ t v _ op r' a' b' n' h0 (by omega) rfl et ea (by omega) rfl ep (wrap_in (by omega) (by omega))]
      exact ih k (i + 1) r' a' b' n' (by omega) (by omega)
    | false =>
      refine Or.inl ?_
      simp only [impl_InsRead.l0]
      rw [if_pos (by omega), if_pos h0, if_pos (by omega), et]; simp only [Option.bind_some]
      rw [ea]; simp
theorem form_size (k : Nat) (op : Int) (s : ByteArray) (b : Bool) (h : impl_formOf.f (k + 12) op = some (s, b)) : s.size ≤ 4 := by
  rcases op_cases op with rfl | rfl | rfl | rfl | rfl | rfl | rfl | rfl | rfl | rfl | rfl | rfl | rfl | rfl | rfl | h'
  · rw [form_of (k + 12) (by omega) 1 (⟨#[82, 78]⟩ : ByteArray) (by decide +kernel)] at h; obtain ⟨rfl, _⟩ := Prod.mk.inj (Option.some.inj h); decide
  · rw [form_of (k + 12) (by omega) 2 (⟨#[82, 65, 66]⟩ : ByteArray) (by decide +kernel)] at h; obtain ⟨rfl, _⟩ := Prod.mk.inj (Option.some.inj h); decide
  · rw [form_of (k + 12) (by omega) 3 (⟨#[82, 65]⟩ : ByteArray) (by decide +kernel)] at h; obtain ⟨rfl, _⟩ := Prod.mk.inj (Option.some.inj h); decide
  · rw [form_of (k + 12) (by omega) 4 (⟨#[82, 65, 66]⟩ : ByteArray) (by decide +kernel)] at h; obtain ⟨rfl, _⟩ := Prod.mk.inj (Option.some.inj h); decide
  · rw [form_of (k + 12) (by omega) 5 (⟨#[82, 65, 66]⟩ : ByteArray) (by decide +kernel)] at h; obtain ⟨rfl, _⟩ := Prod.mk.inj (Option.some.inj h); decide
  · rw [form_of (k + 12) (by omega) 6 (⟨#[82, 65, 66, 78]⟩ : ByteArray) (by decide +kernel)] at h; obtain ⟨rfl, _⟩ := Prod.mk.inj (Option.some.inj h); decide
  · rw [form_of (k + 12) (by omega) 7 (⟨#[82, 65, 66]⟩ : ByteArray) (by decide +kernel)] at h; obtain ⟨rfl, _⟩ := Prod.mk.inj (Option.some.inj h); decide
  · rw [form_of (k + 12) (by omega) 8 (⟨#[82, 65, 66]⟩ : ByteArray) (by decide +kernel)] at h; obtain ⟨rfl, _⟩ := Prod.mk.inj (Option.some.inj h); decide
  · rw [form_of (k + 12) (by omega) 9 (⟨#[82, 65]⟩ : ByteArray) (by decide +kernel)] at h; obtain ⟨rfl, _⟩ := Prod.mk.inj (Option.some.inj h); decide
  · rw [form_of (k + 12) (by omega) 10 (⟨#[82, 65, 78]⟩ : ByteArray) (by decide +kernel)] at h; obtain ⟨rfl, _⟩ := Prod.mk.inj (Option.some.inj h); decide
  · rw [form_of (k + 12) (by omega) 11 (⟨#[65, 66, 78]⟩ : ByteArray) (by decide +kernel)] at h; obtain ⟨rfl, _⟩ := Prod.mk.inj (Option.some.inj h); decide
  · rw [form_of (k + 12) (by omega) 12 (⟨#[82, 65]⟩ : ByteArray) (by decide +kernel)] at h; obtain ⟨rfl, _⟩ := Prod.mk.inj (Option.some.inj h); decide
  · rw [form_of (k + 12) (by omega) 13 (⟨#[65, 78]⟩ : ByteArray) (by decide +kernel)] at h; obtain ⟨rfl, _⟩ := Prod.mk.inj (Option.some.inj h); decide
  · rw [form_of (k + 12) (by omega) 14 (⟨#[65]⟩ : ByteArray) (by decide +kernel)] at h; obtain ⟨rfl, _⟩ := Prod.mk.inj (Option.some.inj h); decide
  · rw [form_of (k + 12) (by omega) 15 (⟨#[]⟩ : ByteArray) (by decide +kernel)] at h; obtain ⟨rfl, _⟩ := Prod.mk.inj (Option.some.inj h); decide
  · rw [show k + 12 = (k + 10) + 2 from rfl, formOf_none (k + 10) op h'] at h; obtain ⟨rfl, _⟩ := Prod.mk.inj (Option.some.inj h); decide
theorem impl_read_total (line : ByteArray) (hs : line.size ≤ 1048576) (k : Nat) : impl_InsRead.f (k + 130) line = some (0, 0, 0, 0, 0, false) ∨ ∃ op r a b n, impl_InsRead.f (k + 130) line = (if (textA op r a b n).toList = line.toList then (some (op, r, a, b, n, true)) else (some (0, 0, 0, 0, 0, false))) := by
  obtain ⟨ws, e, hw, hz⟩ := split_any line hs
  obtain ⟨op, ei⟩ := idx_total (rdOf ByteArray.empty ws 0) 16 (k + 113) 0 (by decide) (by decide)
  have ei2 : slices_Index_string_string.f (k + 130) namesM (rdOf ByteArray.empty ws 0) = some op := ei
  obtain ⟨s, ef⟩ := formOf_ok (k + 128) op
  have hf := form_size (k + 118) op s _ ef
  unfold impl_InsRead.f
  rw [e]; simp only [Option.bind_some]
  rw [names_i]; simp only [Option.bind_some]
  rw [if_pos (by omega), ei2]; simp only [Option.bind_some]
  rw [show k + 130 = (k + 128) + 2 from rfl, ef]; simp only [Option.bind_some]
  cases hO : hOp op with
  | false =>
    refine Or.inl ?_
    rw [if_neg (by decide), show k + 128 + 2 = (k + 129) + 1 from rfl]
    simp [impl_InsRead.j0]
  | true =>
    rw [if_pos rfl, show k + 128 + 2 = (k + 129) + 1 from rfl]
    simp only [impl_InsRead.j0]
    have hw1 : wrap64 ((s.size : Int) + 1) = (s.size : Int) + 1 := wrap_in (by omega) (by omega)
    rw [hw1]
    by_cases c : (ws.length : Int) = (s.size : Int) + 1
    · have hb : ((ws.length : Int) != (s.size : Int) + 1) = false := bne_eq_false_iff_eq.mpr c
      rw [hb, if_neg (by decide)]
      have hl : (ws.drop 1).length = s.size := by rw [List.length_drop]; omega
      rcases loop_total line (ws.drop 1) s op hl (fun w hm => hz w (List.mem_of_mem_drop hm)) (by omega) s.size (k + 104 - s.size) 0 0 0 0 0 (by decide) (by omega) with h | ⟨r, a, b, n, h⟩
      · refine Or.inl ?_
        rw [show k + 129 = k + 104 - s.size + 25 + s.size by omega]; exact h
      · refine Or.inr ⟨op, r, a, b, n, ?_⟩
        rw [show k + 129 = k + 104 - s.size + 25 + s.size by omega]; exact h
    · refine Or.inl ?_
      have hb : ((ws.length : Int) != (s.size : Int) + 1) = true := bne_iff_ne.mpr c
      rw [hb, if_pos rfl]

theorem bytes_eq {s t : ByteArray} (h : s.toList = t.toList) : s = t := by
  rw [Lib.toList_data, Lib.toList_data] at h
  rw [← B_of s, ← B_of t, h]
theorem nil_list : (⟨#[]⟩ : ByteArray).toList = ([] : List UInt8) := by
  rw [Lib.toList_data]
theorem text_ok {op r a b n : Int} {line : ByteArray} (h : (textA op r a b n).toList = line.toList) (hn : ¬ line.toList = ([] : List UInt8)) : insM op r a b n = true ∧ textM op r a b n = line := by
  unfold textA at h
  cases hi : insM op r a b n with
  | true => rw [hi, if_pos rfl] at h; exact ⟨rfl, bytes_eq h⟩
  | false =>
    rw [hi, if_neg (by decide)] at h
    exact absurd (h.symm.trans nil_list) hn
theorem empty_read : impl_InsRead.f 60 (⟨#[]⟩ : ByteArray) = some (0, 0, 0, 0, 0, false) := by decide +kernel
theorem read_both (line : ByteArray) (hs : line.size ≤ 1048576) : ∃ v, spec_InsRead.f (line.size + 2000) line = some v ∧ impl_InsRead.f (line.size + 2000) line = some v := by
  obtain ⟨op, r, a, b, n, e⟩ := spec_read_total line hs (line.size + 1943) (by omega)
  by_cases hn : line.toList = ([] : List UInt8)
  · rw [if_pos hn] at e
    refine ⟨_, e, ?_⟩
    have hl : line = (⟨#[]⟩ : ByteArray) := bytes_eq (hn.trans nil_list.symm)
    subst hl
    exact at_rounds (fun k => impl_InsRead.mono _ k) (by decide) empty_read
  · rw [if_neg hn] at e
    have back : ∀ op r a b n, (textA op r a b n).toList = line.toList → spec_InsRead.f (line.size + 2000) line = some (op, r, a, b, n, true) ∧ impl_InsRead.f (line.size + 2000) line = some (op, r, a, b, n, true) := by
      intro op r a b n ht
      obtain ⟨hi, rfl⟩ := text_ok ht hn
      exact ⟨spec_read_back _ op r a b n hi (by omega), impl_read_back _ op r a b n hi⟩
    rcases impl_read_total line hs (line.size + 1870) with e2 | ⟨op', r', a', b', n', e2⟩
    · by_cases c : (textA op r a b n).toList = line.toList
      · exact ⟨_, back op r a b n c⟩
      · rw [if_neg c] at e
        exact ⟨_, e, e2⟩
    · by_cases c2 : (textA op' r' a' b' n').toList = line.toList
      · exact ⟨_, back op' r' a' b' n' c2⟩
      · rw [if_neg c2] at e2
        by_cases c : (textA op r a b n).toList = line.toList
        · exact ⟨_, back op r a b n c⟩
        · rw [if_neg c] at e
          exact ⟨_, e, e2⟩

def insT (x : S25) : Bool := insM x.f0 x.f1 x.f2 x.f3 x.f4

theorem drop_rdI (l : List S25) (i : Int) (h0 : 0 ≤ i) (h : i < (l.length : Int)) : l.drop i.toNat = rd_T25 l i :: l.drop (i + 1).toNat := by
  rw [List.drop_eq_getElem_cons (by omega), show (i + 1).toNat = i.toNat + 1 by omega]
  congr 1
  unfold rd_T25
  rw [List.getD_eq_getElem?_getD, List.getElem?_eq_getElem (by omega)]; rfl
theorem drop_endI (l : List S25) (i : Int) (h : ¬ i < (l.length : Int)) : l.drop i.toNat = [] := List.drop_eq_nil_of_le (by omega)
theorem cfC_rounds (l : List S25) (hl : l.length ≤ 2000000) (d : Nat) : ∀ (k : Nat) (i : Int), 0 ≤ i → (l.length : Int) - i = d → d + 21 < k → ∃ r, CF_impl_CodeOk_1.l0 k l i = some r ∧ decide (0 ≤ r) = !((l.drop i.toNat).all insT) := by
  induction d with
  | zero =>
    intro k i h0 hd hk
    obtain ⟨k, rfl⟩ : ∃ m, k = m + 1 := ⟨k - 1, by omega⟩
    simp only [CF_impl_CodeOk_1.l0]; rw [if_neg (by omega), drop_endI l i (by omega)]; exact ⟨_, rfl, rfl⟩
  | succ d ih =>
    intro k i h0 hd hk
    obtain ⟨k, rfl⟩ : ∃ m, k = m + 1 := ⟨k - 1, by omega⟩
    simp only [CF_impl_CodeOk_1.l0]; rw [if_pos (by omega), if_pos h0]
    unfold impl_CodeOk_1.f
    rw [impl_InsOk_eq _ _ _ _ _ _ (by omega), drop_rdI l i h0 (by omega)]; simp only [Option.bind_some, List.all_cons]
    rw [show insM (rd_T25 l i).f0 (rd_T25 l i).f1 (rd_T25 l i).f2 (rd_T25 l i).f3 (rd_T25 l i).f4 = insT (rd_T25 l i) from rfl]
    cases insT (rd_T25 l i) with
    | false => exact ⟨i, by simp, by simp [h0]⟩
    | true =>
      obtain ⟨r, e, p⟩ := ih k (i + 1) (by omega) (by omega) (by omega)
      refine ⟨r, ?_, by simpa using p⟩
      simp only [Bool.not_true, Bool.false_eq_true, if_false]
      rw [show wrap64 (i + 1) = i + 1 from wrap_in (by omega) (by omega)]; exact e
def codeM (l : List S25) : Bool := decide (1 ≤ l.length ∧ l.length ≤ 48) && l.all insT
theorem impl_CodeOk_eq (k : Nat) (l : List S25) (hl : l.length ≤ 2000000) (hk : l.length + 21 < k) : impl_CodeOk.f k l = some (codeM l) := by
  obtain ⟨r, e, p⟩ := cfC_rounds l hl l.length k 0 (by omega) (by omega) hk
  unfold impl_CodeOk.f codeM
  rw [impl_in_eq]; simp only [Option.bind_some]
  by_cases h : 1 ≤ l.length ∧ l.length ≤ 48
  · rw [if_pos (by simp; omega)]
    unfold CF_impl_CodeOk_1.f
    rw [e]; simp only [Option.bind_some, ge_iff_le, p]
    simp [h]
  · rw [if_neg (by simp; omega)]; simp [h]
theorem spC_rounds (l : List S25) (hl : l.length ≤ 2000000) (d : Nat) : ∀ (k : Nat) (i : Int), 0 ≤ i → (l.length : Int) - i = d → d < k → spec_CodeOk.l0 k l i = some ((l.drop i.toNat).all insT && decide (1 ≤ l.length ∧ l.length ≤ 48)) := by
  induction d with
  | zero =>
    intro k i h0 hd hk
    obtain ⟨k, rfl⟩ : ∃ m, k = m + 1 := ⟨k - 1, by omega⟩
    simp only [spec_CodeOk.l0]; rw [if_neg (by omega), drop_endI l i (by omega), spec_in_eq]; simp only [Option.bind_some, List.all_nil, Bool.true_and]
    congr 1; rw [decide_eq_decide]; omega
  | succ d ih =>
    intro k i h0 hd hk
    obtain ⟨k, rfl⟩ : ∃ m, k = m + 1 := ⟨k - 1, by omega⟩
    simp only [spec_CodeOk.l0]; rw [if_pos (by omega), if_pos h0]
    rw [spec_InsOk_eq, drop_rdI l i h0 (by omega)]; simp only [Option.bind_some, List.all_cons]
    rw [show insM (rd_T25 l i).f0 (rd_T25 l i).f1 (rd_T25 l i).f2 (rd_T25 l i).f3 (rd_T25 l i).f4 = insT (rd_T25 l i) from rfl]
    cases insT (rd_T25 l i) with
    | false => simp
    | true =>
      simp only [if_true, Bool.true_and]
      rw [show wrap64 (i + 1) = i + 1 from wrap_in (by omega) (by omega)]; exact ih k (i + 1) (by omega) (by omega) (by omega)
theorem spec_CodeOk_eq (k : Nat) (l : List S25) (hl : l.length ≤ 2000000) (hk : l.length < k) : spec_CodeOk.f k l = some (codeM l) := by
  unfold spec_CodeOk.f codeM
  rw [spC_rounds l hl l.length k 0 (by omega) (by omega) hk]
  simp [Bool.and_comm]

def textT (x : S25) : ByteArray := textM x.f0 x.f1 x.f2 x.f3 x.f4
def linesM : ByteArray → List S25 → ByteArray
  | x, [] => x
  | x, p :: ps => linesM ((x ++ textT p) ++ (⟨#[10]⟩ : ByteArray)) ps
theorem spec_text' (k : Nat) (hk : 24 ≤ k) (x : S25) (h : insT x = true) : spec_InsText.f k x.f0 x.f1 x.f2 x.f3 x.f4 = some (textT x) := by
  obtain ⟨k, rfl⟩ : ∃ m, k = m + 24 := ⟨k - 24, by omega⟩
  exact spec_text k _ _ _ _ _ h
theorem impl_text' (k : Nat) (hk : 24 ≤ k) (x : S25) (h : insT x = true) : impl_InsText.f k x.f0 x.f1 x.f2 x.f3 x.f4 = some (textT x) := by
  obtain ⟨k, rfl⟩ : ∃ m, k = m + 24 := ⟨k - 24, by omega⟩
  exact impl_text k _ _ _ _ _ h
theorem codeM_parts {l : List S25} (h : codeM l = true) : (1 ≤ l.length ∧ l.length ≤ 48) ∧ l.all insT = true := by
  unfold codeM at h
  simpa using h
theorem all_drop {l : List S25} (h : l.all insT = true) (i : Int) (h0 : 0 ≤ i) (h1 : i < (l.length : Int)) : insT (rd_T25 l i) = true := by
  have h2 := drop_rdI l i h0 h1
  refine List.all_eq_true.mp h _ (List.mem_of_mem_drop (i := i.toNat) ?_)
  rw [h2]
  exact List.mem_cons_self
theorem line_size {x : ByteArray} {p : S25} {c : Nat} (hx : x.size ≤ c) (h : insT p = true) : ((x ++ textT p) ++ (⟨#[10]⟩ : ByteArray)).size ≤ c + 30 := by
  have := textM_size h
  rw [ByteArray.size_append, ByteArray.size_append, one_size]
  have e : (textT p).size = (textM p.f0 p.f1 p.f2 p.f3 p.f4).size := rfl
  omega
theorem spT_rounds (l : List S25) (hl : codeM l = true) (d : Nat) : ∀ (k : Nat) (x : ByteArray) (i : Int), 0 ≤ i → (l.length : Int) - i = d → d + 80 < k → x.size ≤ 3000 - 30 * d → spec_CodeText.l0 k l x i = some (linesM x (l.drop i.toNat)) := by
  obtain ⟨hn, ha⟩ := codeM_parts hl
  induction d with
  | zero =>
    intro k x i h0 hd hk hx
    obtain ⟨k, rfl⟩ : ∃ m, k = m + 1 := ⟨k - 1, by omega⟩
    simp only [spec_CodeText.l0]; rw [if_neg (by omega), drop_endI l i (by omega)]; rfl
  | succ d ih =>
    intro k x i h0 hd hk hx
    obtain ⟨k, rfl⟩ : ∃ m, k = m + 1 := ⟨k - 1, by omega⟩
    have hi := all_drop ha i h0 (by omega)
    have hz := textM_size hi
    have e : (textT (rd_T25 l i)).size ≤ 29 := hz
    have hx2 := line_size hx hi
    simp only [spec_CodeText.l0]; rw [if_pos (by omega), spec_CodeOk_eq k l (by omega) (by omega), hl]; simp only [Option.bind_some, if_true]
    rw [if_pos h0, spec_text' k (by omega) _ hi]; simp only [Option.bind_some]
    rw [if_pos (by omega), if_pos (by rw [ByteArray.size_append]; omega), show wrap64 (i + 1) = i + 1 from wrap_in (by omega) (by omega), ih k _ (i + 1) (by omega) (by omega) (by omega) (by omega), drop_rdI l i h0 (by omega)]
    rfl
theorem imT_rounds (l : List S25) (hl : codeM l = true) (d : Nat) : ∀ (k : Nat) (x : ByteArray) (i : Int), 0 ≤ i → (l.length : Int) - i = d → d + 80 < k → x.size ≤ 3000 - 30 * d → impl_CodeText.l0 k x l (l.length : Int) i = some (linesM x (l.drop i.toNat)) := by
  obtain ⟨hn, ha⟩ := codeM_parts hl
  induction d with
  | zero =>
    intro k x i h0 hd hk hx
    obtain ⟨k, rfl⟩ : ∃ m, k = m + 1 := ⟨k - 1, by omega⟩
    simp only [impl_CodeText.l0]; rw [if_neg (by omega), drop_endI l i (by omega)]; rfl
  | succ d ih =>
    intro k x i h0 hd hk hx
    obtain ⟨k, rfl⟩ : ∃ m, k = m + 1 := ⟨k - 1, by omega⟩
    have hi := all_drop ha i h0 (by omega)
    have hz := textM_size hi
    have e : (textT (rd_T25 l i)).size ≤ 29 := hz
    have hx2 := line_size hx hi
    simp only [impl_CodeText.l0]; rw [if_pos (by omega), if_pos h0, if_pos (by omega), impl_text' k (by omega) _ hi]; simp only [Option.bind_some]
    rw [if_pos (by omega), if_pos (by rw [ByteArray.size_append, one_size]; omega), show wrap64 (i + 1) = i + 1 from wrap_in (by omega) (by omega), ← ByteArray.append_assoc, ih k _ (i + 1) (by omega) (by omega) (by omega) (by omega), drop_rdI l i h0 (by omega)]
    rfl
def codeTextM (l : List S25) : ByteArray := if codeM l then linesM (⟨#[]⟩ : ByteArray) l else (⟨#[]⟩ : ByteArray)
theorem spec_CodeText_eq (k : Nat) (l : List S25) (hl : l.length ≤ 2000000) (hk : l.length + 130 < k) : spec_CodeText.f k l = some (codeTextM l) := by
  unfold spec_CodeText.f codeTextM
  cases h : codeM l with
  | true =>
    obtain ⟨hn, _⟩ := codeM_parts h
    rw [spT_rounds l h l.length k _ 0 (by omega) (by omega) (by omega) (by show 0 ≤ _; omega)]
    rfl
  | false =>
    obtain ⟨k, rfl⟩ : ∃ m, k = m + 1 := ⟨k - 1, by omega⟩
    simp only [spec_CodeText.l0]
    by_cases c : (0 : Int) < (l.length : Int)
    · rw [if_pos c, spec_CodeOk_eq k l hl (by omega), h]; simp
    · rw [if_neg c]; simp
theorem impl_CodeText_eq (k : Nat) (l : List S25) (hl : l.length ≤ 2000000) (hk : l.length + 130 < k) : impl_CodeText.f k l = some (codeTextM l) := by
  unfold impl_CodeText.f codeTextM
  rw [impl_CodeOk_eq k l hl (by omega)]; simp only [Option.bind_some]
  cases h : codeM l with
  | true =>
    obtain ⟨hn, _⟩ := codeM_parts h
    rw [if_pos rfl, imT_rounds l h l.length k _ 0 (by omega) (by omega) (by omega) (by show 0 ≤ _; omega)]
    rfl
  | false =>
    rw [if_neg (by decide)]; simp

def S5 (op r a b n : Int) : S25 := ⟨op, r, a, b, n⟩
theorem read_cases (line : ByteArray) (hs : line.size ≤ 1048576) :
    (∃ x : S25, insT x = true ∧ textT x = line ∧ ∀ k, line.size + 2000 ≤ k → spec_InsRead.f k line = some (x.f0, x.f1, x.f2, x.f3, x.f4, true) ∧ impl_InsRead.f k line = some (x.f0, x.f1, x.f2, x.f3, x.f4, true)) ∨
    (∀ k, line.size + 2000 ≤ k → spec_InsRead.f k line = some (0, 0, 0, 0, 0, false) ∧ impl_InsRead.f k line = some (0, 0, 0, 0, 0, false)) := by
  obtain ⟨op, r, a, b, n, e⟩ := spec_read_total line hs (line.size + 1943) (by omega)
  obtain ⟨v, e1, e2⟩ := read_both line hs
  have e0 : spec_InsRead.f (line.size + 2000) line = _ := e
  have up : ∀ k, line.size + 2000 ≤ k → spec_InsRead.f k line = some v ∧ impl_InsRead.f k line = some v := fun k hk =>
    ⟨at_rounds (fun k => spec_InsRead.mono _ k) hk e1, at_rounds (fun k => impl_InsRead.mono _ k) hk e2⟩
  have hv : some v = _ := e1.symm.trans e0
  by_cases hn : line.toList = ([] : List UInt8)
  · rw [if_pos hn] at hv
    obtain rfl := Option.some.inj hv
    exact Or.inr up
  · rw [if_neg hn] at hv
    by_cases c : (textA op r a b n).toList = line.toList
    · rw [if_pos c] at hv
      obtain rfl := Option.some.inj hv
      obtain ⟨hi, ht⟩ := text_ok c hn
      exact Or.inl ⟨S5 op r a b n, hi, ht, up⟩
    · rw [if_neg c] at hv
      obtain rfl := Option.some.inj hv
      exact Or.inr up
theorem idx_nl : ∀ s : List UInt8, (Lib.index s [10] = -1 ∧ (10 : UInt8) ∉ s) ∨ ∃ a b, s = a ++ 10 :: b ∧ (10 : UInt8) ∉ a ∧ Lib.index s [10] = (a.length : Int)
  | [] => Or.inl ⟨rfl, by simp⟩
  | c :: l => by
    unfold Lib.index
    by_cases h : c = 10
    · subst h
      exact Or.inr ⟨[], l, rfl, by simp, by simp [List.isPrefixOf]⟩
    · have hp : ([10] : List UInt8).isPrefixOf (c :: l) = false := by
        simp only [List.isPrefixOf, Bool.and_true]
        exact beq_eq_false_iff_ne.mpr (fun e => h e.symm)
      rw [hp]
      rcases idx_nl l with ⟨e, hn⟩ | ⟨a, b, e, hn, hi⟩
      · refine Or.inl ⟨by rw [e]; rfl, ?_⟩
        intro hm
        rcases List.mem_cons.mp hm with h1 | h1
        · exact h h1.symm
        · exact hn h1
      · refine Or.inr ⟨c :: a, b, by rw [e]; rfl, ?_, ?_⟩
        · intro hm
          rcases List.mem_cons.mp hm with h1 | h1
          · exact h h1.symm
          · exact hn h1
        · have hne : ¬ (Lib.index l [10] == -1) = true := by
            intro e2
            have := beq_iff_eq.mp e2
            omega
          rw [if_neg (by decide), if_neg hne, hi]
          simp
theorem cut_none {s : List UInt8} (e : Lib.index s [10] = -1) : Lib.cut s [10] = (s, [], false) := by
  unfold Lib.cut; rw [e, if_neg (by decide)]
theorem cut_some {s a b : List UInt8} (e : s = a ++ 10 :: b) (hi : Lib.index s [10] = (a.length : Int)) : Lib.cut s [10] = (a, b, true) := by
  unfold Lib.cut
  rw [hi, if_pos (by omega)]
  subst e
  simp [List.drop_append]
def endS (s : ByteArray) (acc : List S25) : List S25 × Bool := if s.toList = ([] : List UInt8) then ([], false) else if (codeTextM acc).toList = s.toList then (acc, true) else ([], false)
theorem scan_end (s : ByteArray) (hs : s.size ≤ 1048576) (acc : List S25) (ha : acc.length ≤ 1048576) (d : Nat) : ∀ (k : Nat) (f i : Int), 0 ≤ i → (s.size : Int) - i = d → acc.length + 130 < k → (10 : UInt8) ∉ s.data.toList.drop i.toNat → spec_CodeRead.l0 (k + 1 + d) s acc f i = some (endS s acc) := by
  induction d with
  | zero =>
    intro k f i h0 hd hk hn
    show spec_CodeRead.l0 (k + 1) s acc f i = _
    simp only [spec_CodeRead.l0]
    rw [if_neg (by omega)]
    unfold endS
    by_cases c : s.toList = ([] : List UInt8)
    · rw [if_pos c, if_pos c]
    · rw [if_neg c, if_neg c, spec_CodeText_eq k acc (by omega) hk]; simp only [Option.bind_some]
      split <;> rfl
  | succ d ih =>
    intro k f i h0 hd hk hn
    obtain ⟨c, hc, hb⟩ := bt_drop s i h0 (by omega)
    rw [hc] at hn
    have h1 : c ≠ 10 := fun e => hn (by simp [e])
    have h2 : ¬ (c.toNat : Int) = 10 := fun e => h1 (UInt8.toNat_inj.mp (show c.toNat = 10 by omega))
    rw [show k + 1 + (d + 1) = (k + 1 + d) + 1 by omega]
    simp only [spec_CodeRead.l0]
    rw [if_pos (by omega), if_pos h0, hb, if_neg h2, show wrap64 (i + 1) = i + 1 from wrap_in (by omega) (by omega)]
    exact ih k f (i + 1) (by omega) (by omega) hk (by rw [show (i + 1).toNat = i.toNat + 1 by omega]; exact fun e => hn (List.mem_cons_of_mem _ e))
theorem scan_line (s : ByteArray) (hs : s.size ≤ 1048576) (acc : List S25) (hacc : acc.length < 3518437208883) (b : List UInt8) : ∀ (a : List UInt8) (k : Nat) (f i : Int), 0 ≤ f → f ≤ i → s.data.toList.drop i.toNat = a ++ 10 :: b → (10 : UInt8) ∉ a →
    spec_CodeRead.l0 (k + 1 + a.length) s acc f i = (spec_InsRead.f k (s.extract f.toNat (i.toNat + a.length))).bind fun bs => (if bs.2.2.2.2.2 = true then (spec_CodeRead.l0 k s (acc ++ [S5 bs.1 bs.2.1 bs.2.2.1 bs.2.2.2.1 bs.2.2.2.2.1]) (i + a.length + 1) (i + a.length + 1)) else (some (([] : List S25), false)))
  | [], k, f, i, h0, hf, e, hn => by
    have hl : s.data.toList.length = s.size := data_length s
    have hlt : i < (s.size : Int) := by
      have := congrArg List.length e
      rw [List.length_drop, hl] at this
      simp at this
      omega
    obtain ⟨c, hc, hb⟩ := bt_drop s i (by omega) hlt
    rw [e] at hc
    have h1 : c = 10 := by simpa using (congrArg List.head? hc).symm
    subst h1
    show spec_CodeRead.l0 (k + 1) s acc f i = _
    simp only [spec_CodeRead.l0]
    rw [if_pos hlt, if_pos (by omega), hb, if_pos (by decide), if_pos h0, if_pos hf, if_pos (by omega), show wrap64 (i + 1) = i + 1 from wrap_in (by omega) (by omega)]
    simp only [List.length_nil, Nat.add_zero, Int.add_zero, Int.natCast_zero, Int.ofNat_zero]
    simp only [if_pos hacc]
    rfl
  | c :: a, k, f, i, h0, hf, e, hn => by
    have hl : s.data.toList.length = s.size := data_length s
    have hlt : i < (s.size : Int) := by
      have := congrArg List.length e
      rw [List.length_drop, hl] at this
      simp at this
      omega
    obtain ⟨c', hc, hb⟩ := bt_drop s i (by omega) hlt
    rw [hc] at e
    obtain ⟨rfl, e2⟩ := List.cons.inj e
    have h1 : c' ≠ 10 := fun e => hn (by simp [e])
    have h2 : ¬ (c'.toNat : Int) = 10 := fun e => h1 (UInt8.toNat_inj.mp (show c'.toNat = 10 by omega))
    rw [show k + 1 + (c' :: a).length = (k + 1 + a.length) + 1 by simp only [List.length_cons]; omega]
    simp only [spec_CodeRead.l0]
    rw [if_pos hlt, if_pos (by omega), hb, if_neg h2, show wrap64 (i + 1) = i + 1 from wrap_in (by omega) (by omega)]
    rw [scan_line s hs acc hacc b a k f (i + 1) h0 (by omega) (by rw [show (i + 1).toNat = i.toNat + 1 by omega]; exact e2) (fun e => hn (List.mem_cons_of_mem _ e))]
    rw [show (i + 1).toNat + a.length = i.toNat + (c' :: a).length by simp only [List.length_cons]; omega, show i + 1 + (a.length : Int) + 1 = i + ((c' :: a).length : Int) + 1 by simp only [List.length_cons]; omega]
theorem lines_snoc : ∀ (acc : List S25) (x : ByteArray) (p : S25), linesM x (acc ++ [p]) = (linesM x acc ++ textT p) ++ (⟨#[10]⟩ : ByteArray)
  | [], x, p => rfl
  | q :: acc, x, p => by
    show linesM ((x ++ textT q) ++ (⟨#[10]⟩ : ByteArray)) (acc ++ [p]) = _
    rw [lines_snoc acc]
    rfl
def linesD (acc : List S25) : List UInt8 := (linesM (⟨#[]⟩ : ByteArray) acc).data.toList
theorem linesD_snoc (acc : List S25) (p : S25) : linesD (acc ++ [p]) = linesD acc ++ ((textT p).data.toList ++ [10]) := by
  unfold linesD
  rw [lines_snoc, app_data, app_data, List.append_assoc]
theorem linesD_len : ∀ (acc : List S25) (x : ByteArray), acc.length + x.size ≤ (linesM x acc).size
  | [], x => by show 0 + x.size ≤ x.size; omega
  | q :: acc, x => by
    have := linesD_len acc ((x ++ textT q) ++ (⟨#[10]⟩ : ByteArray))
    rw [ByteArray.size_append, ByteArray.size_append, one_size] at this
    show (acc.length + 1) + x.size ≤ (linesM ((x ++ textT q) ++ (⟨#[10]⟩ : ByteArray)) acc).size
    omega
theorem end_full (s : ByteArray) (acc : List S25) (hv : acc.all insT = true) (hl : acc.length ≤ 48) (hd : s.data.toList = linesD acc) : endS s acc = (acc, decide ((acc.length : Int) > 0)) := by
  unfold endS
  cases acc with
  | nil =>
    have : s.toList = ([] : List UInt8) := by rw [Lib.toList_data, hd]; rfl
    rw [if_pos this]; rfl
  | cons q acc =>
    have hne : ¬ s.toList = ([] : List UInt8) := by
      rw [Lib.toList_data, hd]
      intro e
      have := linesD_len (q :: acc) (⟨#[]⟩ : ByteArray)
      have h2 := congrArg List.length e
      unfold linesD at h2
      rw [data_length] at h2
      simp only [List.length_cons, List.length_nil] at this h2
      omega
    have hc : codeM (q :: acc) = true := by
      unfold codeM
      rw [hv]
      simp only [Bool.and_true, decide_eq_true_eq]
      exact ⟨by simp, hl⟩
    have ht : (codeTextM (q :: acc)).toList = s.toList := by
      unfold codeTextM
      rw [hc, if_pos rfl, Lib.toList_data, Lib.toList_data, hd]; rfl
    rw [if_neg hne, if_pos ht]
    simp
theorem end_none (s : ByteArray) (acc : List S25) (h : codeM acc = false ∨ s.data.toList ≠ linesD acc) : endS s acc = ([], false) := by
  unfold endS
  by_cases c : s.toList = ([] : List UInt8)
  · rw [if_pos c]
  · rw [if_neg c]
    rw [if_neg]
    intro e
    unfold codeTextM at e
    cases hc : codeM acc with
    | true =>
      rw [hc, if_pos rfl, Lib.toList_data, Lib.toList_data] at e
      rcases h with h | h
      · rw [hc] at h; cases h
      · exact h e.symm
    | false =>
      rw [hc, if_neg (by decide)] at e
      exact c (e.symm.trans nil_list)

theorem B_size (l : List UInt8) : (B l).size = l.length := by rw [← data_length]; rfl
theorem piece (s : ByteArray) (f : Int) (a b : List UInt8) (h0 : 0 ≤ f) (e : s.data.toList.drop f.toNat = a ++ 10 :: b) : s.extract f.toNat (f.toNat + a.length) = B a := by
  rw [← B_of (s.extract f.toNat (f.toNat + a.length)), extract_list, e]
  congr 1
  rw [show f.toNat + a.length - f.toNat = a.length by omega]
  simp
theorem next_drop (s : ByteArray) (f : Int) (a b : List UInt8) (h0 : 0 ≤ f) (e : s.data.toList.drop f.toNat = a ++ 10 :: b) : s.data.toList.drop (f + (a.length : Int) + 1).toNat = b ∧ s.data.toList.take (f + (a.length : Int) + 1).toNat = s.data.toList.take f.toNat ++ (a ++ [10]) ∧ f + (a.length : Int) + 1 ≤ (s.size : Int) := by
  have e1 : (f + (a.length : Int) + 1).toNat = f.toNat + (a.length + 1) := by omega
  have hl : s.data.toList.length = s.size := data_length s
  have hlen := congrArg List.length e
  rw [List.length_drop, hl] at hlen
  simp only [List.length_append, List.length_cons] at hlen
  refine ⟨?_, ?_, by omega⟩
  · rw [e1, ← List.drop_drop, e]; simp [List.drop_append]
  · rw [e1, List.take_add, e]
    rw [show a ++ 10 :: b = (a ++ [10]) ++ b by simp, List.take_left' (by simp)]
theorem specUp {N k : Nat} {s : ByteArray} {acc : List S25} {f i : Int} {r : List S25 × Bool} (hk : N ≤ k) (h : spec_CodeRead.l0 N s acc f i = some r) : spec_CodeRead.l0 k s acc f i = some r := at_rounds (fun k => (spec_CodeRead.mono_l k) s acc f i) hk h
theorem implUp {N k : Nat} {acc : List S25} {x : ByteArray} {r : List S25 × Bool} (hk : N ≤ k) (h : impl_CodeRead.l0 N acc x = some r) : impl_CodeRead.l0 k acc x = some r := at_rounds (fun k => (impl_CodeRead.mono_l k) acc x) hk h
theorem over48 (s : ByteArray) (hs : s.size ≤ 1048576) (n : Nat) : ∀ (acc : List S25) (f : Int), 0 ≤ f → f ≤ (s.size : Int) → (s.data.toList.drop f.toNat).length ≤ n → 49 ≤ acc.length → (acc.length : Int) ≤ f → ∃ N, spec_CodeRead.l0 N s acc f f = some ([], false) := by
  induction n with
  | zero =>
    intro acc f h0 h1 hn h49 hf
    have hl : s.data.toList.length = s.size := data_length s
    have hR : s.data.toList.drop f.toNat = [] := List.length_eq_zero_iff.mp (by omega)
    have hc : codeM acc = false := by unfold codeM; rw [show decide (1 ≤ acc.length ∧ acc.length ≤ 48) = false from decide_eq_false (by omega)]; rfl
    refine ⟨_, (scan_end s hs acc (by omega) (s.size - f.toNat) (acc.length + 131) f f h0 (by omega) (by omega) (by rw [hR]; simp)).trans ?_⟩
    rw [end_none s acc (Or.inl hc)]
  | succ n ih =>
    intro acc f h0 h1 hn h49 hf
    have hc : codeM acc = false := by unfold codeM; rw [show decide (1 ≤ acc.length ∧ acc.length ≤ 48) = false from decide_eq_false (by omega)]; rfl
    rcases idx_nl (s.data.toList.drop f.toNat) with ⟨_, hno⟩ | ⟨a, b, e, hno, _⟩
    · refine ⟨_, (scan_end s hs acc (by omega) (s.size - f.toNat) (acc.length + 131) f f h0 (by omega) (by omega) hno).trans ?_⟩
      rw [end_none s acc (Or.inl hc)]
    · obtain ⟨d1, d2, d3⟩ := next_drop s f a b h0 e
      have hp := piece s f a b h0 e
      have hsz : (B a).size ≤ 1048576 := by rw [B_size]; omega
      rcases read_cases (B a) hsz with ⟨x, hx, ht, hr⟩ | hr
      · obtain ⟨N, hN⟩ := ih (acc ++ [x]) (f + (a.length : Int) + 1) (by omega) d3 (by rw [d1]; have := congrArg List.length e; simp only [List.length_append, List.length_cons] at this; omega) (by simp; omega) (by simp; omega)
        refine ⟨(N + (B a).size + 2000) + 1 + a.length, ?_⟩
        rw [scan_line s hs acc (by omega) b a (N + (B a).size + 2000) f f h0 (Int.le_refl _) e hno, hp, (hr _ (by omega)).1]
        exact specUp (by omega) hN
      · refine ⟨((B a).size + 2000) + 1 + a.length, ?_⟩
        rw [scan_line s hs acc (by omega) b a ((B a).size + 2000) f f h0 (Int.le_refl _) e hno, hp, (hr _ (by omega)).1]
        rfl
theorem cut_B (R : List UInt8) (hs : R.length ≤ 1048576) : strings_Cut.f (B R) (⟨#[10]⟩ : ByteArray) = some (B (Lib.cut R [10]).1, B (Lib.cut R [10]).2.1, (Lib.cut R [10]).2.2) := by
  unfold strings_Cut.f
  rw [if_pos (by rw [B_size]; omega)]
  rfl
theorem code_both (s : ByteArray) (hs : s.size ≤ 1048576) (n : Nat) : ∀ (acc : List S25) (f : Int), 0 ≤ f → f ≤ (s.size : Int) → (s.data.toList.drop f.toNat).length ≤ n → acc.all insT = true → acc.length ≤ 48 → (acc.length : Int) ≤ f → s.data.toList.take f.toNat = linesD acc →
    ∃ N r, spec_CodeRead.l0 N s acc f f = some r ∧ impl_CodeRead.l0 N acc (B (s.data.toList.drop f.toNat)) = some r ∧ (r.1.length ≤ 48) := by
  have hl : s.data.toList.length = s.size := data_length s
  have base : ∀ (acc : List S25) (f : Int), 0 ≤ f → f ≤ (s.size : Int) → acc.all insT = true → acc.length ≤ 48 → s.data.toList.take f.toNat = linesD acc → s.data.toList.drop f.toNat = [] → ∃ N r, spec_CodeRead.l0 N s acc f f = some r ∧ impl_CodeRead.l0 N acc (B (s.data.toList.drop f.toNat)) = some r ∧ (r.1.length ≤ 48) := by
    intro acc f h0 h1 hv h48 hd hR
    have hfull : s.data.toList = linesD acc := by rw [← hd]; have := List.take_append_drop f.toNat s.data.toList; rw [hR, List.append_nil] at this; exact this.symm
    refine ⟨(acc.length + 131) + 1 + (s.size - f.toNat), (acc, decide ((acc.length : Int) > 0)), ?_, ?_, h48⟩
    · rw [scan_end s hs acc (by omega) (s.size - f.toNat) (acc.length + 131) f f h0 (by omega) (by omega) (by rw [hR]; simp), end_full s acc hv h48 hfull]
    · rw [hR, show (acc.length + 131) + 1 + (s.size - f.toNat) = (acc.length + 131 + (s.size - f.toNat)) + 1 by omega]
      simp only [impl_CodeRead.l0]
      rw [if_pos (show (B []).toList = ([] : List UInt8) from nil_list)]
  induction n with
  | zero =>
    intro acc f h0 h1 hn hv h48 hf hd
    exact base acc f h0 h1 hv h48 hd (List.length_eq_zero_iff.mp (by omega))
  | succ n ih =>
    intro acc f h0 h1 hn hv h48 hf hd
    by_cases hR : s.data.toList.drop f.toNat = []
    · exact base acc f h0 h1 hv h48 hd hR
    have hRl : (s.data.toList.drop f.toNat).length ≤ 1048576 := by rw [List.length_drop, hl]; omega
    have hne : ¬ (B (s.data.toList.drop f.toNat)).toList = ([] : List UInt8) := by rw [Lib.toList_data]; exact hR
    have hRz : (B (s.data.toList.drop f.toNat)).size ≤ 1048576 := by rw [B_size]; exact hRl
    rcases idx_nl (s.data.toList.drop f.toNat) with ⟨hi, hno⟩ | ⟨a, b, e, hno, hi⟩
    · have hE : endS s acc = ([], false) := by
        refine end_none s acc (Or.inr ?_)
        rw [← hd]
        intro h
        have h2 := congrArg List.length h
        rw [List.length_take, hl] at h2
        have h3 : (s.data.toList.drop f.toNat).length = 0 := by rw [List.length_drop, hl]; omega
        exact hR (List.length_eq_zero_iff.mp h3)
      refine ⟨(acc.length + (B (s.data.toList.drop f.toNat)).size + 2131) + 1 + (s.size - f.toNat), ([], false), ?_, ?_, by simp⟩
      · rw [scan_end s hs acc (by omega) (s.size - f.toNat) _ f f h0 (by omega) (by omega) hno, hE]
      · rw [show (acc.length + (B (s.data.toList.drop f.toNat)).size + 2131) + 1 + (s.size - f.toNat) = (acc.length + (B (s.data.toList.drop f.toNat)).size + 2131 + (s.size - f.toNat)) + 1 by omega]
        simp only [impl_CodeRead.l0]
        rw [if_neg hne, cut_B _ hRl, cut_none hi]; simp only [Option.bind_some]
        rcases read_cases (B (s.data.toList.drop f.toNat)) hRz with ⟨x, _, _, hr⟩ | hr
        · rw [(hr _ (by omega)).2]; simp
        · rw [(hr _ (by omega)).2]; simp
    · obtain ⟨d1, d2, d3⟩ := next_drop s f a b h0 e
      have hp := piece s f a b h0 e
      have hsz : (B a).size ≤ 1048576 := by rw [B_size]; omega
      have hcut := cut_some e hi
      rcases read_cases (B a) hsz with ⟨x, hx, ht, hr⟩ | hr
      · by_cases c48 : acc.length = 48
        · obtain ⟨N, hN⟩ := over48 s hs (s.data.toList.length) (acc ++ [x]) (f + (a.length : Int) + 1) (by omega) d3 (by rw [List.length_drop]; omega) (by simp; omega) (by simp; omega)
          refine ⟨(N + (B a).size + 2000) + 1 + a.length, ([], false), ?_, ?_, by simp⟩
          · rw [scan_line s hs acc (by omega) b a (N + (B a).size + 2000) f f h0 (Int.le_refl _) e hno, hp, (hr _ (by omega)).1]
            exact specUp (by omega) hN
          · rw [show (N + (B a).size + 2000) + 1 + a.length = (N + (B a).size + 2000 + a.length) + 1 by omega]
            simp only [impl_CodeRead.l0]
            rw [if_neg hne, cut_B _ hRl, hcut]; simp only [Option.bind_some]
            rw [(hr _ (by omega)).2]; simp only [Option.bind_some, if_true]
            rw [if_pos (by omega)]
        · obtain ⟨N, r, e1, e2, h3⟩ := ih (acc ++ [x]) (f + (a.length : Int) + 1) (by omega) d3 (by rw [d1]; have := congrArg List.length e; simp only [List.length_append, List.length_cons] at this; omega) (by simp [hv, hx]) (by simp; omega) (by simp; omega) (by rw [d2, hd, linesD_snoc, ht, B_data])
          refine ⟨(N + (B a).size + 2000) + 1 + a.length, r, ?_, ?_, h3⟩
          · rw [scan_line s hs acc (by omega) b a (N + (B a).size + 2000) f f h0 (Int.le_refl _) e hno, hp, (hr _ (by omega)).1]
            exact specUp (by omega) e1
          · rw [show (N + (B a).size + 2000) + 1 + a.length = (N + (B a).size + 2000 + a.length) + 1 by omega]
            simp only [impl_CodeRead.l0]
            rw [if_neg hne, cut_B _ hRl, hcut]; simp only [Option.bind_some]
            rw [(hr _ (by omega)).2]; simp only [Option.bind_some, if_true]
            rw [if_neg (by omega), if_pos (by omega)]
            rw [d1] at e2
            exact implUp (by omega) e2
      · refine ⟨((B a).size + 2000) + 1 + a.length, ([], false), ?_, ?_, by simp⟩
        · rw [scan_line s hs acc (by omega) b a ((B a).size + 2000) f f h0 (Int.le_refl _) e hno, hp, (hr _ (by omega)).1]
          rfl
        · rw [show ((B a).size + 2000) + 1 + a.length = ((B a).size + 2000 + a.length) + 1 by omega]
          simp only [impl_CodeRead.l0]
          rw [if_neg hne, cut_B _ hRl, hcut]; simp only [Option.bind_some]
          rw [(hr _ (by omega)).2]; simp

def GoodR (s : ByteArray) (r : List S25 × Bool) : Prop := (r.2 = false → r.1 = []) ∧ (r.2 = true → codeM r.1 = true ∧ codeTextM r.1 = s)
theorem good_none (s : ByteArray) : GoodR s ([], false) := ⟨fun _ => rfl, fun h => Bool.noConfusion h⟩
theorem good_full (s : ByteArray) (acc : List S25) (hv : acc.all insT = true) (h48 : acc.length ≤ 48) (hd : s.data.toList = linesD acc) : GoodR s (acc, decide ((acc.length : Int) > 0)) := by
  constructor
  · intro h
    have h1 : ¬ (acc.length : Int) > 0 := of_decide_eq_false h
    have h2 : acc.length = 0 := by omega
    exact List.length_eq_zero_iff.mp h2
  · intro h
    have h1 : (acc.length : Int) > 0 := of_decide_eq_true h
    have hc : codeM acc = true := by
      unfold codeM
      rw [hv, show decide (1 ≤ acc.length ∧ acc.length ≤ 48) = true from decide_eq_true (by omega)]; rfl
    refine ⟨hc, ?_⟩
    show codeTextM acc = s
    unfold codeTextM
    rw [if_pos hc, ← B_of s, hd]; rfl
theorem code_both2 (s : ByteArray) (hs : s.size ≤ 1048576) (n : Nat) : ∀ (acc : List S25) (f : Int), 0 ≤ f → f ≤ (s.size : Int) → (s.data.toList.drop f.toNat).length ≤ n → acc.all insT = true → acc.length ≤ 48 → (acc.length : Int) ≤ f → s.data.toList.take f.toNat = linesD acc →
    ∃ N r, spec_CodeRead.l0 N s acc f f = some r ∧ impl_CodeRead.l0 N acc (B (s.data.toList.drop f.toNat)) = some r ∧ (r.1.length ≤ 48) ∧ GoodR s r := by
  have hl : s.data.toList.length = s.size := data_length s
  have base : ∀ (acc : List S25) (f : Int), 0 ≤ f → f ≤ (s.size : Int) → acc.all insT = true → acc.length ≤ 48 → s.data.toList.take f.toNat = linesD acc → s.data.toList.drop f.toNat = [] → ∃ N r, spec_CodeRead.l0 N s acc f f = some r ∧ impl_CodeRead.l0 N acc (B (s.data.toList.drop f.toNat)) = some r ∧ (r.1.length ≤ 48) ∧ GoodR s r := by
    intro acc f h0 h1 hv h48 hd hR
    have hfull : s.data.toList = linesD acc := by rw [← hd]; have := List.take_append_drop f.toNat s.data.toList; rw [hR, List.append_nil] at this; exact this.symm
    refine ⟨(acc.length + 131) + 1 + (s.size - f.toNat), (acc, decide ((acc.length : Int) > 0)), ?_, ?_, h48, good_full s acc hv h48 hfull⟩
    · rw [scan_end s hs acc (by omega) (s.size - f.toNat) (acc.length + 131) f f h0 (by omega) (by omega) (by rw [hR]; simp), end_full s acc hv h48 hfull]
    · rw [hR, show (acc.length + 131) + 1 + (s.size - f.toNat) = (acc.length + 131 + (s.size - f.toNat)) + 1 by omega]
      simp only [impl_CodeRead.l0]
      rw [if_pos (show (B []).toList = ([] : List UInt8) from nil_list)]
  induction n with
  | zero =>
    intro acc f h0 h1 hn hv h48 hf hd
    exact base acc f h0 h1 hv h48 hd (List.length_eq_zero_iff.mp (by omega))
  | succ n ih =>
    intro acc f h0 h1 hn hv h48 hf hd
    by_cases hR : s.data.toList.drop f.toNat = []
    · exact base acc f h0 h1 hv h48 hd hR
    have hRl : (s.data.toList.drop f.toNat).length ≤ 1048576 := by rw [List.length_drop, hl]; omega
    have hne : ¬ (B (s.data.toList.drop f.toNat)).toList = ([] : List UInt8) := by rw [Lib.toList_data]; exact hR
    have hRz : (B (s.data.toList.drop f.toNat)).size ≤ 1048576 := by rw [B_size]; exact hRl
    rcases idx_nl (s.data.toList.drop f.toNat) with ⟨hi, hno⟩ | ⟨a, b, e, hno, hi⟩
    · have hE : endS s acc = ([], false) := by
        refine end_none s acc (Or.inr ?_)
        rw [← hd]
        intro h
        have h2 := congrArg List.length h
        rw [List.length_take, hl] at h2
        have h3 : (s.data.toList.drop f.toNat).length = 0 := by rw [List.length_drop, hl]; omega
        exact hR (List.length_eq_zero_iff.mp h3)
      refine ⟨(acc.length + (B (s.data.toList.drop f.toNat)).size + 2131) + 1 + (s.size - f.toNat), ([], false), ?_, ?_, by simp, good_none s⟩
      · rw [scan_end s hs acc (by omega) (s.size - f.toNat) _ f f h0 (by omega) (by omega) hno, hE]
      · rw [show (acc.length + (B (s.data.toList.drop f.toNat)).size + 2131) + 1 + (s.size - f.toNat) = (acc.length + (B (s.data.toList.drop f.toNat)).size + 2131 + (s.size - f.toNat)) + 1 by omega]
        simp only [impl_CodeRead.l0]
        rw [if_neg hne, cut_B _ hRl, cut_none hi]; simp only [Option.bind_some]
        rcases read_cases (B (s.data.toList.drop f.toNat)) hRz with ⟨x, _, _, hr⟩ | hr
        · rw [(hr _ (by omega)).2]; simp
        · rw [(hr _ (by omega)).2]; simp
    · obtain ⟨d1, d2, d3⟩ := next_drop s f a b h0 e
      have hp := piece s f a b h0 e
      have hsz : (B a).size ≤ 1048576 := by rw [B_size]; omega
      have hcut := cut_some e hi
      rcases read_cases (B a) hsz with ⟨x, hx, ht, hr⟩ | hr
      · by_cases c48 : acc.length = 48
        · obtain ⟨N, hN⟩ := over48 s hs (s.data.toList.length) (acc ++ [x]) (f + (a.length : Int) + 1) (by omega) d3 (by rw [List.length_drop]; omega) (by simp; omega) (by simp; omega)
          refine ⟨(N + (B a).size + 2000) + 1 + a.length, ([], false), ?_, ?_, by simp, good_none s⟩
          · rw [scan_line s hs acc (by omega) b a (N + (B a).size + 2000) f f h0 (Int.le_refl _) e hno, hp, (hr _ (by omega)).1]
            exact specUp (by omega) hN
          · rw [show (N + (B a).size + 2000) + 1 + a.length = (N + (B a).size + 2000 + a.length) + 1 by omega]
            simp only [impl_CodeRead.l0]
            rw [if_neg hne, cut_B _ hRl, hcut]; simp only [Option.bind_some]
            rw [(hr _ (by omega)).2]; simp only [Option.bind_some, if_true]
            rw [if_pos (by omega)]
        · obtain ⟨N, r, e1, e2, h3⟩ := ih (acc ++ [x]) (f + (a.length : Int) + 1) (by omega) d3 (by rw [d1]; have := congrArg List.length e; simp only [List.length_append, List.length_cons] at this; omega) (by simp [hv, hx]) (by simp; omega) (by simp; omega) (by rw [d2, hd, linesD_snoc, ht, B_data])
          refine ⟨(N + (B a).size + 2000) + 1 + a.length, r, ?_, ?_, h3⟩
          · rw [scan_line s hs acc (by omega) b a (N + (B a).size + 2000) f f h0 (Int.le_refl _) e hno, hp, (hr _ (by omega)).1]
            exact specUp (by omega) e1
          · rw [show (N + (B a).size + 2000) + 1 + a.length = (N + (B a).size + 2000 + a.length) + 1 by omega]
            simp only [impl_CodeRead.l0]
            rw [if_neg hne, cut_B _ hRl, hcut]; simp only [Option.bind_some]
            rw [(hr _ (by omega)).2]; simp only [Option.bind_some, if_true]
            rw [if_neg (by omega), if_pos (by omega)]
            rw [d1] at e2
            exact implUp (by omega) e2
      · refine ⟨((B a).size + 2000) + 1 + a.length, ([], false), ?_, ?_, by simp, good_none s⟩
        · rw [scan_line s hs acc (by omega) b a ((B a).size + 2000) f f h0 (Int.le_refl _) e hno, hp, (hr _ (by omega)).1]
          rfl
        · rw [show ((B a).size + 2000) + 1 + a.length = ((B a).size + 2000 + a.length) + 1 by omega]
          simp only [impl_CodeRead.l0]
          rw [if_neg hne, cut_B _ hRl, hcut]; simp only [Option.bind_some]
          rw [(hr _ (by omega)).2]; simp

theorem dig_nl_all : (List.range 256).all (fun m => !((digM ((m : Int) - 128)).data.toList.contains 10)) = true := by decide +kernel
theorem dig_nl (n : Int) (h1 : -128 ≤ n) (h2 : n ≤ 127) : (10 : UInt8) ∉ Lib.itoa n := by
  have h := List.all_eq_true.mp dig_nl_all (n + 128).toNat (List.mem_range.mpr (by omega))
  rw [show (((n + 128).toNat : Nat) : Int) - 128 = n by omega] at h
  rw [itoa_list n h1 h2]
  intro hm
  have : (digM n).data.toList.contains 10 = true := by simpa using hm
  rw [this] at h
  cases h
theorem name_nl (op : Int) (h1 : 1 ≤ op) (h2 : op ≤ 15) : (10 : UInt8) ∉ nameM op := by
  rcases op_cases op with rfl | rfl | rfl | rfl | rfl | rfl | rfl | rfl | rfl | rfl | rfl | rfl | rfl | rfl | rfl | h
  all_goals first | exact absurd ⟨h1, h2⟩ h | decide
theorem tok_nl (v : Int) (h : -128 ≤ v ∧ v ≤ 127) : (10 : UInt8) ∉ tokR v := by
  intro hm
  rcases List.mem_cons.mp hm with h1 | h1
  · exact absurd h1 (by decide)
  · exact dig_nl v h.1 h.2 h1
theorem join_nl : ∀ ts : List (List UInt8), (∀ t ∈ ts, (10 : UInt8) ∉ t) → (10 : UInt8) ∉ joinL ts
  | [], _ => by intro h; cases h
  | [w], h => h w (by simp)
  | w :: x :: ws, h => by
    show (10 : UInt8) ∉ w ++ 32 :: joinL (x :: ws)
    intro hm
    rcases List.mem_append.mp hm with h1 | h1
    · exact h w (by simp) h1
    · rcases List.mem_cons.mp h1 with h2 | h2
      · exact absurd h2 (by decide)
      · exact join_nl (x :: ws) (fun t ht => h t (List.mem_cons_of_mem _ ht)) h2
theorem text_nl {op r a b n : Int} (h : insM op r a b n = true) : (10 : UInt8) ∉ (textM op r a b n).data.toList := by
  obtain ⟨ho, hr, ha, hb, hn⟩ := insM_parts h
  rw [text_join]
  refine join_nl _ ?_
  intro w hw
  unfold tokens at hw
  simp only [List.mem_cons, List.mem_append] at hw
  have one : ∀ (c : Bool) (t : List UInt8), w ∈ (if c then [t] else []) → w = t := by
    intro c t hm
    cases c with
    | true => simpa using hm
    | false => simp at hm
  rcases hw with e | e | e | e | e
  · rw [e]; exact name_nl op ho.1 ho.2
  · rw [one _ _ e]; exact tok_nl r hr
  · rw [one _ _ e]; exact tok_nl a ha
  · rw [one _ _ e]; exact tok_nl b hb
  · rw [one _ _ e]; exact dig_nl n hn.1 hn.2

theorem linesD_cons (p : S25) (l : List S25) : linesD (p :: l) = (textT p).data.toList ++ 10 :: linesD l := by
  have gen : ∀ (acc : List S25) (x : ByteArray), (linesM x acc).data.toList = x.data.toList ++ linesD acc := by
    intro acc
    induction acc with
    | nil => intro x; show x.data.toList = x.data.toList ++ []; simp
    | cons q acc ih =>
      intro x
      show (linesM ((x ++ textT q) ++ (⟨#[10]⟩ : ByteArray)) acc).data.toList = x.data.toList ++ (linesM (((⟨#[]⟩ : ByteArray) ++ textT q) ++ (⟨#[10]⟩ : ByteArray)) acc).data.toList
      rw [ih, ih, app_data, app_data, app_data, app_data]
      simp
  show (linesM (((⟨#[]⟩ : ByteArray) ++ textT p) ++ (⟨#[10]⟩ : ByteArray)) l).data.toList = _
  rw [gen, app_data, app_data]
  simp
theorem idx_first {a b : List UInt8} (h : (10 : UInt8) ∉ a) : Lib.index (a ++ 10 :: b) [10] = (a.length : Int) := by
  rcases idx_nl (a ++ 10 :: b) with ⟨_, hno⟩ | ⟨a', b', e, hno, hi⟩
  · exact absurd (by simp) hno
  · have : a' = a := by
      have t1 := congrArg (List.takeWhile (fun c => c != 10)) e
      have tw : ∀ (u v : List UInt8), (10 : UInt8) ∉ u → (u ++ 10 :: v).takeWhile (fun c => c != 10) = u := by
        intro u v hu
        induction u with
        | nil => simp
        | cons c u ih =>
          have hc : c ≠ 10 := fun e => hu (by simp [e])
          have h2 : (c != 10) = true := by simpa using hc
          rw [List.cons_append, List.takeWhile_cons, if_pos h2, ih (fun hm => hu (List.mem_cons_of_mem _ hm))]
      rw [tw a b h, tw a' b' hno] at t1
      exact t1.symm
    rw [hi, this]
theorem code_back (l : List S25) : ∀ (acc : List S25) (k : Nat), l.length + 60 ≤ k → l.all insT = true → acc.length + l.length ≤ 48 → (linesD l).length ≤ 1048576 → impl_CodeRead.l0 k acc (B (linesD l)) = some (acc ++ l, decide (((acc ++ l).length : Int) > 0)) := by
  induction l with
  | nil =>
    intro acc k hk _ _ _
    obtain ⟨k, rfl⟩ : ∃ m, k = m + 1 := ⟨k - 1, by omega⟩
    show impl_CodeRead.l0 (k + 1) acc (B []) = _
    simp only [impl_CodeRead.l0]
    rw [if_pos (show (B []).toList = ([] : List UInt8) from nil_list), List.append_nil]
  | cons p l ih =>
    intro acc k hk hv h48 hz
    have hp : insT p = true := by simp at hv; exact hv.1
    have hl : l.all insT = true := by simp at hv ⊢; exact hv.2
    have e := linesD_cons p l
    have hne : ¬ (B (linesD (p :: l))).toList = ([] : List UInt8) := by rw [Lib.toList_data, B_data, e]; simp
    have hcut := cut_some e (by rw [e]; exact idx_first (text_nl hp))
    have hlen : (p :: l).length = l.length + 1 := rfl
    obtain ⟨k, rfl⟩ : ∃ m, k = m + 40 + 1 := ⟨k - 41, by omega⟩
    have hr : impl_InsRead.f (k + 40) (B (textT p).data.toList) = some (p.f0, p.f1, p.f2, p.f3, p.f4, true) := impl_read_back k p.f0 p.f1 p.f2 p.f3 p.f4 hp
    have hz2 : (linesD l).length ≤ 1048576 := by rw [e] at hz; simp only [List.length_append, List.length_cons] at hz; omega
    have h1 : acc.length + 1 + l.length ≤ 48 := by omega
    have hk2 : l.length + 60 ≤ k + 40 := by omega
    clear hk
    revert hr hk2
    generalize k + 40 = m
    intro hr hk2
    simp only [impl_CodeRead.l0]
    rw [if_neg hne, cut_B _ hz, hcut]; simp only [Option.bind_some]
    rw [hr]; simp only [Option.bind_some, if_true]
    rw [if_neg (by omega), if_pos (by omega)]
    refine (ih (acc ++ [p]) m hk2 hl (by simp; omega) hz2).trans ?_
    simp

theorem pickB_T (s : List Int) (i h : Int) (l : List ByteArray) (c : Nat) (hs : s.length ≤ maxLen) (h0 : 0 ≤ i) (hl : 0 < (l.length : Int)) (hc : ∀ j : Int, 0 ≤ j → j < (l.length : Int) → (rdOf ByteArray.empty l j).size ≤ c) : Tells (spec_l1Pick.f s i h l) (fun r => 0 ≤ r.2.1 ∧ r.1.size ≤ c) := by
  unfold spec_l1Pick.f
  refine Tells.bind (below_T _ _ _ _ hs h0 hl) (fun r p => ?_)
  rw [if_pos p.2.1, if_pos p.2.2]
  exact Tells.some ⟨p.1, hc _ p.2.1 p.2.2⟩
theorem seven_size : ∀ j : Int, 0 ≤ j → j < 7 → (rdOf ByteArray.empty ([(⟨#[32]⟩ : ByteArray), (⟨#[48]⟩ : ByteArray), (⟨#[45]⟩ : ByteArray), (⟨#[114]⟩ : ByteArray), (⟨#[57]⟩ : ByteArray), (⟨#[10]⟩ : ByteArray), (⟨#[120]⟩ : ByteArray)] : List ByteArray) j).size ≤ 1 := by
  intro j h0 h1
  obtain rfl | rfl | rfl | rfl | rfl | rfl | rfl : j = 0 ∨ j = 1 ∨ j = 2 ∨ j = 3 ∨ j = 4 ∨ j = 5 ∨ j = 6 := by omega
  all_goals exact Nat.le_refl 1
theorem ext_size (a : ByteArray) (x y : Nat) : (a.extract x y).size ≤ a.size := by
  rw [ByteArray.size_extract]; omega
theorem dent_T (s : List Int) (i h : Int) (a : ByteArray) (hs : s.length ≤ maxLen) (h0 : 0 ≤ i) (ha : a.size ≤ 100000) : Tells (spec_l7Dent.f s i h a) (fun r => r.1.size ≤ a.size + 1) := by
  unfold spec_l7Dent.f
  rw [show wrap64 ((a.size : Int) + 1) = (a.size : Int) + 1 from wrap_in (by omega) (by omega)]
  refine Tells.bind (below_T _ _ _ _ hs h0 (by omega)) (fun r p => ?_)
  refine Tells.bind (below_T _ _ _ _ hs p.1 (by omega)) (fun r2 p2 => ?_)
  refine Tells.ite (fun _ => ?_) (fun _ => Tells.ite (fun _ => ?_) (fun _ => Tells.some ?_))
  · rw [if_pos p.2.1, if_pos (by omega)]
    refine Tells.some ?_
    have := ext_size a 0 r.1.toNat
    show (a.extract 0 r.1.toNat).size ≤ a.size + 1
    omega
  · rw [if_pos p.2.1, if_pos (by omega)]
    refine Tells.bind (pickB_T s _ _ _ 1 hs p2.1 (by decide) seven_size) (fun r3 p3 => ?_)
    have e1 : (a.extract 0 r.1.toNat).size = r.1.toNat := by rw [ByteArray.size_extract]; omega
    have e2 : (a.extract r.1.toNat a.size).size = a.size - r.1.toNat := by rw [ByteArray.size_extract]; omega
    have e3 : ((a.extract 0 r.1.toNat) ++ r3.1).size = r.1.toNat + r3.1.size := by rw [ByteArray.size_append, e1]
    have p3' := p3.2
    rw [if_pos (by rw [e1]; omega), if_pos (by rw [e3, e2]; omega)]
    refine Tells.some ?_
    show (((a.extract 0 r.1.toNat) ++ r3.1) ++ (a.extract r.1.toNat a.size)).size ≤ a.size + 1
    rw [ByteArray.size_append, e3, e2]; omega
  · show a.size ≤ a.size + 1
    omega
theorem textA_size (op r a b n : Int) : (textA op r a b n).size ≤ 29 := by
  unfold textA
  cases h : insM op r a b n with
  | true => rw [if_pos rfl]; exact textM_size h
  | false => rw [if_neg (by decide)]; exact Nat.zero_le _
theorem linesM_size : ∀ (l : List S25) (x : ByteArray) (c : Nat), l.all insT = true → x.size ≤ c → (linesM x l).size ≤ c + 30 * l.length
  | [], x, c, _, hx => by show x.size ≤ c + 0; omega
  | p :: l, x, c, h, hx => by
    have hp : insT p = true := by simp at h; exact h.1
    have hl : l.all insT = true := by simp at h ⊢; exact h.2
    have := linesM_size l _ (c + 30) hl (line_size hx hp)
    show (linesM ((x ++ textT p) ++ (⟨#[10]⟩ : ByteArray)) l).size ≤ _
    simp only [List.length_cons]; omega
theorem codeText_size (l : List S25) : (codeTextM l).size ≤ 1440 := by
  unfold codeTextM
  cases h : codeM l with
  | false => rw [if_neg (by decide)]; exact Nat.zero_le _
  | true =>
    rw [if_pos rfl]
    obtain ⟨h1, h2⟩ := codeM_parts h
    have := linesM_size l (⟨#[]⟩ : ByteArray) 0 h2 (Nat.le_refl 0)
    omega
theorem specA (k : Nat) (hk : 24 ≤ k) (op r a b n : Int) : spec_InsText.f k op r a b n = some (textA op r a b n) := by
  obtain ⟨k, rfl⟩ : ∃ m, k = m + 24 := ⟨k - 24, by omega⟩
  exact spec_text_any k op r a b n
theorem implA (k : Nat) (hk : 24 ≤ k) (op r a b n : Int) : impl_InsText.f k op r a b n = some (textA op r a b n) := by
  obtain ⟨k, rfl⟩ : ∃ m, k = m + 24 := ⟨k - 24, by omega⟩
  exact impl_text_any k op r a b n
theorem dline_T (k : Nat) (l : List Int) (hs : l.length ≤ maxLen) : Tells (spec_DrawInsRead.f (k + 4001) l) (fun r => r.size ≤ 30) := by
  unfold spec_DrawInsRead.f
  refine Tells.bind (new_T _ _ (by omega) hs) (fun r hr => ?_)
  refine Tells.bind (ins_T (k + 3999) _ _ _ hr.1 hr.2) (fun r1 p1 => ?_)
  refine Tells.bind (⟨_, specA _ (by omega) _ _ _ _ _, textA_size _ _ _ _ _⟩ : Tells _ (fun v : ByteArray => v.size ≤ 29)) (fun v hz => ?_)
  refine Tells.bind (dent_T _ _ _ _ hr.1 p1 (by omega)) (fun r2 p2 => Tells.some ?_)
  omega
theorem dtext_T (k : Nat) (l : List Int) (hs : l.length ≤ maxLen) : Tells (spec_DrawCodeRead.f (k + 4001) l) (fun r => r.size ≤ 1441) := by
  unfold spec_DrawCodeRead.f
  refine Tells.bind (new_T _ _ (by omega) hs) (fun r hr => ?_)
  refine Tells.bind (code_T (k + 3971) _ _ _ hr.1 hr.2) (fun r1 p1 => ?_)
  have hl := p1.2.1
  refine Tells.bind (⟨_, spec_CodeText_eq _ _ (by omega) (by omega), codeText_size _⟩ : Tells _ (fun v : ByteArray => v.size ≤ 1440)) (fun v hz => ?_)
  refine Tells.bind (dent_T _ _ _ _ hr.1 p1.2.2 (by omega)) (fun r2 p2 => Tells.some ?_)
  omega
theorem name_ne (op : Int) (h1 : 1 ≤ op) (h2 : op ≤ 15) : nameM op ≠ [] := by
  rcases op_cases op with rfl | rfl | rfl | rfl | rfl | rfl | rfl | rfl | rfl | rfl | rfl | rfl | rfl | rfl | rfl | h
  all_goals first | exact absurd ⟨h1, h2⟩ h | decide
theorem join_ne (w : List UInt8) (ws : List (List UInt8)) (h : w ≠ []) : joinL (w :: ws) ≠ [] := by
  cases ws with
  | nil => exact h
  | cons x ws => show w ++ 32 :: joinL (x :: ws) ≠ []; simp
theorem textA_ne (op r a b n : Int) : ((textA op r a b n).toList != ([] : List UInt8)) = insM op r a b n := by
  unfold textA
  cases h : insM op r a b n with
  | false => rw [if_neg (by decide), nil_list]; rfl
  | true =>
    obtain ⟨ho, _⟩ := insM_parts h
    rw [if_pos rfl, Lib.toList_data, text_join]
    exact bne_iff_ne.mpr (join_ne _ _ (name_ne op ho.1 ho.2))
theorem codeText_ne (l : List S25) : ((codeTextM l).toList != ([] : List UInt8)) = codeM l := by
  unfold codeTextM
  cases h : codeM l with
  | false => rw [if_neg (by decide), nil_list]; rfl
  | true =>
    rw [if_pos rfl, Lib.toList_data]
    obtain ⟨h1, _⟩ := codeM_parts h
    cases l with
    | nil => simp at h1
    | cons p l => exact bne_iff_ne.mpr (by rw [show (linesM (⟨#[]⟩ : ByteArray) (p :: l)).data.toList = linesD (p :: l) from rfl, linesD_cons]; simp)

theorem sameIns_rounds (l : List S25) (hl : l.length ≤ 2000000) (d : Nat) : ∀ (k : Nat) (i : Int), 0 ≤ i → (l.length : Int) - i = d → d < k → laws_sameIns.l0 k l l i = some true := by
  induction d with
  | zero =>
    intro k i h0 hd hk
    obtain ⟨k, rfl⟩ : ∃ m, k = m + 1 := ⟨k - 1, by omega⟩
    simp only [laws_sameIns.l0]; rw [if_neg (by omega)]
  | succ d ih =>
    intro k i h0 hd hk
    obtain ⟨k, rfl⟩ : ∃ m, k = m + 1 := ⟨k - 1, by omega⟩
    simp only [laws_sameIns.l0]; rw [if_pos (by omega), if_pos h0, if_pos (by omega), if_neg (by simp)]
    rw [show wrap64 (i + 1) = i + 1 from wrap_in (by omega) (by omega)]
    exact ih k (i + 1) (by omega) (by omega) (by omega)
theorem sameIns_same (l : List S25) (k : Nat) (hl : l.length ≤ 2000000) (hk : l.length < k) : laws_sameIns.f k l l = some true := by
  unfold laws_sameIns.f; rw [if_pos rfl]; exact sameIns_rounds l hl l.length k 0 (by omega) (by omega) hk
theorem dinst_T (k : Nat) (l : List Int) (hs : l.length ≤ maxLen) : Tells (spec_DrawInsText.f (k + 4001) l) (fun _ => True) := by
  unfold spec_DrawInsText.f
  exact Tells.bind (one_T k l hs) (fun _ _ => Tells.some True.intro)
theorem dctext_T (k : Nat) (l : List Int) (hs : l.length ≤ maxLen) : Tells (spec_DrawCodeText.f (k + 4001) l) (fun r => r.length ≤ 101) := by
  unfold spec_DrawCodeText.f
  exact Tells.bind (dcode_T k l hs) (fun _ p => Tells.some p)
theorem codeText_some {l : List S25} (h : codeM l = true) : codeTextM l = B (linesD l) := by
  unfold codeTextM; rw [if_pos h]; rfl
theorem texts_j4 (K N : Nat) (l : List Int) (hK : N + 6000 ≤ K) (t : ByteArray) (r : List S25 × Bool) (et : ∀ k, 5001 ≤ k → spec_DrawCodeRead.f k l = some t) (e1 : spec_CodeRead.f N t = some r) (e2 : impl_CodeRead.f N t = some r) (h48 : r.1.length ≤ 48) (g : GoodR t r) : laws_FnTexts.j4 (K + 1) l = some true := by
  have i1 : spec_CodeRead.f K t = some r := specUp (by omega) e1
  have i2 : impl_CodeRead.f K t = some r := implUp (N := N) (by omega) e2
  simp only [laws_FnTexts.j4]
  rw [et K (by omega)]; simp only [Option.bind_some]
  rw [i2]; simp only [Option.bind_some]
  rw [i1]; simp only [Option.bind_some]
  rw [if_pos (show (r.2 == r.2) = true from beq_self_eq_true r.2)]
  cases hr : r.2 with
  | true =>
    obtain ⟨hc, hct⟩ := g.2 hr
    rw [if_pos rfl, impl_CodeText_eq _ _ (by omega) (by omega), hct]; simp
  | false => rw [if_neg (by decide), g.1 hr]; simp
theorem texts_j3 (K : Nat) (l : List Int) (hK : 6000 ≤ K) (c : List S25) (hc : c.length ≤ 101) (j4 : laws_FnTexts.j4 (K + 1) l = some true) : laws_FnTexts.j3 (K + 2) l c (codeTextM c) false = some true := by
  simp only [laws_FnTexts.j3]
  rw [if_neg (by decide)]
  by_cases hE : (codeTextM c).toList = ([] : List UInt8)
  · rw [if_pos hE]; exact j4
  · rw [if_neg hE]
    have hm : codeM c = true := by rw [← codeText_ne c]; exact bne_iff_ne.mpr hE
    obtain ⟨h1, h2⟩ := codeM_parts hm
    have hz := codeText_size c
    have hb : impl_CodeRead.f (K + 1) (codeTextM c) = some (c, true) := by
      rw [codeText_some hm] at hz ⊢
      rw [B_size] at hz
      have e := code_back c [] (K + 1) (by omega) h2 (by simp; omega) (by omega)
      rw [List.nil_append, show decide ((c.length : Int) > 0) = true from decide_eq_true (by omega)] at e
      exact e
    rw [hb]; simp only [Option.bind_some, if_true]
    rw [sameIns_same _ _ (by omega) (by omega)]; simp only [Option.bind_some, if_true]
    exact j4
theorem texts_j2 (K : Nat) (l : List Int) (hl : l.length ≤ maxLen) (hK : 6000 ≤ K) (j4 : laws_FnTexts.j4 (K + 1) l = some true) : laws_FnTexts.j2 (K + 3) l false = some true := by
  simp only [laws_FnTexts.j2]
  rw [if_neg (by decide)]
  obtain ⟨K, rfl⟩ : ∃ m, K = m + 4001 := ⟨K - 4001, by omega⟩
  obtain ⟨c, ec, hc⟩ := dctext_T (K + 2) l hl
  rw [show K + 4001 + 2 = K + 2 + 4001 by omega, ec]; simp only [Option.bind_some]
  rw [impl_CodeText_eq _ _ (by omega) (by omega), spec_CodeText_eq _ _ (by omega) (by omega)]; simp only [Option.bind_some, if_true]
  rw [impl_CodeOk_eq _ _ (by omega) (by omega), codeText_ne]; simp only [Option.bind_some, bne_self_eq_false]
  have := texts_j3 (K + 4001) l hK c hc j4
  rw [show K + 2 + 4001 = K + 4001 + 2 by omega]
  exact this
theorem texts_j1 (K : Nat) (l : List Int) (hl : l.length ≤ maxLen) (hK : 6000 ≤ K) (j2 : laws_FnTexts.j2 (K + 3) l false = some true) : laws_FnTexts.j1 (K + 4) l = some true := by
  simp only [laws_FnTexts.j1]
  obtain ⟨M, rfl⟩ : ∃ m, K = m + 4001 := ⟨K - 4001, by omega⟩
  obtain ⟨line, el, hz⟩ := dline_T (M + 3) l hl
  rw [show M + 4001 + 3 = M + 3 + 4001 by omega, el]; simp only [Option.bind_some]
  rw [show M + 4001 + 3 = M + 3 + 4001 by omega] at j2
  rcases read_cases line (by omega) with ⟨x, hx, ht, hr⟩ | hr
  · rw [(hr _ (by omega)).2]; simp only [Option.bind_some]
    rw [(hr _ (by omega)).1]; simp only [Option.bind_some, bne_self_eq_false, Bool.false_eq_true, if_false, if_true]
    rw [impl_text' _ (by omega) x hx, ht]; simp only [Option.bind_some, bne_self_eq_false]
    exact j2
  · rw [(hr _ (by omega)).2]; simp only [Option.bind_some]
    rw [(hr _ (by omega)).1]; simp only [Option.bind_some, bne_self_eq_false, Bool.false_eq_true, if_false, if_true]
    exact j2
theorem texts_j0 (K : Nat) (l : List Int) (hK : 6000 ≤ K) (op r a b n : Int) (j1 : laws_FnTexts.j1 (K + 4) l = some true) : laws_FnTexts.j0 (K + 5) l (textA op r a b n) false op r a b n = some true := by
  simp only [laws_FnTexts.j0]
  rw [if_neg (by decide)]
  by_cases hE : (textA op r a b n).toList = ([] : List UInt8)
  · rw [if_pos hE]; exact j1
  · rw [if_neg hE]
    have hi : insM op r a b n = true := by rw [← textA_ne op r a b n]; exact bne_iff_ne.mpr hE
    have e : textA op r a b n = textM op r a b n := by unfold textA; rw [if_pos hi]
    have hb : impl_InsRead.f (K + 4) (textA op r a b n) = some (op, r, a, b, n, true) := by
      rw [e, show K + 4 = (K - 36) + 40 by omega]; exact impl_read_back (K - 36) op r a b n hi
    rw [hb]; simp only [Option.bind_some, if_true, beq_self_eq_true, Bool.not_true, Bool.or_false, Bool.false_eq_true, if_false]
    exact j1
theorem FnTexts : laws_FnTexts.Mine := by
  intro l hl
  obtain ⟨t, et, ht⟩ := dtext_T 1000 l hl
  have et' : ∀ k, 5001 ≤ k → spec_DrawCodeRead.f k l = some t := fun k hk => at_rounds (fun k => spec_DrawCodeRead.mono _ k) hk et
  obtain ⟨N, r, e1, e2, h48, g⟩ := code_both2 t (by omega) t.data.toList.length [] 0 (by decide) (by omega) (by simp) rfl (by decide) (by decide) rfl
  have j4 := texts_j4 (N + 6000) N l (Nat.le_refl _) t r et' e1 e2 h48 g
  have j1 := texts_j1 (N + 6000) l hl (by omega) (texts_j2 (N + 6000) l hl (by omega) j4)
  refine ⟨N + 6000 + 5, ?_⟩
  unfold laws_FnTexts.f laws_big.f
  simp only [Option.bind_some]
  by_cases hb : (l.length : Int) > 1048576
  · rw [if_pos (decide_eq_true hb)]
  rw [if_neg (by simpa using hb)]
  obtain ⟨x, ex, _⟩ := dinst_T (N + 2004 - 0) l hl
  rw [show N + 6000 + 5 = (N + 2004 - 0) + 4001 by omega, ex]; simp only [Option.bind_some]
  rw [implA _ (by omega), specA _ (by omega)]; simp only [Option.bind_some, if_true]
  rw [impl_InsOk_eq _ _ _ _ _ _ (by omega), textA_ne]; simp only [Option.bind_some, bne_self_eq_false]
  have := texts_j0 (N + 6000) l (by omega) x.1 x.2.1 x.2.2.1 x.2.2.2.1 x.2.2.2.2 j1
  rw [show (N + 2004 - 0) + 4001 = N + 6000 + 5 by omega]
  exact this

end Go.Proofs.YtlmcikjjeidnfaaGreatDoor.Pure
