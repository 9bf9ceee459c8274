/- Plain laws of the printed functions. -/
import Derived.Test.YtpcladboobfkhaaPFnWorkx16
import Derived.Test.YtpcladboobfkhaaPFnWorkx17
import Derived.Test.YtpcladboobfkhaaPFnWorkx21
import Derived.Test.YtpcladboobfkhaaPFnWorkx24
import Derived.Test.YtpcladboobfkhaaPFnWorkx33
import Derived.Test.YtpcladboobfkhaaPFnWorkx46
namespace Go.Proofs.Ytpcladboobfkhaa.Pure
open Go.RowKit Go.Proofs.Ytpcladboobfkhaa.PFnWork Go.Proofs.YtpcladboobfkhaaW.PrintWords Go.Proofs.YtpcladboobfkhaaW.PrintLast Go.Proofs.YtpcladboobfkhaaW.PrintMore
set_option linter.unusedVariables false
set_option linter.unusedSimpArgs false



























theorem impl_Covers_eq (k : Nat) (b t p s b' t' p' s' : Int) : impl_Covers.f (k + 8) b t p s b' t' p' s' = some (covM b t p s b' t' p' s') := by
  unfold impl_Covers.f covM
  simp only [impl_KeyOk_eq, Option.bind_some]
  cases kOk b t p s <;> simp only [Bool.false_and, Bool.true_and, if_true, if_false, Bool.false_eq_true]
  cases kOk b' t' p' s' <;> simp only [Bool.false_and, Bool.true_and, if_true, if_false, Bool.false_eq_true]
  by_cases h1 : b ≤ b' <;> by_cases h2 : t' ≤ t <;> simp [h1, h2]
theorem imU_rounds (l : List S29) (hl : l.length ≤ 2000000) (b t p s : Int) (d : Nat) : ∀ (k : Nat) (i : Int), 0 ≤ i → (l.length : Int) - i = d → d + 9 < k → ∃ r, impl_Unders.l0 k l i b t p s = some r ∧ decide (0 ≤ r) = (l.drop i.toNat).any (undT b t p s) := by
  induction d with
  | zero =>
    intro k i h0 hd hk
    obtain ⟨k, rfl⟩ : ∃ m, k = m + 1 := ⟨k - 1, by omega⟩
    simp only [impl_Unders.l0]; rw [if_neg (by omega), drop_endU l i (by omega)]; exact ⟨_, rfl, rfl⟩
  | succ d ih =>
    intro k i h0 hd hk
    obtain ⟨k, rfl⟩ : ∃ m, k = m + 9 := ⟨k - 9, by omega⟩
    simp only [impl_Unders.l0]; rw [if_pos (by omega), if_pos h0]
    rw [impl_Covers_eq, drop_rdU l i h0 (by omega)]; simp only [List.any_cons]
    have e1 : (if (rd_T29 l i).f1 = true then some (covM (rd_T29 l i).f2.f0 (rd_T29 l i).f2.f1 (rd_T29 l i).f2.f2 (rd_T29 l i).f2.f3 b t p s) else some false) = some (undT b t p s (rd_T29 l i)) := by
      unfold undT; cases (rd_T29 l i).f1 <;> simp
    rw [e1]; simp only [Option.bind_some]
    cases undT b t p s (rd_T29 l i) with
    | true => exact ⟨i, by simp, by simp [h0]⟩
    | false =>
      obtain ⟨r, e, q⟩ := ih (k + 8) (i + 1) (by omega) (by omega) (by omega)
      refine ⟨r, ?_, by simpa using q⟩
      simp only [Bool.false_eq_true, if_false]
      rw [show wrap64 (i + 1) = i + 1 from wrap_in (by omega) (by omega)]; exact e
theorem impl_Unders_eq (k : Nat) (n : Int) (i : Bool) (b t p s : Int) (l : List S29) (hl : l.length ≤ 2000000) (hk : l.length + 10 ≤ k) : impl_Unders.f k n i b t p s l = some (underM i b t p s l) := by
  unfold impl_Unders.f underM
  cases i with
  | false => simp
  | true =>
    obtain ⟨r, e, q⟩ := imU_rounds l hl b t p s l.length k 0 (by omega) (by omega) (by omega)
    rw [if_pos rfl, e]; simp only [Option.bind_some, ge_iff_le]
    rw [q]; simp






theorem ok_step (k : Nat) (x4 : Bool) (op r a b n i i' c x : Int) (h : Bool) (hi : 0 ≤ i) (hi4 : i < 4) (hc : rd ([82, 65, 66, 78] : List Int) i = c) (hw : wrap64 (i + 1) = i') (hp : impl_partOf.f op r a b n c = some x) (hh : impl_hasPart.f k op r a b n c = some h) (hne : c ≠ 78) :
    impl_InsOk.l0 (k + 1) x4 i op r a b n = impl_InsOk.l0 k (x4 && fM x h) i' op r a b n := by
  simp only [impl_InsOk.l0]
  rw [if_pos hi4, if_pos hi]
  simp only [hc, hp, hh, hw, Option.bind_some]
  cases h with
  | false => cases x4 <;> simp [← fM_not]
  | true => cases x4 <;> simp [hne, impl_in_eq, ← fM_yes]
theorem ok_stepN (k : Nat) (x4 : Bool) (op r a b n : Int) (h : Bool) (hh : impl_hasPart.f k op r a b n 78 = some h) :
    impl_InsOk.l0 (k + 1) x4 3 op r a b n = impl_InsOk.l0 k (x4 && nM n h) 4 op r a b n := by
  have hp : impl_partOf.f op r a b n 78 = some n := by unfold impl_partOf.f; simp
  simp only [impl_InsOk.l0]
  rw [if_pos (by decide), if_pos (by decide), show rd ([82, 65, 66, 78] : List Int) 3 = 78 from rfl, show wrap64 (3 + 1) = 4 by unfold wrap64; omega]
  simp only [hp, hh, Option.bind_some]
  cases h with
  | false => cases x4 <;> simp [← nM_not]
  | true => cases x4 <;> simp [impl_in_eq, ← nM_yes]
theorem ok_stepE (k : Nat) (x4 : Bool) (op r a b n : Int) : impl_InsOk.l0 (k + 1) x4 4 op r a b n = some x4 := by
  simp only [impl_InsOk.l0]; rw [if_neg (by decide)]
theorem impl_InsOk_eq (k : Nat) (op r a b n : Int) (hk : 20 ≤ k) : impl_InsOk.f k op r a b n = some (insM op r a b n) := by
  obtain ⟨k, rfl⟩ : ∃ m, k = m + 20 := ⟨k - 20, by omega⟩
  obtain ⟨s, e⟩ := formOf_ok (k + 18) op
  unfold impl_InsOk.f
  rw [show k + 20 = k + 18 + 2 from rfl, e]; simp only [Option.bind_some]
  show impl_InsOk.l0 (k + 19 + 1) (hOp op) 0 op r a b n = _
  rw [ok_step (k + 19) (hOp op) op r a b n 0 1 82 r (hR op) (by omega) (by omega) rfl (by unfold wrap64; omega) (by unfold impl_partOf.f; simp) (hasPart_R _ _ _ _ _ _ (by omega)) (by omega),
    ok_step (k + 18) _ op r a b n 1 2 65 a (hA op) (by omega) (by omega) rfl (by unfold wrap64; omega) (by unfold impl_partOf.f; simp) (hasPart_A _ _ _ _ _ _ (by omega)) (by omega),
    ok_step (k + 17) _ op r a b n 2 3 66 b (hB op) (by omega) (by omega) rfl (by unfold wrap64; omega) (by unfold impl_partOf.f; simp) (hasPart_B _ _ _ _ _ _ (by omega)) (by omega),
    ok_stepN (k + 16) _ op r a b n (hN op) (hasPart_N _ _ _ _ _ _ (by omega)), ok_stepE (k + 15)]
  unfold insM; simp only [Bool.and_assoc]

theorem impl_Fetch_eq (k : Nat) (l : List S25) (n : Int) (i : Bool) (b t p s : Int) (hl : l.length ≤ 2000000) : impl_Fetch.f (k + 20) l n i b t p s = some (fetchM l n i b t p s) := by
  unfold impl_Fetch.f fetchM
  rw [show k + 20 = k + 10 + 10 from rfl, impl_Try_eq]; simp only [Option.bind_some]
  by_cases h : tryM n i b t p s n 4 = 0
  · rw [if_pos h, if_pos h, show wrap64 ((l.length : Int) - 1) = (l.length : Int) - 1 from wrap_in (by omega) (by omega), impl_in_eq]; simp only [Option.bind_some]
    by_cases h2 : 0 ≤ n ∧ n < (l.length : Int)
    · rw [if_pos (decide_eq_true (by omega)), if_pos h2.1, if_pos h2.2, if_pos h2, impl_InsOk_eq _ _ _ _ _ _ (by omega)]; simp only [Option.bind_some]
      rw [show insM (rd_T25 l n).f0 (rd_T25 l n).f1 (rd_T25 l n).f2 (rd_T25 l n).f3 (rd_T25 l n).f4 = insT (rd_T25 l n) from rfl]
      cases insT (rd_T25 l n) <;> simp
    · rw [if_neg (by simp; omega), if_neg h2]
  · rw [if_neg h, if_neg h]




















theorem work_total (k : Nat) (op r a b n n0 : Int) (i0 : Bool) (b0 t0 p0 s0 n1 : Int) (i1 : Bool) (b1 t1 p1 s1 n2 : Int) (i2 : Bool) (b2 t2 p2 s2 n3 : Int) (i3 : Bool) (b3 t3 p3 s3 : Int) : ∃ v, impl_Work.f (k + 12) op r a b n n0 i0 b0 t0 p0 s0 n1 i1 b1 t1 p1 s1 n2 i2 b2 t2 p2 s2 n3 i3 b3 t3 p3 s3 = some v ∧ spec_Work.f (k + 12) op r a b n n0 i0 b0 t0 p0 s0 n1 i1 b1 t1 p1 s1 n2 i2 b2 t2 p2 s2 n3 i3 b3 t3 p3 s3 = some v ∧
    (([⟨n0, i0, ⟨b0, t0, p0, s0⟩⟩, ⟨n1, i1, ⟨b1, t1, p1, s1⟩⟩, ⟨n2, i2, ⟨b2, t2, p2, s2⟩⟩, ⟨n3, i3, ⟨b3, t3, p3, s3⟩⟩] : List S29).all wOkT = true → goodE [⟨n0, i0, ⟨b0, t0, p0, s0⟩⟩, ⟨n1, i1, ⟨b1, t1, p1, s1⟩⟩, ⟨n2, i2, ⟨b2, t2, p2, s2⟩⟩, ⟨n3, i3, ⟨b3, t3, p3, s3⟩⟩] v) := by
  obtain ⟨v, e1, e2⟩ := work_both k op r a b n n0 i0 b0 t0 p0 s0 n1 i1 b1 t1 p1 s1 n2 i2 b2 t2 p2 s2 n3 i3 b3 t3 p3 s3
  refine ⟨v, e1, e2, fun h => ?_⟩
  simp only [List.all_cons, List.all_nil, Bool.and_true, Bool.and_eq_true] at h
  obtain ⟨v', e1', _, g⟩ := work_good k op r a b n n0 i0 b0 t0 p0 s0 n1 i1 b1 t1 p1 s1 n2 i2 b2 t2 p2 s2 n3 i3 b3 t3 p3 s3 [⟨n0, i0, ⟨b0, t0, p0, s0⟩⟩, ⟨n1, i1, ⟨b1, t1, p1, s1⟩⟩, ⟨n2, i2, ⟨b2, t2, p2, s2⟩⟩, ⟨n3, i3, ⟨b3, t3, p3, s3⟩⟩] h.1 (by simp) h.2.1 (by simp) h.2.2.1 (by simp) h.2.2.2 (by simp)
  rw [e1] at e1'
  obtain rfl := Option.some.inj e1'
  exact g
theorem fetch_zero (l : List S25) (n : Int) (i : Bool) (b t p s : Int) (h : ¬ (fetchM l n i b t p s).2.2.2.2.2 = 0) : (fetchM l n i b t p s).1 = 0 ∧ (fetchM l n i b t p s).2.1 = 0 ∧ (fetchM l n i b t p s).2.2.1 = 0 ∧ (fetchM l n i b t p s).2.2.2.1 = 0 ∧ (fetchM l n i b t p s).2.2.2.2.1 = 0 := by
  unfold fetchM at h ⊢
  by_cases c : tryM n i b t p s n 4 = 0
  · rw [if_pos c] at h ⊢
    by_cases d : 0 ≤ n ∧ n < (l.length : Int)
    · rw [if_pos d] at h ⊢
      by_cases e : insT (rd_T25 l n) = true
      · rw [if_pos e] at h; exact absurd rfl h
      · rw [if_neg e]; exact ⟨rfl, rfl, rfl, rfl, rfl⟩
    · rw [if_neg d]; exact ⟨rfl, rfl, rfl, rfl, rfl⟩
  · rw [if_neg c]; exact ⟨rfl, rfl, rfl, rfl, rfl⟩

end Go.Proofs.Ytpcladboobfkhaa.Pure
