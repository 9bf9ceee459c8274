/- Plain laws of the printed functions. -/
import Derived.Test.YtpcladboobfkhaaPFnWorkx5
import Derived.Test.YtpcladboobfkhaaPFnWorkx22
import Derived.Test.YtpcladboobfkhaaPFnWorkx24
import Derived.Test.YtpcladboobfkhaaPFnWorkx43
namespace Go.Proofs.Ytpcladboobfkhaa.Pure
open Go.RowKit Go.Proofs.Ytpcladboobfkhaa.PFnWork Go.Proofs.YtpcladboobfkhaaW.PrintWords Go.Proofs.YtpcladboobfkhaaW.PrintLast Go.Proofs.YtpcladboobfkhaaW.PrintMore
set_option linter.unusedVariables false
set_option linter.unusedSimpArgs false












theorem code_l0 (s : List Int) (hs : s.length ≤ maxLen) (n : Int) (d : Nat) : ∀ (k : Nat) (l : List S25) (i : Int) (c h : Int), 0 ≤ i → i + d ≤ 100 → n - i = d → d + 3 < k → l.length + d ≤ 100 → 0 ≤ c → Tells (spec_l6DrawCode.l0 k l n i s c h) (fun r => 1 ≤ r.1.length ∧ r.1.length ≤ 101 ∧ 0 ≤ r.2.1) := by
  induction d with
  | zero =>
    intro k l i c h h0 hi hd hk hl hc
    obtain ⟨k, rfl⟩ : ∃ m, k = m + 1 := ⟨k - 1, by omega⟩
    simp only [spec_l6DrawCode.l0]; rw [if_neg (by omega), if_pos (by omega)]
    exact Tells.some ⟨by simp, by simp; omega, hc⟩
  | succ d ih =>
    intro k l i c h h0 hi hd hk hl hc
    obtain ⟨k, rfl⟩ : ∃ m, k = m + 3 := ⟨k - 3, by omega⟩
    simp only [spec_l6DrawCode.l0]
    by_cases hin : i < n
    · rw [if_pos hin]
      refine Tells.bind (ins_T k s c h hs hc) (fun r p => ?_)
      rw [if_pos (by omega), show wrap64 (i + 1) = i + 1 from wrap_in (by omega) (by omega)]
      exact ih (k + 2) _ (i + 1) _ _ (by omega) (by omega) (by omega) (by omega) (by simp; omega) p
    · omega
theorem code_j0 (k : Nat) (s : List Int) (hs : s.length ≤ maxLen) (l : List S25) (c h : Int) (hl : l.length ≤ 10) (hc : 0 ≤ c) : Tells (spec_l6DrawCode.j0 (k + 30) l s c h) (fun r => 1 ≤ r.1.length ∧ r.1.length ≤ 101 ∧ 0 ≤ r.2.1) := by
  rw [show k + 30 = k + 29 + 1 from rfl]
  simp only [spec_l6DrawCode.j0]
  refine Tells.bind (below_T _ _ _ _ hs hc (by omega)) (fun r p => ?_)
  exact code_l0 s hs r.1 r.1.toNat (k + 29) l 0 _ _ (by omega) (by omega) (by omega) (by omega) (by omega) p.1
theorem code_T (k : Nat) (s : List Int) (i h : Int) (hs : s.length ≤ maxLen) (h0 : 0 ≤ i) : Tells (spec_l6DrawCode.f (k + 30) s i h) (fun r => 1 ≤ r.1.length ∧ r.1.length ≤ 101 ∧ 0 ≤ r.2.1) := by
  unfold spec_l6DrawCode.f
  simp only [Option.bind_some]
  refine Tells.bind (below_T _ _ _ _ hs h0 (by omega)) (fun r p => ?_)
  refine Tells.ite (fun _ => ?_) (fun _ => Tells.ite (fun _ => ?_) (fun _ => Tells.ite (fun _ => ?_) (fun _ => ?_)))
  · rw [if_pos (by simp)]; exact code_j0 k s hs _ _ _ (by simp) p.1
  · rw [if_pos (by simp)]; exact code_j0 k s hs _ _ _ (by simp) p.1
  · rw [if_pos (by simp)]; exact code_j0 k s hs _ _ _ (by simp) p.1
  · exact code_j0 k s hs _ _ _ (by simp) p.1
















































theorem stM_upd {l : List S29} {n : Int} {i : Bool} {b t p s : Int} {m : List S29} {g : List Bool} {tr : Int} (h : stM l n i b t p s m g tr = true) {l' m' : List S29} {g' : List Bool} (h1 : l'.length = 8) (h2 : l'.all wOkT = true) (h4 : m'.length = 24) (h5 : m'.all wOkT = true) (h6 : g'.length = 24) : stM l' n i b t p s m' g' tr = true := by
  unfold stM memM at h ⊢
  simp only [Bool.and_eq_true, decide_eq_true_eq] at h ⊢
  exact ⟨h1, h2, h.2.2.1, ⟨⟨h4, h6⟩, h5⟩, h.2.2.2.2⟩
theorem spoil_c (s : List Int) (i h a b c d e : Int) (hs : s.length ≤ maxLen) (h0 : 0 ≤ i) : Tells (spec_l6Spoil.f s i h a b c d e) (fun r => 0 ≤ r.2.2.2.2.2.1) := by
  unfold spec_l6Spoil.f
  repeat' (first
    | ((with_reducible refine Tells.some ?_); first | (dsimp only; omega) | exact True.intro)
    | (with_reducible refine Tells.ite (fun _ => ?_) (fun _ => ?_))
    | ((with_reducible refine Tells.bind (below_T _ _ _ _ ?_ ?_ ?_) ?_); exact hs; omega; omega; intro _ _)
    | ((with_reducible refine Tells.imp (below_T _ _ _ _ ?_ ?_ ?_) ?_); exact hs; omega; omega; intro _ _; first | assumption | omega | (dsimp only at *; omega) | exact True.intro)
    | ((with_reducible refine Tells.bind (pick_T _ _ _ _ ?_ ?_ ?_) ?_); exact hs; omega; (first | decide | simp); intro _ _)
    | ((with_reducible refine Tells.imp (pick_T _ _ _ _ ?_ ?_ ?_) ?_); exact hs; omega; (first | decide | simp); intro _ _; first | assumption | omega | (dsimp only at *; omega) | exact True.intro))
end Go.Proofs.Ytpcladboobfkhaa.Pure
