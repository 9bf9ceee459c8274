-- Written by a program of this session (wip/patch.py turns a copy of the kit's print): the functions that the law reaches, and their walks.
import Derived.Test.YtednioabjiabiaaPFnMemoryx0
import Derived.Test.YtednioabjiabiaaPFnMemoryx6
import Derived.Test.YtednioabjiabiaaPFnMemoryx8
import Derived.Test.YtednioabjiabiaaCFnMemory
namespace Go.Proofs.Ytednioabjiabiaa.PFnMemory
open Go.RowKit Go.Proofs.YtednioabjiabiaaW.PrintWords Go.Proofs.YtednioabjiabiaaW.PrintLast Go.Proofs.YtednioabjiabiaaW.PrintMore Go.Proofs.YtednioabjiabiaaW.Mine
attribute [local go_sem] max2_int min2_int max_two min_two max_three min_three max_four min_four   -- for this text's walks alone
set_option linter.unusedVariables false
set_option linter.unusedSimpArgs false

/-! ### spec_MemoryNew: function 65 -/
def spec_MemoryNew.f  : Option ((List (S36)) × List Bool) := if 24 ≤ 5864062014805 then (if 24 ≤ 281474976710656 then (some ((List.replicate 24 z36), (List.replicate 24 false))) else (none)) else (none)
set_option maxHeartbeats 8000000 in
set_option maxRecDepth 100000 in
theorem spec_MemoryNew.calls  (r1 : List (S36)) (r2 : List Bool) (w : World) (h : spec_MemoryNew.f  = some (r1, r2)) :
  Calls Try.prog 65 #[] w fun e w' => ∃ v0_ v1_ : Value, e = .returned (.agg #[v0_, v1_]) ∧ Kd.R k36 36 w' w.heap.size (fun _ => True) v0_ r1 ∧ Kd.R Kd.bool 4 w' w.heap.size (fun _ => True) v1_ r2 ∧ Below w.heap.size w w' := by
 have hu27 := Try.underlying27; have HB := Aside0.mk (Below.refl w.heap.size w); have H : (if 24 ≤ 5864062014805 then (if 24 ≤ 281474976710656 then (some ((List.replicate 24 z36), (List.replicate 24 false))) else (none)) else (none)) = some (r1, r2) := h; clear h
 by_cases c1 : 24 ≤ 5864062014805
 ·rw [if_pos c1] at H
  have c1b0 := eq_true c1; have c1b1 : decide (24 ≤ 5864062014805) = true := decide_eq_true c1; clear c1; obtain ⟨bQ, da⟩ : ∃ y_ : List (S36), y_ = (List.replicate 24 z36) := ⟨_, rfl⟩; replace H : (if 24 ≤ 281474976710656 then (some (bQ, (List.replicate 24 false))) else (none)) = some (r1, r2) := by first | (rw [da]; with_reducible exact H) | (have H2_ := (Option.bind_some _ _).symm.trans H; rw [da]; with_reducible exact H2_) | (have H2_ := (Option.bind_some _ _).symm.trans H; with_reducible exact H2_) | with_reducible exact H | (rw [da]; exact H) | exact H
  have dq := Aside0.mk da; clear da
  by_cases c2 : 24 ≤ 281474976710656
  ·rw [if_pos c2] at H
   have c2b0 := eq_true c2; have c2b1 : decide (24 ≤ 281474976710656) = true := decide_eq_true c2; clear c2; obtain ⟨b3, db⟩ : ∃ y_ : List Bool, y_ = (List.replicate 24 false) := ⟨_, rfl⟩; replace H : (some (bQ, b3)) = some (r1, r2) := by first | (rw [db]; with_reducible exact H) | (have H2_ := (Option.bind_some _ _).symm.trans H; rw [db]; with_reducible exact H2_) | (have H2_ := (Option.bind_some _ _).symm.trans H; with_reducible exact H2_) | with_reducible exact H | (rw [db]; exact H) | exact H
   have dr := Aside0.mk db; clear db; simp only [Option.some.injEq, Prod.mk.injEq] at H; obtain ⟨rfl, rfl⟩ := H
   go_enter Try.func65, Try.ntmps65
   try go_wp2_with (first | ((with_reducible refine gate_dst (N := 0) rfl ?_); refine bxe 0 #[.slice none 0 0, .slice none 0 0] 27 ?_; intro dc hg w3 hbox hb; have bi := hbox; have eF := nge HB hg; have eG := nge HB hg; replace HB := nbs HB hb; clear hb hbox hg))
   replace bi := Aside0.mk (blk_drew bi.out); replace HB := Aside0.mk (below_drew1 HB.out); refine start_ (n := 4) (S := fun w' => True) (ds := []) #[false, false, false, false] (by kernel_rfl) rfl rfl trivial (fun hHeld => ?_); generalize w3.drew = w4 at bi HB hHeld ⊢; refine join_ (σ := Value × Value) 2 #[true, true, false, false] (fun s_ => [(1, s_.1), (2, s_.2)]) (fun s_ w' => (Kd.R k36 36 w' w.heap.size (fun _ => True) s_.1 bQ) ∧ (Kd.R Kd.bool 4 w' w.heap.size (fun _ => True) s_.2 b3) ∧ (w'.heap[dc]? = some (.cells #[.slice none 0 0, .slice none 0 0] 27 (0, 0))) ∧ (Below w.heap.size w w')) ?_ ?_; rotate_left
   ·intro hCont
    refine two_ (i := 0) (j := 1) (Ni := some 1) (Nj := some 2) #[true, false, false, false] #[false, true, false, false] rfl rfl rfl rfl (by kernel_rfl) (by decide) (by decide) (fun K hK => ?_) (fun K hK => ?_)
    ·skip
     refine Kd.R_make_step k36 _ 36 (by rfl) (N := 1) rfl 24 _ _ rfl 24 rfl rfl Try.underlying24 (.agg #[(.int .i64 0), (.bool false), (.int .i64 0), (.int .i64 0), (.int .i64 0), (.int .i64 0)]) 48 info36 rfl (by decide) (by omega) z36 (ok := fun _ => True) (okp := fun _ => True) (k36_mkM _ _ _ z36 ) (fun _ hk => hk) trivial (by omega) (by omega) (Below.refl _ _) (Nat.le_refl _) ?_; intro dz w5 bt hb hg_ hnew_; clear hg_ hnew_; (first | rw [← dq.out] at bt | (simp only [Int.reduceToNat] at bt; rw [← dq.out] at bt)); have bz := Aside0.mk (Kd.R_lower bt (bsz HB)); replace bi := nblk bi hb; replace HB := nbs HB hb; clear hb bt; refine hK.out _ _ trivial (fun hHeld => ?_); clear hK K; refine norm_ (a' := ?_) ?_ ?_; rotate_left
     ·show Act.put _ (some 1) _ = _
      simp only [Act.put, List.setIfInBounds_toArray, List.set_cons_zero, List.set_cons_succ, i64_w, i32_w]; rfl
     refine one_ (i := 1) (N := some 2) #[true, true, false, false] rfl rfl (by kernel_rfl) (by decide) (fun K hK => ?_); refine Kd.R_make_step Kd.bool _ 4 (by rfl) (N := 2) rfl 25 _ _ rfl 24 rfl rfl Try.underlying25 (.bool false) 1 info4 rfl (by decide) (by omega) false (ok := fun _ => True) (okp := fun _ => True) rfl (fun _ hk => hk) trivial (by omega) (by omega) (Below.refl _ _) (Nat.le_refl _) ?_; intro dA w7 bu hb hg_ hnew_; clear hg_ hnew_; (first | rw [← dr.out] at bu | (simp only [Int.reduceToNat] at bu; rw [← dr.out] at bu)); have bA := Aside0.mk (Kd.R_lower bu (bsz HB)); replace bz := nR bz hb; replace bi := nblk bi hb; replace HB := nbs HB hb; clear hb bu; obtain ⟨dB, dC, dd⟩ := Kd.R_slice bA.out; (first | subst dd | (injection dd with f1_ f2_ f3_; have f4_ := f1_.symm; have f5_ := f3_.symm; clear f1_ f2_ f3_; subst f4_; subst f5_)); obtain ⟨bq, br, bR⟩ := Kd.R_slice bz.out; (first | subst bR | (injection bR with f1_ f2_ f3_; have f4_ := f1_.symm; have f5_ := f3_.symm; clear f1_ f2_ f3_; subst f4_; subst f5_)); refine hK.out _ _ trivial (fun hHeld => ?_); clear hK K; refine norm_ (a' := ?_) ?_ ?_; rotate_left
     ·show Act.put _ (some 2) _ = _
      simp only [Act.put, List.setIfInBounds_toArray, List.set_cons_zero, List.set_cons_succ, i64_w, i32_w]; rfl
     exact norm_ (by simp only [putAll, Act.put, List.setIfInBounds_toArray, List.set_cons_zero, List.set_cons_succ]) (hCont (.slice bq bQ.length br, .slice dB b3.length dC) _ ⟨(nRo bz), (nRo bA), (nb bi), (nbe HB)⟩)
    ·skip
     refine Kd.R_make_step Kd.bool _ 4 (by rfl) (N := 2) rfl 25 _ _ rfl 24 rfl rfl Try.underlying25 (.bool false) 1 info4 rfl (by decide) (by omega) false (ok := fun _ => True) (okp := fun _ => True) rfl (fun _ hk => hk) trivial (by omega) (by omega) (Below.refl _ _) (Nat.le_refl _) ?_; intro dA w5 bt hb hg_ hnew_; clear hg_ hnew_; (first | rw [← dr.out] at bt | (simp only [Int.reduceToNat] at bt; rw [← dr.out] at bt)); have bA := Aside0.mk (Kd.R_lower bt (bsz HB)); replace bi := nblk bi hb; replace HB := nbs HB hb; clear hb bt; refine hK.out _ _ trivial (fun hHeld => ?_); clear hK K; refine norm_ (a' := ?_) ?_ ?_; rotate_left
     ·show Act.put _ (some 2) _ = _
      simp only [Act.put, List.setIfInBounds_toArray, List.set_cons_zero, List.set_cons_succ, i64_w, i32_w]; rfl
     refine one_ (i := 0) (N := some 1) #[true, true, false, false] rfl rfl (by kernel_rfl) (by decide) (fun K hK => ?_); refine Kd.R_make_step k36 _ 36 (by rfl) (N := 1) rfl 24 _ _ rfl 24 rfl rfl Try.underlying24 (.agg #[(.int .i64 0), (.bool false), (.int .i64 0), (.int .i64 0), (.int .i64 0), (.int .i64 0)]) 48 info36 rfl (by decide) (by omega) z36 (ok := fun _ => True) (okp := fun _ => True) (k36_mkM _ _ _ z36 ) (fun _ hk => hk) trivial (by omega) (by omega) (Below.refl _ _) (Nat.le_refl _) ?_; intro dz w7 bu hb hg_ hnew_; clear hg_ hnew_; (first | rw [← dq.out] at bu | (simp only [Int.reduceToNat] at bu; rw [← dq.out] at bu)); have bz := Aside0.mk (Kd.R_lower bu (bsz HB)); replace bA := nR bA hb; replace bi := nblk bi hb; replace HB := nbs HB hb; clear hb bu; obtain ⟨dB, dC, dd⟩ := Kd.R_slice bA.out; (first | subst dd | (injection dd with f1_ f2_ f3_; have f4_ := f1_.symm; have f5_ := f3_.symm; clear f1_ f2_ f3_; subst f4_; subst f5_)); obtain ⟨bq, br, bR⟩ := Kd.R_slice bz.out; (first | subst bR | (injection bR with f1_ f2_ f3_; have f4_ := f1_.symm; have f5_ := f3_.symm; clear f1_ f2_ f3_; subst f4_; subst f5_)); refine hK.out _ _ trivial (fun hHeld => ?_); clear hK K; refine norm_ (a' := ?_) ?_ ?_; rotate_left
     ·show Act.put _ (some 1) _ = _
      simp only [Act.put, List.setIfInBounds_toArray, List.set_cons_zero, List.set_cons_succ, i64_w, i32_w]; rfl
     exact norm_ (by simp only [putAll, Act.put, List.setIfInBounds_toArray, List.set_cons_zero, List.set_cons_succ]) (hCont (.slice bq bQ.length br, .slice dB b3.length dC) _ ⟨(nRo bz), (nRo bA), (nb bi), (nbe HB)⟩)
   rintro ⟨dz, dA⟩ b4 ⟨h0_, h1_, h2_, h3_⟩; have bz : Aside0 (Kd.R k36 36 b4 w.heap.size (fun _ => True) dz bQ) := ⟨h0_⟩; have bA : Aside0 (Kd.R Kd.bool 4 b4 w.heap.size (fun _ => True) dA b3) := ⟨h1_⟩; replace bi : Aside0 (b4.heap[dc]? = some (.cells #[.slice none 0 0, .slice none 0 0] 27 (0, 0))) := ⟨h2_⟩; replace HB : Aside0 (Below w.heap.size w b4) := ⟨h3_⟩; clear h0_ h1_ h2_ h3_; have hHeld := trivial; obtain ⟨d9, ea, dH⟩ := Kd.R_slice bA.out; (first | subst dH | (injection dH with f1_ f2_ f3_; have f4_ := f1_.symm; have f5_ := f3_.symm; clear f1_ f2_ f3_; subst f4_; subst f5_)); obtain ⟨eb, ec, dI⟩ := Kd.R_slice bz.out; (first | subst dI | (injection dI with f1_ f2_ f3_; have f4_ := f1_.symm; have f5_ := f3_.symm; clear f1_ f2_ f3_; subst f4_; subst f5_)); refine norm_ (a' := ?_) ?_ ?_; rotate_left
   ·simp only [putAll, Act.put, List.setIfInBounds_toArray, List.set_cons_zero, List.set_cons_succ]
    rfl
   refine rPk 2 3 #[true, true, true, false] ?_; refine one_ (i := 3) (N := none) #[true, true, true, true] rfl rfl (by kernel_rfl) (by decide) (fun K hK => ?_); have hs14 : b4.cell? ⟨dc, 0, none⟩ = some (.slice none 0 0) := (blk_cell bi.out 0).trans rfl; have hfs14 := blk_frozen bi.out 0; have hs15 : b4.cell? ⟨dc, 1, none⟩ = some (.slice none 0 0) := (blk_cell bi.out 1).trans rfl; have hfs15 := blk_frozen bi.out 1; refine skip_ (w1 := ?_) (by rfl) rfl ?_ ?_; rotate_left
   ·go_simp
    rfl
   refine hK.out _ _ trivial (fun hHeld => ?_); clear hK K; refine done_ (by kernel_rfl) ?_
   try go_wp2
   refine bodyPost_ret (results_cell_row rfl _ _ dc 27 #[.slice eb bQ.length ec, .slice d9 b3.length ea] (0, 0) _ rfl (q2 bi) Try.underlying27 rfl (by kernel_rfl)) rfl ?_; exact ⟨_, _, er_, by (with_reducible repeat (first | apply Kd.R_alloc | apply Kd.R_drewN | apply Kd.R_drew)); exact Kd.R_mono (eR2_ (Kd.R_types bz.out bi.out (by decide))) (fun _ hk => trivial), by (with_reducible repeat (first | apply Kd.R_alloc | apply Kd.R_drewN | apply Kd.R_drew)); exact Kd.R_mono (eR2_ (Kd.R_types bA.out bi.out (by decide))) (fun _ hk => trivial), nbe HB⟩
  ·rw [if_neg c2] at H
   exact absurd H (by simp)
 ·rw [if_neg c1] at H
  exact absurd H (by simp)

/-! ### spec_l8DrawRight: function 52 -/
mutual
def spec_l8DrawRight.l0 : Nat → Int → List Int → Int → Int → List (S36) → List Bool → Option ((List (S36)) × List Bool × Int × Int)
 | 0, _, _, _, _, _, _ => none
 | k + 1, x4, bB, dD, dE, b5, b6 => (spec_l1Below.f bB dD dE 12).bind fun de => (if x4 < de.1 then ((spec_l1Below.f bB de.2.1 de.2.2 24).bind fun bv => ((spec_l3DrawRight.f k bB bv.2.1 bv.2.2).bind fun bh => (if 0 ≤ bv.1 then (if bv.1 < (b5.length : Int) then (spec_l8DrawRight.l0 k (wrap64 (x4 + 1)) bB bh.2.2.2.2.2.2.1 bh.2.2.2.2.2.2.2 (b5.set (bv.1 : Int).toNat (⟨bh.1, bh.2.1, (⟨bh.2.2.1, bh.2.2.2.1, bh.2.2.2.2.1, bh.2.2.2.2.2.1⟩ : S34)⟩ : S36)) b6) else (none)) else (none)))) else (spec_l8DrawRight.l1 k 0 bB de.2.1 de.2.2 b5 b6))
def spec_l8DrawRight.l1 : Nat → Int → List Int → Int → Int → List (S36) → List Bool → Option ((List (S36)) × List Bool × Int × Int)
 | 0, _, _, _, _, _, _ => none
 | k + 1, x5, bB, dD, dE, b5, b6 => (spec_l1Below.f bB dD dE 4).bind fun df => (if x5 < df.1 then ((spec_l1Below.f bB df.2.1 df.2.2 24).bind fun bw => (if 0 ≤ bw.1 then (if bw.1 < (b6.length : Int) then (spec_l8DrawRight.l1 k (wrap64 (x5 + 1)) bB bw.2.1 bw.2.2 b5 (b6.set (bw.1 : Int).toNat true)) else (none)) else (none))) else (some (b5, b6, df.2.1, df.2.2)))
end
def spec_l8DrawRight.f (k : Nat) (s0_0 : List Int) (s0_1 : Int) (s0_2 : Int) : Option ((List (S36)) × List Bool × Int × Int) := (spec_MemoryNew.f).bind fun dg => (spec_l8DrawRight.l0 k 0 s0_0 s0_1 s0_2 dg.1 dg.2)
theorem spec_l8DrawRight.mono_l : ∀ k, (∀ y0 y1 y2 y3 y4 y5, LeO (spec_l8DrawRight.l0 k y0 y1 y2 y3 y4 y5) (spec_l8DrawRight.l0 (k + 1) y0 y1 y2 y3 y4 y5)) ∧ (∀ y0 y1 y2 y3 y4 y5, LeO (spec_l8DrawRight.l1 k y0 y1 y2 y3 y4 y5) (spec_l8DrawRight.l1 (k + 1) y0 y1 y2 y3 y4 y5))
 | 0 => ⟨fun _ _ _ _ _ _ r h => by simp [spec_l8DrawRight.l0] at h, fun _ _ _ _ _ _ r h => by simp [spec_l8DrawRight.l1] at h⟩
 | k + 1 => by
  obtain ⟨ih0, ih1⟩ := spec_l8DrawRight.mono_l k; refine ⟨?_, ?_⟩
  ·intro y0 y1 y2 y3 y4 y5
   unfold spec_l8DrawRight.l0
   repeat' first
   | (with_reducible exact ih0 _ _ _ _ _ _)
   | (with_reducible exact ih1 _ _ _ _ _ _)
   | (with_reducible exact spec_l3DrawRight.mono _ _ _ _)
   | (with_reducible exact LeO.refl _)
   | (with_reducible exact LeO.none _)
   | (with_reducible refine LeO.ite ?_ ?_)
   | (with_reducible refine LeO.bind ?_ (fun _ => ?_))
   | exact ih0 _ _ _ _ _ _
   | exact ih1 _ _ _ _ _ _
   | exact spec_l3DrawRight.mono _ _ _ _
   | exact LeO.none _
   | refine LeO.ite ?_ ?_
   | refine LeO.bind ?_ (fun _ => ?_)
  ·intro y0 y1 y2 y3 y4 y5
   unfold spec_l8DrawRight.l1
   repeat' first
   | (with_reducible exact ih0 _ _ _ _ _ _)
   | (with_reducible exact ih1 _ _ _ _ _ _)
   | (with_reducible exact spec_l3DrawRight.mono _ _ _ _)
   | (with_reducible exact LeO.refl _)
   | (with_reducible exact LeO.none _)
   | (with_reducible refine LeO.ite ?_ ?_)
   | (with_reducible refine LeO.bind ?_ (fun _ => ?_))
   | exact ih0 _ _ _ _ _ _
   | exact ih1 _ _ _ _ _ _
   | exact spec_l3DrawRight.mono _ _ _ _
   | exact LeO.none _
   | refine LeO.ite ?_ ?_
   | refine LeO.bind ?_ (fun _ => ?_)
theorem spec_l8DrawRight.mono : ∀ a0 a1 a2 k, LeO (spec_l8DrawRight.f k a0 a1 a2) (spec_l8DrawRight.f (k + 1) a0 a1 a2) := by
 intro a0 a1 a2 k; obtain ⟨ih0, ih1⟩ := spec_l8DrawRight.mono_l k
 unfold spec_l8DrawRight.f
 repeat' first
   | (with_reducible exact ih0 _ _ _ _ _ _)
   | (with_reducible exact ih1 _ _ _ _ _ _)
   | (with_reducible exact spec_l3DrawRight.mono _ _ _ _)
   | (with_reducible exact LeO.refl _)
   | (with_reducible exact LeO.none _)
   | (with_reducible refine LeO.ite ?_ ?_)
   | (with_reducible refine LeO.bind ?_ (fun _ => ?_))
   | exact ih0 _ _ _ _ _ _
   | exact ih1 _ _ _ _ _ _
   | exact spec_l3DrawRight.mono _ _ _ _
   | exact LeO.none _
   | refine LeO.ite ?_ ?_
   | refine LeO.bind ?_ (fun _ => ?_)
def spec_l8DrawRight.T5 : Bool × List (List Nat × List Nat) := (true, [([], []), ([0], [0]), ([], []), ([2], [2]), ([], []), ([4, 3], [4]), ([1, 3, 0, 1, 2, 3, 4, 5], [1, 3]), ([6, 5, 5, 0, 1, 2, 3, 4, 5], [5, 6])])
def spec_l8DrawRight.B5 : List Nat := [0, 1, 0, 4, 0, 28, 63, 127]
theorem spec_l8DrawRight.tab5 : rtab .any (opsOf Try.f52 5) = spec_l8DrawRight.T5 := by kernel_rfl
theorem spec_l8DrawRight.bits5 : waitsOk spec_l8DrawRight.T5.2 spec_l8DrawRight.B5 = true := by kernel_rfl
set_option maxHeartbeats 8000000 in
set_option maxRecDepth 100000 in
theorem spec_l8DrawRight.calls (k : Nat) (g : Nat) (s0_0 : List Int) (s0_1 : Int) (s0_2 : Int) (r1 : List (S36)) (r2 : List Bool) (r3 : Int) (r4 : Int) (w0 w : World) (hI : IsS69 w0 w g s0_0 s0_1 s0_2) (hB : Below w0.heap.size w0 w) (h : spec_l8DrawRight.f k s0_0 s0_1 s0_2 = some (r1, r2, r3, r4)) :
  Calls Try.prog 52 #[.pointer (some ⟨g, 0, none⟩)] w fun e w' => ∃ v0_ v1_ : Value, e = .returned (.agg #[v0_, v1_]) ∧ Kd.R k36 36 w' w.heap.size (fun _ => True) v0_ r1 ∧ Kd.R Kd.bool 4 w' w.heap.size (fun _ => True) v1_ r2 ∧ IsS69 w0 w' g s0_0 r3 r4 ∧ Below w0.heap.size w0 w' ∧ KeepBut w w' g none := by
 have hu27 := Try.underlying27; have hu36 := Try.underlying36; have HI0 := Aside0.mk hI; have HK := Aside0.mk (KeepBut.refl w g none); have HL := Aside0.mk hB.size; clear hI; have HW0 := Aside0.mk hB.size; have HB := Aside0.mk hB; clear hB; have H : ((spec_MemoryNew.f).bind fun dg => (spec_l8DrawRight.l0 k 0 s0_0 s0_1 s0_2 dg.1 dg.2)) = some (r1, r2, r3, r4) := h; clear h; replace H := Option.bind_eq_some_iff.mp H; obtain ⟨⟨dt, bk⟩, A20, H⟩ := H; replace H : (spec_l8DrawRight.l0 k 0 s0_0 s0_1 s0_2 dt bk) = some (r1, r2, r3, r4) := H; have A2 := Aside0.mk A20; clear A20; have H' := Aside0.mk H; clear H
 go_enter Try.func52, Try.ntmps52
 go_wp2_with (first | ((with_reducible refine gate_dst (N := 2) rfl ?_); refine bxe 2 #[.slice none 0 0, .slice none 0 0] 27 ?_; intro bm hg w3 hbox hb; have bH := Aside0.mk (IsS69.below (IsS69.n) hb); have bI := Aside0.mk (KeepBut.trans (nK HK) (KeepBut.of_below hb g none) (.inl rfl)); have bJ := Aside0.mk (below_step (IsS69.nb) hb); have bK := hbox; have bL := Aside0.mk ((by rw [hg]; exact (keep_size (w := w) (g := g) (row := none) (nK HK)) : w.heap.size ≤ bm)); have bM := Aside0.mk ((Nat.le_trans HW0.out (by rw [hg]; exact (keep_size (w := w) (g := g) (row := none) (nK HK)) : w.heap.size ≤ bm) : w0.heap.size ≤ bm)); have dh := Aside0.mk ((by rw [hg]; exact Nat.ne_of_lt (IsS69.lt (show IsS69 w0 _ g s0_0 s0_1 s0_2 from IsS69.n)) : g ≠ bm)); have di := Aside0.mk ((by rw [hg]; exact Nat.ne_of_gt (IsS69.lt (show IsS69 w0 _ g s0_0 s0_1 s0_2 from IsS69.n)) : bm ≠ g)); clear HI0 HK HB; have HI0 := bH; have HK := bI; have HB := bJ; have ba := bK; have eH := bL; have dJ := bM; have ed := dh; have bN := di; clear bH bI bJ bK bL bM dh di; clear hb hbox hg) | ((with_reducible refine gate_callee (f := 65) rfl ?_); refine goesM (some 6) rfl rfl Try.func65 (by kernel_rfl) rfl #[] rfl ?_; (with_reducible refine (spec_MemoryNew.calls  dt bk _ A2.out).mono ?_); rintro e w4 ⟨eI, eJ, rfl, dK, dL, hb⟩; refine ⟨_, rfl, ?_⟩; have bH := Aside0.mk (Kd.R_lower dK (keep_size (w := w) (g := g) (row := none) (nK HK))); have bI := Aside0.mk (Kd.R_lower dL (keep_size (w := w) (g := g) (row := none) (nK HK))); have bJ := Aside0.mk (IsS69.below (IsS69.n) hb); have bK := nblk ba hb; have bL := Aside0.mk (KeepBut.trans (nK HK) (KeepBut.of_below hb g none) (.inl rfl)); have bM := Aside0.mk (below_step (IsS69.nb) hb); clear HI0 ba HK HB; have dj := bH; have dk := bI; have HI0 := bJ; have ba := bK; have HK := bL; have HB := bM; clear bH bI bJ bK bL bM; (try clear hb); (try clear dK); (try clear dL)) | ((with_reducible refine gate_dst (N := 3) rfl ?_); refine bxe 3 #[.slice none 0 0, .slice none 0 0] 27 ?_; intro bl hg w5 hbox hb; have bH := nR dj hb; have bI := nR dk hb; have bJ := Aside0.mk (IsS69.below (IsS69.n) hb); have bK := nblk ba hb; have bL := Aside0.mk (KeepBut.trans (nK HK) (KeepBut.of_below hb g none) (.inl rfl)); have bM := Aside0.mk (below_step (IsS69.nb) hb); have dh := hbox; have di := Aside0.mk ((by rw [hg]; exact (keep_size (w := w) (g := g) (row := none) (nK HK)) : w.heap.size ≤ bl)); have dM := Aside0.mk ((Nat.le_trans HW0.out (by rw [hg]; exact (keep_size (w := w) (g := g) (row := none) (nK HK)) : w.heap.size ≤ bl) : w0.heap.size ≤ bl)); have dN := nlt ba hg; have dO := ngt ba hg; have dP := Aside0.mk ((by rw [hg]; exact Nat.ne_of_lt (IsS69.lt (show IsS69 w0 _ g s0_0 s0_1 s0_2 from IsS69.n)) : g ≠ bl)); have dQ := Aside0.mk ((by rw [hg]; exact Nat.ne_of_gt (IsS69.lt (show IsS69 w0 _ g s0_0 s0_1 s0_2 from IsS69.n)) : bl ≠ g)); clear dj dk HI0 ba HK HB; have dj := bH; have dk := bI; have HI0 := bJ; have ba := bK; have HK := bL; have HB := bM; have bb := dh; have eK := di; have dR := dM; have dF := dN; have dS := dO; have dT := dP; have bC := dQ; clear bH bI bJ bK bL bM dh di dM dN dO dP dQ; clear hb hbox hg; obtain ⟨ee, ef, eg⟩ := Kd.R_slice dj.out; subst eg; have eL := dS.out; have eM := dF.out; have eN := bC.out; have eO := dT.out; obtain ⟨dU, dV⟩ := c2e bb; obtain ⟨dW, dX⟩ := z2_ bb; obtain ⟨bq, br, bR⟩ := Kd.R_slice dk.out; subst bR))
 go_loopg [4] k (fun kq v4 w' => ∃ (bs : Int) (bD : Int) (bE : Int) (bg : List (S36)) (bn : Value), v4 = .int .i64 bs ∧ Aside0 (spec_l8DrawRight.l0 kq bs s0_0 bD bE bg bk = some (r1, r2, r3, r4)) ∧ Aside0 (kq ≤ k) ∧ Aside0 (Kd.R k36 36 w' w.heap.size (fun _ => True) bn bg) ∧ Aside0 (Kd.R Kd.bool 4 w' w.heap.size (fun _ => True) (.slice bq bk.length br) bk) ∧ Aside0 (w'.heap[bm]? = some (.cells #[(.slice none 0 0), (.slice none 0 0)] 27 (0, 0))) ∧ Aside0 (w'.heap[bl]? = some (.cells #[bn, (.slice bq bk.length br)] 27 (0, 0))) ∧ Aside0 (IsS69 w0 w' g s0_0 bD bE) ∧ Aside0 (KeepBut w w' g none) ∧ Aside0 (Below w0.heap.size w0 w'))
 case atStart => exact ⟨(0), (s0_1), (s0_2), (dt), (.slice ee dt.length ef), (by first | rfl | (simp; done) | (simp [*]; done)), H', ⟨Nat.le_refl _⟩, ⟨by (with_reducible repeat (first | apply Kd.R_alloc | apply Kd.R_drewN | apply Kd.R_drew)); exact Kd.R_mono (eR2_ (Kd.R_types dj.out bb.out (by decide))) (fun _ hk => trivial)⟩, ⟨by (with_reducible repeat (first | apply Kd.R_alloc | apply Kd.R_drewN | apply Kd.R_drew)); exact Kd.R_mono (eR2_ (Kd.R_types dk.out bb.out (by decide))) (fun _ hk => trivial)⟩, ⟨k2_ dF.out (nb ba)⟩, ⟨q2 bb⟩, ⟨IsS69.n⟩, ⟨nK HK⟩, ⟨IsS69.nb⟩⟩
 case round =>
  clear H'; try clear p2
  try clear c5
  try clear c6
  try clear c7
  try clear c8
  try clear dU
  try clear dV
  try clear dW
  try clear dX
  obtain ⟨bs, bD, bE, bg, bn, rfl, HA, du, bc, bf, ba, bb, HI0, HK, HB⟩ := hrel
  cases gk with
  | zero => exact absurd HA.out (by simp [spec_l8DrawRight.l0])
  | succ k1 =>
   have H := HA.out; clear HA; simp only [spec_l8DrawRight.l0] at H; replace H := Option.bind_eq_some_iff.mp H; obtain ⟨⟨b7, bO, bP⟩, A110, H⟩ := H; replace H : (if bs < b7 then ((spec_l1Below.f s0_0 bO bP 24).bind fun bv => ((spec_l3DrawRight.f k1 s0_0 bv.2.1 bv.2.2).bind fun bh => (if 0 ≤ bv.1 then (if bv.1 < (bg.length : Int) then (spec_l8DrawRight.l0 k1 (wrap64 (bs + 1)) s0_0 bh.2.2.2.2.2.2.1 bh.2.2.2.2.2.2.2 (bg.set (bv.1 : Int).toNat (⟨bh.1, bh.2.1, (⟨bh.2.2.1, bh.2.2.2.1, bh.2.2.2.2.1, bh.2.2.2.2.2.1⟩ : S34)⟩ : S36)) bk) else (none)) else (none)))) else (spec_l8DrawRight.l1 k1 0 s0_0 bO bP bg bk)) = some (r1, r2, r3, r4) := H; have A11 := Aside0.mk A110; clear A110
   by_cases c12 : bs < b7
   ·rw [if_pos c12] at H
    have c12b0 : decide (bs < b7) = true := decide_eq_true c12; clear c12; replace H := Option.bind_eq_some_iff.mp H; obtain ⟨⟨bd, dl, dm⟩, A130, H⟩ := H; replace H : ((spec_l3DrawRight.f k1 s0_0 dl dm).bind fun bh => (if 0 ≤ bd then (if bd < (bg.length : Int) then (spec_l8DrawRight.l0 k1 (wrap64 (bs + 1)) s0_0 bh.2.2.2.2.2.2.1 bh.2.2.2.2.2.2.2 (bg.set (bd : Int).toNat (⟨bh.1, bh.2.1, (⟨bh.2.2.1, bh.2.2.2.1, bh.2.2.2.2.1, bh.2.2.2.2.2.1⟩ : S34)⟩ : S36)) bk) else (none)) else (none))) = some (r1, r2, r3, r4) := H; have A13 := Aside0.mk A130; clear A130; replace H := Option.bind_eq_some_iff.mp H; obtain ⟨⟨bS, bT, bU, bV, bW, bX, dv, dw⟩, A140, H⟩ := H; replace H : (if 0 ≤ bd then (if bd < (bg.length : Int) then (spec_l8DrawRight.l0 k1 (wrap64 (bs + 1)) s0_0 dv dw (bg.set (bd : Int).toNat (⟨bS, bT, (⟨bU, bV, bW, bX⟩ : S34)⟩ : S36)) bk) else (none)) else (none)) = some (r1, r2, r3, r4) := H; have A14 := Aside0.mk A140; clear A140
    by_cases c15 : 0 ≤ bd
    ·rw [if_pos c15] at H
     have c15b0 : decide (0 ≤ bd) = true := decide_eq_true c15; clear c15
     by_cases c16 : bd < (bg.length : Int)
     ·rw [if_pos c16] at H
      have c16b0 : decide (bd < (bg.length : Int)) = true := decide_eq_true c16; clear c16; obtain ⟨dY, dn⟩ : ∃ y_ : List (S36), y_ = (bg.set (bd : Int).toNat (⟨bS, bT, (⟨bU, bV, bW, bX⟩ : S34)⟩ : S36)) := ⟨_, rfl⟩; replace H : (spec_l8DrawRight.l0 k1 (wrap64 (bs + 1)) s0_0 dv dw dY bk) = some (r1, r2, r3, r4) := by first | (rw [dn]; with_reducible exact H) | (have H2_ := (Option.bind_some _ _).symm.trans H; rw [dn]; with_reducible exact H2_) | (have H2_ := (Option.bind_some _ _).symm.trans H; with_reducible exact H2_) | with_reducible exact H | (rw [dn]; exact H) | exact H
      have eh := Aside0.mk dn; clear dn; have H' := Aside0.mk H; clear H
      try go_wp2_with (first | ((with_reducible refine gate_callee (f := 32) rfl ?_); refine goesM (some 9) rfl rfl Try.func32 (by kernel_rfl) rfl #[.pointer (some ⟨g, 0, none⟩), .int .i64 12] rfl ?_; (with_reducible refine (spec_l1Below.calls g s0_0 bD bE 12 b7 bO bP w0 _ ?side1 ?side2 A11.out).mono ?_); (case side1 => exact IsS69.n); (case side2 => exact IsS69.nb); rintro e ei ⟨rfl, hi, hb, hk⟩; refine ⟨_, rfl, ?_⟩; replace bc := Aside0.mk (Kd.R_mono (Kd.R_keep (IsS69.apart (show IsS69 w0 _ g s0_0 bD bE from IsS69.n) (nRo bc) (by decide)) hk (fun _ h => h.2)) (fun _ h => h.1)); replace bf := Aside0.mk (Kd.R_mono (Kd.R_keep (IsS69.apart (show IsS69 w0 _ g s0_0 bD bE from IsS69.n) (nRo bf) (by decide)) hk (fun _ h => h.2)) (fun _ h => h.1)); replace ba := Aside0.mk (KeepBut.blk hk (g' := bm) (o := .cells #[.slice none 0 0, .slice none 0 0] 27 (0, 0)) (nb ba) bN.out (by simp)); replace bb := Aside0.mk (KeepBut.blk hk (g' := bl) (o := .cells #[bn, .slice bq bk.length br] 27 (0, 0)) (nb bb) bC.out (by simp)); replace HK := Aside0.mk (KeepBut.trans (nK HK) hk (.inl rfl)); replace HB := Aside0.mk (hb); replace HI0 := Aside0.mk (hi); (try clear hb)))
      replace bc := Aside0.mk (Kd.R_drew bc.out); replace bf := Aside0.mk (Kd.R_drew bf.out); replace ba := Aside0.mk (blk_drew ba.out); replace bb := Aside0.mk (blk_drew bb.out); replace HI0 := Aside0.mk (IsS69.drew HI0.out); replace HK := Aside0.mk (keep_drew HK.out); replace HB := Aside0.mk (below_drew1 HB.out); refine start_ (n := 8) (S := fun w' => w'.cell? ⟨bl, 0, none⟩ = some (bn) ∧ w'.cell? ⟨bl, 1, none⟩ = some (.slice bq bk.length br)) (ds := [7]) #[false, false, false, false, false, false, false, false] (by kernel_rfl) rfl rfl (c2e bb) (fun hHeld => ?_); refine with_tabW spec_l8DrawRight.tab5 spec_l8DrawRight.bits5 (fun HT_ HW_ => ?_); generalize ei.drew = eP at bc bf ba bb HI0 HK HB hHeld ⊢; refine rP HT_.out 0 13 #[true, false, false, false, false, false, false, false] ?_; refine rP HT_.out 2 15 #[true, false, true, false, false, false, false, false] ?_; refine rP HT_.out 4 17 #[true, false, true, false, true, false, false, false] ?_; refine rT HT_.out HW_.out hHeld 1 14 #[true, true, true, false, true, false, false, false] ?_; refine one_ (i := 3) (N := some 16) #[true, true, true, true, true, false, false, false] rfl rfl (one_of HT_.out (by kernel_rfl)) (by decide) (fun K hK => ?_); refine goesR Try.func32 (by kernel_rfl) rfl #[.pointer (some ⟨g, 0, none⟩), .int .i64 24] (by rfl) rfl rfl ?_; (with_reducible refine (spec_l1Below.calls g s0_0 bO bP 24 bd dl dm w0 _ ?side1 ?side2 A13.out).mono ?_); (case side1 => exact IsS69.n); (case side2 => exact IsS69.nb); rintro e eQ ⟨rfl, hi, hb, hk⟩; refine ⟨_, rfl, ?_⟩; replace bc := Aside0.mk (Kd.R_mono (Kd.R_keep (IsS69.apart (show IsS69 w0 _ g s0_0 bO bP from IsS69.n) (nRo bc) (by decide)) hk (fun _ h => h.2)) (fun _ h => h.1)); replace bf := Aside0.mk (Kd.R_mono (Kd.R_keep (IsS69.apart (show IsS69 w0 _ g s0_0 bO bP from IsS69.n) (nRo bf) (by decide)) hk (fun _ h => h.2)) (fun _ h => h.1)); replace ba := Aside0.mk (KeepBut.blk hk (g' := bm) (o := .cells #[.slice none 0 0, .slice none 0 0] 27 (0, 0)) (nb ba) bN.out (by simp)); replace bb := Aside0.mk (KeepBut.blk hk (g' := bl) (o := .cells #[bn, .slice bq bk.length br] 27 (0, 0)) (nb bb) bC.out (by simp)); replace HK := Aside0.mk (KeepBut.trans (nK HK) hk (.inl rfl)); replace HB := Aside0.mk (hb); replace HI0 := Aside0.mk (hi); (try clear hb); refine hK.out _ _ (c2e bb) (fun hHeld => ?_); clear hK K; refine norm_ (a' := ?_) ?_ ?_; rotate_left
      ·show Act.put _ (some 16) _ = _
       simp only [Act.put, List.setIfInBounds_toArray, List.set_cons_zero, List.set_cons_succ, i64_w, i32_w]; rfl
      refine one_ (i := 5) (N := some 18) #[true, true, true, true, true, true, false, false] rfl rfl (one_of HT_.out (by kernel_rfl)) (by decide) (fun K hK => ?_); refine goesR Try.func56 (by kernel_rfl) rfl #[.pointer (some ⟨g, 0, none⟩)] (by rfl) rfl rfl ?_; (with_reducible refine (spec_l3DrawRight.calls k1 g s0_0 dl dm bS bT bU bV bW bX dv dw w0 _ ?side1 ?side2 A14.out).mono ?_); (case side1 => exact IsS69.n); (case side2 => exact IsS69.nb); rintro e eR ⟨rfl, hi, hb, hk⟩; refine ⟨_, rfl, ?_⟩; replace bc := Aside0.mk (Kd.R_mono (Kd.R_keep (IsS69.apart (show IsS69 w0 _ g s0_0 dl dm from IsS69.n) (nRo bc) (by decide)) hk (fun _ h => h.2)) (fun _ h => h.1)); replace bf := Aside0.mk (Kd.R_mono (Kd.R_keep (IsS69.apart (show IsS69 w0 _ g s0_0 dl dm from IsS69.n) (nRo bf) (by decide)) hk (fun _ h => h.2)) (fun _ h => h.1)); replace ba := Aside0.mk (KeepBut.blk hk (g' := bm) (o := .cells #[.slice none 0 0, .slice none 0 0] 27 (0, 0)) (nb ba) bN.out (by simp)); replace bb := Aside0.mk (KeepBut.blk hk (g' := bl) (o := .cells #[bn, .slice bq bk.length br] 27 (0, 0)) (nb bb) bC.out (by simp)); replace HK := Aside0.mk (KeepBut.trans (nK HK) hk (.inl rfl)); replace HB := Aside0.mk (hb); replace HI0 := Aside0.mk (hi); (try clear hb); have p17 : 0 ≤ (bd : Int) := of_decide_eq_true (by first | (with_reducible assumption) | assumption); have q17 : (bd : Int) < ((bg.length : Int) : Int) := of_decide_eq_true (by first | (with_reducible assumption) | assumption); obtain ⟨bj, ej, dZ, d0, gl17, cl17, HG17⟩ := Kd.R_form bc.out (by omega); (first | cases dZ | (injection dZ with ea_ en_ ec_; (first | subst ea_ | (injection ea_ with ea_; subst ea_)); subst ec_; clear en_)); have b8 := Aside0.mk d0; have ek := Aside0.mk HG17; clear d0 gl17 HG17; obtain ⟨eS, el, d1, bY, bZ⟩ := Kd.R_elem bc.out z36 (bd : Int) p17 q17; obtain rfl := k36_openM d1; have em : World.cell? _ ⟨bj, (bd : Int).toNat * 6, none⟩ = some (.int .i64 ((rd_T36 bg bd).f0)) := bY 0 _ rfl; have en : World.cell? _ ⟨bj, (bd : Int).toNat * 6 + 1, none⟩ = some (.bool ((rd_T36 bg bd).f1)) := bY 1 _ rfl; have eo : World.cell? _ ⟨bj, (bd : Int).toNat * 6 + 2, none⟩ = some (.int .i64 ((rd_T36 bg bd).f2.f0)) := bY 2 _ rfl; have ep : World.cell? _ ⟨bj, (bd : Int).toNat * 6 + 3, none⟩ = some (.int .i64 ((rd_T36 bg bd).f2.f1)) := bY 3 _ rfl; have er : World.cell? _ ⟨bj, (bd : Int).toNat * 6 + 4, none⟩ = some (.int .i64 ((rd_T36 bg bd).f2.f2)) := bY 4 _ rfl; have es : World.cell? _ ⟨bj, (bd : Int).toNat * 6 + 5, none⟩ = some (.int .i64 ((rd_T36 bg bd).f2.f3)) := bY 5 _ rfl; have hf17_0 : World.frozen? _ ⟨bj, (bd : Int).toNat * 6, none⟩ = false := bZ 0; have hf17_1 : World.frozen? _ ⟨bj, (bd : Int).toNat * 6 + 1, none⟩ = false := bZ 1; have hf17_2 : World.frozen? _ ⟨bj, (bd : Int).toNat * 6 + 2, none⟩ = false := bZ 2; have hf17_3 : World.frozen? _ ⟨bj, (bd : Int).toNat * 6 + 3, none⟩ = false := bZ 3; have hf17_4 : World.frozen? _ ⟨bj, (bd : Int).toNat * 6 + 4, none⟩ = false := bZ 4; have hf17_5 : World.frozen? _ ⟨bj, (bd : Int).toNat * 6 + 5, none⟩ = false := bZ 5; clear el bY bZ d1; replace p17 := eq_true p17; replace q17 := eq_true q17; have HN0_go17 := Aside0.mk (show g ≠ bj from by have h_ := IsS69.own_ne HI0.out bc.out (by decide); intro e_; exact h_ (by rw [e_]; rfl)); obtain ⟨eT, d2, d3, d4, et⟩ := Kd.R_elem bc.out z36 (bd : Int) (of_decide_eq_true (by first | (with_reducible assumption) | assumption)) (by have h_ : (bd : Int) < ((bg.length : Int) : Int) := of_decide_eq_true (by first | (with_reducible assumption) | assumption); first | exact h_ | (have e_ := (Kd.R_reads' bc.out).1; omega) | simpa using h_); obtain rfl := k36_openM d3; have HP22 := (Kd.R_seg bc.out (bd : Int) (of_decide_eq_true (by first | (with_reducible assumption) | assumption)) (by have h_ : (bd : Int) < ((bg.length : Int) : Int) := of_decide_eq_true (by first | (with_reducible assumption) | assumption); first | exact h_ | (have e_ := (Kd.R_reads' bc.out).1; omega) | simpa using h_) (seg := [.int .i64 bS, .bool bT, .int .i64 bU, .int .i64 bV, .int .i64 bW, .int .i64 bX]) (j := 0) d2 d4 (show 6 ≤ 6 from by decide) (x' := (⟨bS, bT, (⟨bU, bV, bW, bX⟩ : S34)⟩ : S36)) (k36_mkM _ _ _ (⟨bS, bT, (⟨bU, bV, bW, bX⟩ : S34)⟩ : S36) ) (fun _ hk => hk)).1; rw [← eh.out] at HP22; have HQ22 := Aside0.mk HP22; clear d2 d4 et d3 HP22; refine hK.out _ _ (c2e bb) (fun hHeld => ?_); clear hK K; refine norm_ (a' := ?_) ?_ ?_; rotate_left
      ·show Act.put _ (some 18) _ = _
       simp only [Act.put, List.setIfInBounds_toArray, List.set_cons_zero, List.set_cons_succ, i64_w, i32_w]; rfl
      refine rP HT_.out 6 19 #[true, true, true, true, true, true, true, false] ?_; refine last_ (i := 7) (N := none) #[true, true, true, true, true, true, true, true] rfl rfl (one_of HT_.out (by kernel_rfl)) (by decide) (fun K hK => ?_); refine skip_ (w1 := ?_) (by rfl) rfl ?_ ?_; rotate_left
      ·go_simp
       rfl
      refine hK.out _ _ ?_; clear hK K; refine done_ (done_of HT_.out (by kernel_rfl)) ?_
      try go_wp2
      go_roundg k1
      case measure => have := du.out; omega
      case rel => exact ⟨(wrap64 (bs + 1)), (dv), (dw), (dY), (.slice (some ⟨bj, 0, none⟩) bg.length ej), (by first | rfl | (simp; done) | (simp [*]; done)), H', ⟨by have := du.out; omega⟩, ⟨by (with_reducible repeat (first | apply Kd.R_alloc | apply Kd.R_drewN | apply Kd.R_drew)); exact HQ22.out⟩, ⟨by (with_reducible repeat (first | apply Kd.R_alloc | apply Kd.R_drewN | apply Kd.R_drew)); exact Kd.R_mono (Kd.R_far (p := ⟨bj, (bd : Int).toNat * 6 + 5, none⟩) (Kd.R_far (p := ⟨bj, (bd : Int).toNat * 6 + 4, none⟩) (Kd.R_far (p := ⟨bj, (bd : Int).toNat * 6 + 3, none⟩) (Kd.R_far (p := ⟨bj, (bd : Int).toNat * 6 + 2, none⟩) (Kd.R_far (p := ⟨bj, (bd : Int).toNat * 6 + 1, none⟩) (Kd.R_far (p := ⟨bj, (bd : Int).toNat * 6, none⟩) (Kd.R_types bf.out ek.out (by decide)) (fun _ hk => hk.2) (.int .i64 bS)) (fun _ hk => hk.2) (.bool bT)) (fun _ hk => hk.2) (.int .i64 bU)) (fun _ hk => hk.2) (.int .i64 bV)) (fun _ hk => hk.2) (.int .i64 bW)) (fun _ hk => hk.2) (.int .i64 bX)) (fun _ hk => trivial)⟩, ⟨by (with_reducible repeat (first | refine blk_drewN ?_ _ | refine blk_drew ?_ | refine blk_alloc ?_ _)); refine blk_far ?_ (by have h_ := Kd.R_ne bc.out ba.out (by decide); intro e_; exact h_ (by rw [e_]; rfl)) _; (with_reducible repeat (first | refine blk_drewN ?_ _ | refine blk_drew ?_ | refine blk_alloc ?_ _)); refine blk_far ?_ (by have h_ := Kd.R_ne bc.out ba.out (by decide); intro e_; exact h_ (by rw [e_]; rfl)) _; (with_reducible repeat (first | refine blk_drewN ?_ _ | refine blk_drew ?_ | refine blk_alloc ?_ _)); refine blk_far ?_ (by have h_ := Kd.R_ne bc.out ba.out (by decide); intro e_; exact h_ (by rw [e_]; rfl)) _; (with_reducible repeat (first | refine blk_drewN ?_ _ | refine blk_drew ?_ | refine blk_alloc ?_ _)); refine blk_far ?_ (by have h_ := Kd.R_ne bc.out ba.out (by decide); intro e_; exact h_ (by rw [e_]; rfl)) _; (with_reducible repeat (first | refine blk_drewN ?_ _ | refine blk_drew ?_ | refine blk_alloc ?_ _)); refine blk_far ?_ (by have h_ := Kd.R_ne bc.out ba.out (by decide); intro e_; exact h_ (by rw [e_]; rfl)) _; (with_reducible repeat (first | refine blk_drewN ?_ _ | refine blk_drew ?_ | refine blk_alloc ?_ _)); refine blk_far ?_ (by have h_ := Kd.R_ne bc.out ba.out (by decide); intro e_; exact h_ (by rw [e_]; rfl)) _; (with_reducible repeat (first | refine blk_drewN ?_ _ | refine blk_drew ?_ | refine blk_alloc ?_ _)); exact ba.out⟩, ⟨by (with_reducible repeat (first | refine blk_drewN ?_ _ | refine blk_drew ?_ | refine blk_alloc ?_ _)); refine blk_far ?_ (by have h_ := Kd.R_ne bc.out bb.out (by decide); intro e_; exact h_ (by rw [e_]; rfl)) _; (with_reducible repeat (first | refine blk_drewN ?_ _ | refine blk_drew ?_ | refine blk_alloc ?_ _)); refine blk_far ?_ (by have h_ := Kd.R_ne bc.out bb.out (by decide); intro e_; exact h_ (by rw [e_]; rfl)) _; (with_reducible repeat (first | refine blk_drewN ?_ _ | refine blk_drew ?_ | refine blk_alloc ?_ _)); refine blk_far ?_ (by have h_ := Kd.R_ne bc.out bb.out (by decide); intro e_; exact h_ (by rw [e_]; rfl)) _; (with_reducible repeat (first | refine blk_drewN ?_ _ | refine blk_drew ?_ | refine blk_alloc ?_ _)); refine blk_far ?_ (by have h_ := Kd.R_ne bc.out bb.out (by decide); intro e_; exact h_ (by rw [e_]; rfl)) _; (with_reducible repeat (first | refine blk_drewN ?_ _ | refine blk_drew ?_ | refine blk_alloc ?_ _)); refine blk_far ?_ (by have h_ := Kd.R_ne bc.out bb.out (by decide); intro e_; exact h_ (by rw [e_]; rfl)) _; (with_reducible repeat (first | refine blk_drewN ?_ _ | refine blk_drew ?_ | refine blk_alloc ?_ _)); refine blk_far ?_ (by have h_ := Kd.R_ne bc.out bb.out (by decide); intro e_; exact h_ (by rw [e_]; rfl)) _; (with_reducible repeat (first | refine blk_drewN ?_ _ | refine blk_drew ?_ | refine blk_alloc ?_ _)); exact bb.out⟩, ⟨IsS69.n⟩, ⟨nK HK⟩, ⟨by repeat (first | (with_reducible first | exact HB.out | apply below_alloc | apply pw_below_drewN | apply below_drew1 | refine below_set ?_ (Nat.le_trans HL.out b8.out) | refine below_set ?_ (Nat.le_trans HL.out b8.out) | refine below_set ?_ (Nat.le_trans HL.out b8.out) | refine below_set ?_ (Nat.le_trans HL.out b8.out) | refine below_set ?_ (Nat.le_trans HL.out b8.out) | refine below_set ?_ (Nat.le_trans HL.out b8.out) | refine below_set ?_ (IsS69.ge HI0.out) | refine below_set ?_ dJ.out | refine below_set ?_ dR.out) | exact HB.out)⟩⟩
     ·rw [if_neg c16] at H
      exact absurd H (by simp)
    ·rw [if_neg c15] at H
     exact absurd H (by simp)
   ·rw [if_neg c12] at H
    have c12b0 : decide (bs < b7) = false := decide_eq_false c12; clear c12; have H' := Aside0.mk H; clear H
    go_wp2_with (first | ((with_reducible refine gate_callee (f := 32) rfl ?_); refine goesM (some 9) rfl rfl Try.func32 (by kernel_rfl) rfl #[.pointer (some ⟨g, 0, none⟩), .int .i64 12] rfl ?_; (with_reducible refine (spec_l1Below.calls g s0_0 bD bE 12 b7 bO bP w0 _ ?side1 ?side2 A11.out).mono ?_); (case side1 => exact IsS69.n); (case side2 => exact IsS69.nb); rintro e eU ⟨rfl, hi, hb, hk⟩; refine ⟨_, rfl, ?_⟩; replace bc := Aside0.mk (Kd.R_mono (Kd.R_keep (IsS69.apart (show IsS69 w0 _ g s0_0 bD bE from IsS69.n) (nRo bc) (by decide)) hk (fun _ h => h.2)) (fun _ h => h.1)); replace bf := Aside0.mk (Kd.R_mono (Kd.R_keep (IsS69.apart (show IsS69 w0 _ g s0_0 bD bE from IsS69.n) (nRo bf) (by decide)) hk (fun _ h => h.2)) (fun _ h => h.1)); replace ba := Aside0.mk (KeepBut.blk hk (g' := bm) (o := .cells #[.slice none 0 0, .slice none 0 0] 27 (0, 0)) (nb ba) bN.out (by simp)); replace bb := Aside0.mk (KeepBut.blk hk (g' := bl) (o := .cells #[bn, .slice bq bk.length br] 27 (0, 0)) (nb bb) bC.out (by simp)); replace HK := Aside0.mk (KeepBut.trans (nK HK) hk (.inl rfl)); replace HB := Aside0.mk (hb); replace HI0 := Aside0.mk (hi); (try clear hb)))
    go_loopg [5] k1 (fun kq v5 w' => ∃ (bx : Int) (bF : Int) (bG : Int) (bo : List Bool) (b0 : Value), v5 = .int .i64 bx ∧ Aside0 (spec_l8DrawRight.l1 kq bx s0_0 bF bG bg bo = some (r1, r2, r3, r4)) ∧ Aside0 (kq ≤ k1) ∧ Aside0 (Kd.R k36 36 w' w.heap.size (fun _ => True) bn bg) ∧ Aside0 (Kd.R Kd.bool 4 w' w.heap.size (fun _ => True) b0 bo) ∧ Aside0 (w'.heap[bm]? = some (.cells #[(.slice none 0 0), (.slice none 0 0)] 27 (0, 0))) ∧ Aside0 (w'.heap[bl]? = some (.cells #[bn, b0] 27 (0, 0))) ∧ Aside0 (IsS69 w0 w' g s0_0 bF bG) ∧ Aside0 (KeepBut w w' g none) ∧ Aside0 (Below w0.heap.size w0 w'))
    case atStart => exact ⟨(0), (bO), (bP), (bk), (.slice bq bk.length br), (by first | rfl | (simp; done) | (simp [*]; done)), H', ⟨Nat.le_refl _⟩, ⟨by (with_reducible repeat (first | apply Kd.R_alloc | apply Kd.R_drewN | apply Kd.R_drew)); exact bc.out⟩, ⟨by (with_reducible repeat (first | apply Kd.R_alloc | apply Kd.R_drewN | apply Kd.R_drew)); exact bf.out⟩, ⟨nb ba⟩, ⟨nb bb⟩, ⟨IsS69.n⟩, ⟨nK HK⟩, ⟨IsS69.nb⟩⟩
    case round =>
     clear H'; try clear c1
     try clear p1
     try clear q1
     try clear eV
     try clear hf1
     try clear c2
     try clear p2
     try clear c3
     try clear c5
     try clear c6
     try clear p6
     try clear c7
     try clear c8
     try clear c12
     try clear c12b0
     try clear c15
     try clear c15b0
     try clear c16
     try clear c16b0
     try clear c17
     try clear p17
     try clear q17
     try clear eW
     try clear hf17
     try clear c22
     try clear dU
     try clear dV
     try clear dW
     try clear dX
     try clear em
     try clear en
     try clear eo
     try clear ep
     try clear er
     try clear es
     try clear p17
     try clear p2
     try clear q17
     obtain ⟨bx, bF, bG, bo, b0, rfl, HA, d5, bc, bf, ba, bb, HI0, HK, HB⟩ := hrel
     cases gk with
     | zero => exact absurd HA.out (by simp [spec_l8DrawRight.l1])
     | succ k2 =>
      have H := HA.out; clear HA; simp only [spec_l8DrawRight.l1] at H; replace H := Option.bind_eq_some_iff.mp H; obtain ⟨⟨b9, b1, b2⟩, A240, H⟩ := H; replace H : (if bx < b9 then ((spec_l1Below.f s0_0 b1 b2 24).bind fun bw => (if 0 ≤ bw.1 then (if bw.1 < (bo.length : Int) then (spec_l8DrawRight.l1 k2 (wrap64 (bx + 1)) s0_0 bw.2.1 bw.2.2 bg (bo.set (bw.1 : Int).toNat true)) else (none)) else (none))) else (some (bg, bo, b1, b2))) = some (r1, r2, r3, r4) := H; have A24 := Aside0.mk A240; clear A240
      by_cases c25 : bx < b9
      ·rw [if_pos c25] at H
       have c25b0 : decide (bx < b9) = true := decide_eq_true c25; clear c25; replace H := Option.bind_eq_some_iff.mp H; obtain ⟨⟨bp, dx, dy⟩, A260, H⟩ := H; replace H : (if 0 ≤ bp then (if bp < (bo.length : Int) then (spec_l8DrawRight.l1 k2 (wrap64 (bx + 1)) s0_0 dx dy bg (bo.set (bp : Int).toNat true)) else (none)) else (none)) = some (r1, r2, r3, r4) := H; have A26 := Aside0.mk A260; clear A260
       by_cases c27 : 0 ≤ bp
       ·rw [if_pos c27] at H
        have c27b0 : decide (0 ≤ bp) = true := decide_eq_true c27; clear c27
        by_cases c28 : bp < (bo.length : Int)
        ·rw [if_pos c28] at H
         have c28b0 : decide (bp < (bo.length : Int)) = true := decide_eq_true c28; clear c28; obtain ⟨d6, dp⟩ : ∃ y_ : List Bool, y_ = (bo.set (bp : Int).toNat true) := ⟨_, rfl⟩; replace H : (spec_l8DrawRight.l1 k2 (wrap64 (bx + 1)) s0_0 dx dy bg d6) = some (r1, r2, r3, r4) := by first | (rw [dp]; with_reducible exact H) | (have H2_ := (Option.bind_some _ _).symm.trans H; rw [dp]; with_reducible exact H2_) | (have H2_ := (Option.bind_some _ _).symm.trans H; with_reducible exact H2_) | with_reducible exact H | (rw [dp]; exact H) | exact H
         have eu := Aside0.mk dp; clear dp; have H' := Aside0.mk H; clear H
         try go_wp2_with (first | ((with_reducible refine gate_callee (f := 32) rfl ?_); refine goesM (some 22) rfl rfl Try.func32 (by kernel_rfl) rfl #[.pointer (some ⟨g, 0, none⟩), .int .i64 4] rfl ?_; (with_reducible refine (spec_l1Below.calls g s0_0 bF bG 4 b9 b1 b2 w0 _ ?side1 ?side2 A24.out).mono ?_); (case side1 => exact IsS69.n); (case side2 => exact IsS69.nb); rintro e ev ⟨rfl, hi, hb, hk⟩; refine ⟨_, rfl, ?_⟩; replace bc := Aside0.mk (Kd.R_mono (Kd.R_keep (IsS69.apart (show IsS69 w0 _ g s0_0 bF bG from IsS69.n) (nRo bc) (by decide)) hk (fun _ h => h.2)) (fun _ h => h.1)); replace bf := Aside0.mk (Kd.R_mono (Kd.R_keep (IsS69.apart (show IsS69 w0 _ g s0_0 bF bG from IsS69.n) (nRo bf) (by decide)) hk (fun _ h => h.2)) (fun _ h => h.1)); replace ba := Aside0.mk (KeepBut.blk hk (g' := bm) (o := .cells #[.slice none 0 0, .slice none 0 0] 27 (0, 0)) (nb ba) bN.out (by simp)); replace bb := Aside0.mk (KeepBut.blk hk (g' := bl) (o := .cells #[bn, b0] 27 (0, 0)) (nb bb) bC.out (by simp)); replace HK := Aside0.mk (KeepBut.trans (nK HK) hk (.inl rfl)); replace HB := Aside0.mk (hb); replace HI0 := Aside0.mk (hi); (try clear hb)))
         replace bc := Aside0.mk (Kd.R_drew bc.out); replace bf := Aside0.mk (Kd.R_drew bf.out); replace ba := Aside0.mk (blk_drew ba.out); replace bb := Aside0.mk (blk_drew bb.out); replace HI0 := Aside0.mk (IsS69.drew HI0.out); replace HK := Aside0.mk (keep_drew HK.out); replace HB := Aside0.mk (below_drew1 HB.out); refine start_ (n := 6) (S := fun w' => w'.cell? ⟨bl, 0, none⟩ = some (bn) ∧ w'.cell? ⟨bl, 1, none⟩ = some (b0)) (ds := [5]) #[false, false, false, false, false, false] (by kernel_rfl) rfl rfl (c2e bb) (fun hHeld => ?_); generalize ev.drew = eX at bc bf ba bb HI0 HK HB hHeld ⊢; refine rPk 0 26 #[true, false, false, false, false, false] ?_; refine rPk 2 28 #[true, false, true, false, false, false] ?_; refine rTk hHeld 1 27 #[true, true, true, false, false, false] ?_; refine one_ (i := 3) (N := some 29) #[true, true, true, true, false, false] rfl rfl (by kernel_rfl) (by decide) (fun K hK => ?_); refine goesR Try.func32 (by kernel_rfl) rfl #[.pointer (some ⟨g, 0, none⟩), .int .i64 24] (by rfl) rfl rfl ?_; (with_reducible refine (spec_l1Below.calls g s0_0 b1 b2 24 bp dx dy w0 _ ?side1 ?side2 A26.out).mono ?_); (case side1 => exact IsS69.n); (case side2 => exact IsS69.nb); rintro e eY ⟨rfl, hi, hb, hk⟩; refine ⟨_, rfl, ?_⟩; replace bc := Aside0.mk (Kd.R_mono (Kd.R_keep (IsS69.apart (show IsS69 w0 _ g s0_0 b1 b2 from IsS69.n) (nRo bc) (by decide)) hk (fun _ h => h.2)) (fun _ h => h.1)); replace bf := Aside0.mk (Kd.R_mono (Kd.R_keep (IsS69.apart (show IsS69 w0 _ g s0_0 b1 b2 from IsS69.n) (nRo bf) (by decide)) hk (fun _ h => h.2)) (fun _ h => h.1)); replace ba := Aside0.mk (KeepBut.blk hk (g' := bm) (o := .cells #[.slice none 0 0, .slice none 0 0] 27 (0, 0)) (nb ba) bN.out (by simp)); replace bb := Aside0.mk (KeepBut.blk hk (g' := bl) (o := .cells #[bn, b0] 27 (0, 0)) (nb bb) bC.out (by simp)); replace HK := Aside0.mk (KeepBut.trans (nK HK) hk (.inl rfl)); replace HB := Aside0.mk (hb); replace HI0 := Aside0.mk (hi); (try clear hb); have p29 : 0 ≤ (bp : Int) := of_decide_eq_true (by first | (with_reducible assumption) | assumption); have q29 : (bp : Int) < ((bo.length : Int) : Int) := of_decide_eq_true (by first | (with_reducible assumption) | assumption); obtain ⟨dG, ew, d7, d8, gl29, cl29, HG29⟩ := Kd.R_form bf.out (by omega); (first | cases d7 | (injection d7 with ea_ en_ ec_; (first | subst ea_ | (injection ea_ with ea_; subst ea_)); subst ec_; clear en_)); have ex := Aside0.mk d8; have ey := Aside0.mk HG29; clear d8 gl29 HG29; obtain ⟨eZ, hf29_0⟩ := Kd.R_celln false bf.out (bp : Int) p29 q29; replace p29 := eq_true p29; replace q29 := eq_true q29; have HN0_go29 := Aside0.mk (show g ≠ dG from by have h_ := IsS69.own_ne HI0.out bf.out (by decide); intro e_; exact h_ (by rw [e_]; rfl)); have HP33 := Kd.R_putn bf.out (bp : Int) true; rw [← eu.out] at HP33; have HQ33 := Aside0.mk HP33; clear HP33; refine hK.out _ _ (c2e bb) (fun hHeld => ?_); clear hK K; refine norm_ (a' := ?_) ?_ ?_; rotate_left
         ·show Act.put _ (some 29) _ = _
          simp only [Act.put, List.setIfInBounds_toArray, List.set_cons_zero, List.set_cons_succ, i64_w, i32_w]; rfl
         refine rPk 4 30 #[true, true, true, true, true, false] ?_; refine last_ (i := 5) (N := none) #[true, true, true, true, true, true] rfl rfl (by kernel_rfl) (by decide) (fun K hK => ?_); refine skip_ (w1 := ?_) (by rfl) rfl ?_ ?_; rotate_left
         ·go_simp
          rfl
         refine hK.out _ _ ?_; clear hK K; refine done_ (by kernel_rfl) ?_
         try go_wp2
         go_roundg k2
         case measure => have := du.out; have := d5.out; omega
         case rel => exact ⟨(wrap64 (bx + 1)), (dx), (dy), (d6), (.slice (some ⟨dG, 0, none⟩) bo.length ew), (by first | rfl | (simp; done) | (simp [*]; done)), H', ⟨by have := du.out; have := d5.out; omega⟩, ⟨by (with_reducible repeat (first | apply Kd.R_alloc | apply Kd.R_drewN | apply Kd.R_drew)); exact Kd.R_mono (Kd.R_far (p := ⟨dG, (bp : Int).toNat, none⟩) (Kd.R_types bc.out ey.out (by decide)) (fun _ hk => hk.2) (.bool true)) (fun _ hk => trivial)⟩, ⟨by (with_reducible repeat (first | apply Kd.R_alloc | apply Kd.R_drewN | apply Kd.R_drew)); exact HQ33.out⟩, ⟨by (with_reducible repeat (first | refine blk_drewN ?_ _ | refine blk_drew ?_ | refine blk_alloc ?_ _)); refine blk_far ?_ (by have h_ := Kd.R_ne bf.out ba.out (by decide); intro e_; exact h_ (by rw [e_]; rfl)) _; (with_reducible repeat (first | refine blk_drewN ?_ _ | refine blk_drew ?_ | refine blk_alloc ?_ _)); exact ba.out⟩, ⟨by (with_reducible repeat (first | refine blk_drewN ?_ _ | refine blk_drew ?_ | refine blk_alloc ?_ _)); refine blk_far ?_ (by have h_ := Kd.R_ne bf.out bb.out (by decide); intro e_; exact h_ (by rw [e_]; rfl)) _; (with_reducible repeat (first | refine blk_drewN ?_ _ | refine blk_drew ?_ | refine blk_alloc ?_ _)); exact bb.out⟩, ⟨IsS69.n⟩, ⟨nK HK⟩, ⟨by repeat (first | (with_reducible first | exact HB.out | apply below_alloc | apply pw_below_drewN | apply below_drew1 | refine below_set ?_ (Nat.le_trans HL.out ex.out) | refine below_set ?_ (IsS69.ge HI0.out) | refine below_set ?_ dJ.out | refine below_set ?_ dR.out) | exact HB.out)⟩⟩
        ·rw [if_neg c28] at H
         exact absurd H (by simp)
       ·rw [if_neg c27] at H
        exact absurd H (by simp)
      ·rw [if_neg c25] at H
       have c25b0 : decide (bx < b9) = false := decide_eq_false c25; clear c25; simp only [Option.some.injEq, Prod.mk.injEq] at H; obtain ⟨rfl, rfl, rfl, rfl⟩ := H
       go_wp2_with (first | ((with_reducible refine gate_callee (f := 32) rfl ?_); refine goesM (some 22) rfl rfl Try.func32 (by kernel_rfl) rfl #[.pointer (some ⟨g, 0, none⟩), .int .i64 4] rfl ?_; (with_reducible refine (spec_l1Below.calls g s0_0 bF bG 4 b9 b1 b2 w0 _ ?side1 ?side2 A24.out).mono ?_); (case side1 => exact IsS69.n); (case side2 => exact IsS69.nb); rintro e e0 ⟨rfl, hi, hb, hk⟩; refine ⟨_, rfl, ?_⟩; replace bc := Aside0.mk (Kd.R_mono (Kd.R_keep (IsS69.apart (show IsS69 w0 _ g s0_0 bF bG from IsS69.n) (nRo bc) (by decide)) hk (fun _ h => h.2)) (fun _ h => h.1)); replace bf := Aside0.mk (Kd.R_mono (Kd.R_keep (IsS69.apart (show IsS69 w0 _ g s0_0 bF bG from IsS69.n) (nRo bf) (by decide)) hk (fun _ h => h.2)) (fun _ h => h.1)); replace ba := Aside0.mk (KeepBut.blk hk (g' := bm) (o := .cells #[.slice none 0 0, .slice none 0 0] 27 (0, 0)) (nb ba) bN.out (by simp)); replace bb := Aside0.mk (KeepBut.blk hk (g' := bl) (o := .cells #[bn, b0] 27 (0, 0)) (nb bb) bC.out (by simp)); replace HK := Aside0.mk (KeepBut.trans (nK HK) hk (.inl rfl)); replace HB := Aside0.mk (hb); replace HI0 := Aside0.mk (hi); (try clear hb); have e1 := dS.out; have e2 := dF.out; have e3 := bC.out; have e4 := dT.out; obtain ⟨e5, e6⟩ := c2e bb; obtain ⟨e7, e8⟩ := z2_ bb; obtain ⟨ez, eA, eB⟩ := Kd.R_slice bc.out; subst eB; have e9 := bN.out; have ga := ed.out; obtain ⟨gb, gc⟩ := c2e ba; obtain ⟨gd, gf⟩ := z2_ ba; obtain ⟨eC, eD, eE⟩ := Kd.R_slice bf.out; subst eE))
       refine bodyPost_ret (results_cell_row rfl _ _ bm 27 #[.slice ez bg.length eA, .slice eC bo.length eD] (0, 0) _ rfl (q2 ba) Try.underlying27 rfl (by kernel_rfl)) rfl ?_; exact ⟨_, _, er_, by (with_reducible repeat (first | apply Kd.R_alloc | apply Kd.R_drewN | apply Kd.R_drew)); exact Kd.R_mono (eR2_ (Kd.R_types bc.out ba.out (by decide))) (fun _ hk => trivial), by (with_reducible repeat (first | apply Kd.R_alloc | apply Kd.R_drewN | apply Kd.R_drew)); exact Kd.R_mono (eR2_ (Kd.R_types bf.out ba.out (by decide))) (fun _ hk => trivial), IsS69.n, IsS69.nb, nK HK⟩

end Go.Proofs.Ytednioabjiabiaa.PFnMemory
