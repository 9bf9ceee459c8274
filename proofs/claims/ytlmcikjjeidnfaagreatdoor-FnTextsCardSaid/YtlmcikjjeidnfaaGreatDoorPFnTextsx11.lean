-- Written by a program of this session (wip/patch.py turns a copy of the kit's print): the functions that the law reaches, and their walks.
import Derived.Test.YtlmcikjjeidnfaaGreatDoorPFnTextsx0
import Derived.Test.YtlmcikjjeidnfaaGreatDoorPFnTextsx2
import Derived.Test.YtlmcikjjeidnfaaGreatDoorPFnTextsx3
import Derived.Test.YtlmcikjjeidnfaaGreatDoorPFnTextsx4
import Derived.Test.YtlmcikjjeidnfaaGreatDoorCFnTexts
namespace Go.Proofs.YtlmcikjjeidnfaaGreatDoor.PFnTexts
open Go.RowKit Go.Proofs.YtlmcikjjeidnfaaGreatDoorW.PrintWords Go.Proofs.YtlmcikjjeidnfaaGreatDoorW.PrintLast Go.Proofs.YtlmcikjjeidnfaaGreatDoorW.PrintMore Go.Proofs.YtlmcikjjeidnfaaGreatDoorW.Mine
attribute [local go_sem] max2_int min2_int max_two min_two max_three min_three max_four min_four   -- for this text's walks alone
set_option linter.unusedVariables false
set_option linter.unusedSimpArgs false

/-! ### spec_l6DrawCode: function 46 -/
mutual
def spec_l6DrawCode.j0 : Nat → List (S25) → List Int → Int → Int → Option ((List (S25)) × Int × Int)
  | 0, _, _, _, _ => none
  | k + 1, x3, dn, dF, dG => (spec_l1Below.f dn dF dG 14).bind fun dK => (spec_l6DrawCode.l0 k x3 dK.1 0 dn dK.2.1 dK.2.2)
def spec_l6DrawCode.l0 : Nat → List (S25) → Int → Int → List Int → Int → Int → Option ((List (S25)) × Int × Int)
  | 0, _, _, _, _, _, _ => none
  | k + 1, x3, x4, x5, dn, dF, dG => if x5 < x4 then ((spec_l6DrawIns.f k dn dF dG).bind fun bU => (if x3.length < 3518437208883 then (spec_l6DrawCode.l0 k (x3 ++ [(⟨bU.1, bU.2.1, bU.2.2.1, bU.2.2.2.1, bU.2.2.2.2.1⟩ : S25)]) x4 (wrap64 (x5 + 1)) dn bU.2.2.2.2.2.1 bU.2.2.2.2.2.2) else (none))) else (if x3.length < 3518437208883 then (some ((x3 ++ [(⟨15, 0, 0, 0, 0⟩ : S25)]), dF, dG)) else (none))
end
def spec_l6DrawCode.f (k : Nat) (s0_0 : List Int) (s0_1 : Int) (s0_2 : Int) : Option ((List (S25)) × Int × Int) := (some (([] : List (S25)) : List (S25))).bind fun bf => ((spec_l1Below.f s0_0 s0_1 s0_2 4).bind fun bj => (if bj.1 = 0 then ((some (([(⟨1, 1, 0, 0, 3⟩ : S25), (⟨5, 2, 0, 1, 0⟩ : S25), (⟨11, 0, 0, 2, 1⟩ : S25), (⟨10, 3, 0, 0, 1⟩ : S25)] : List (S25)) : List (S25))).bind fun bs => (if bf.length + bs.length < 3518437208883 then (spec_l6DrawCode.j0 k (bf ++ bs) s0_0 bj.2.1 bj.2.2) else (none))) else (if bj.1 = 1 then ((some (([(⟨1, 1, 0, 0, 2⟩ : S25), (⟨6, 4, 0, 1, 0⟩ : S25), (⟨7, 2, 0, 4, 0⟩ : S25), (⟨8, 3, 2, 4, 0⟩ : S25)] : List (S25)) : List (S25))).bind fun bt => (if bf.length + bt.length < 3518437208883 then (spec_l6DrawCode.j0 k (bf ++ bt) s0_0 bj.2.1 bj.2.2) else (none))) else (if bj.1 = 2 then ((some (([(⟨1, 1, 0, 0, 5⟩ : S25), (⟨1, 2, 0, 0, (-1)⟩ : S25), (⟨2, 1, 1, 2, 0⟩ : S25), (⟨13, 0, 1, 0, 2⟩ : S25), (⟨13, 0, 5, 0, (-2)⟩ : S25)] : List (S25)) : List (S25))).bind fun bu => (if bf.length + bu.length < 3518437208883 then (spec_l6DrawCode.j0 k (bf ++ bu) s0_0 bj.2.1 bj.2.2) else (none))) else (spec_l6DrawCode.j0 k bf s0_0 bj.2.1 bj.2.2)))))
theorem spec_l6DrawCode.mono_l : ∀ k, (∀ y0 y1 y2 y3, LeO (spec_l6DrawCode.j0 k y0 y1 y2 y3) (spec_l6DrawCode.j0 (k + 1) y0 y1 y2 y3)) ∧ (∀ y0 y1 y2 y3 y4 y5, LeO (spec_l6DrawCode.l0 k y0 y1 y2 y3 y4 y5) (spec_l6DrawCode.l0 (k + 1) y0 y1 y2 y3 y4 y5))
  | 0 => ⟨fun _ _ _ _ r h => by simp [spec_l6DrawCode.j0] at h, fun _ _ _ _ _ _ r h => by simp [spec_l6DrawCode.l0] at h⟩
  | k + 1 => by
    obtain ⟨ih0, ih1⟩ := spec_l6DrawCode.mono_l k; refine ⟨?_, ?_⟩
    · intro y0 y1 y2 y3
      unfold spec_l6DrawCode.j0
      repeat' first
      | (with_reducible exact ih0 _ _ _ _)
      | (with_reducible exact ih1 _ _ _ _ _ _)
      | (with_reducible exact spec_l6DrawIns.mono _ _ _ _)
      | (with_reducible exact LeO.refl _)
      | (with_reducible exact LeO.none _)
      | (with_reducible refine LeO.ite ?_ ?_)
      | (with_reducible refine LeO.bind ?_ (fun _ => ?_))
      | exact ih0 _ _ _ _
      | exact ih1 _ _ _ _ _ _
      | exact spec_l6DrawIns.mono _ _ _ _
      | exact LeO.none _
      | refine LeO.ite ?_ ?_
      | refine LeO.bind ?_ (fun _ => ?_)
    · intro y0 y1 y2 y3 y4 y5
      unfold spec_l6DrawCode.l0
      repeat' first
      | (with_reducible exact ih0 _ _ _ _)
      | (with_reducible exact ih1 _ _ _ _ _ _)
      | (with_reducible exact spec_l6DrawIns.mono _ _ _ _)
      | (with_reducible exact LeO.refl _)
      | (with_reducible exact LeO.none _)
      | (with_reducible refine LeO.ite ?_ ?_)
      | (with_reducible refine LeO.bind ?_ (fun _ => ?_))
      | exact ih0 _ _ _ _
      | exact ih1 _ _ _ _ _ _
      | exact spec_l6DrawIns.mono _ _ _ _
      | exact LeO.none _
      | refine LeO.ite ?_ ?_
      | refine LeO.bind ?_ (fun _ => ?_)
theorem spec_l6DrawCode.mono : ∀ a0 a1 a2 k, LeO (spec_l6DrawCode.f k a0 a1 a2) (spec_l6DrawCode.f (k + 1) a0 a1 a2) := by
  intro a0 a1 a2 k; obtain ⟨ih0, ih1⟩ := spec_l6DrawCode.mono_l k
  unfold spec_l6DrawCode.f
  repeat' first
      | (with_reducible exact ih0 _ _ _ _)
      | (with_reducible exact ih1 _ _ _ _ _ _)
      | (with_reducible exact spec_l6DrawIns.mono _ _ _ _)
      | (with_reducible exact LeO.refl _)
      | (with_reducible exact LeO.none _)
      | (with_reducible refine LeO.ite ?_ ?_)
      | (with_reducible refine LeO.bind ?_ (fun _ => ?_))
      | exact ih0 _ _ _ _
      | exact ih1 _ _ _ _ _ _
      | exact spec_l6DrawIns.mono _ _ _ _
      | exact LeO.none _
      | refine LeO.ite ?_ ?_
      | refine LeO.bind ?_ (fun _ => ?_)
set_option maxHeartbeats 8000000 in
set_option maxRecDepth 100000 in
theorem spec_l6DrawCode.calls (k : Nat) (g : Nat) (s0_0 : List Int) (s0_1 : Int) (s0_2 : Int) (r1 : List (S25)) (r2 : Int) (r3 : Int) (w0 w : World) (hI : IsS74 w0 w g s0_0 s0_1 s0_2) (hB : Below w0.heap.size w0 w) (h : spec_l6DrawCode.f k s0_0 s0_1 s0_2 = some (r1, r2, r3)) :
    Calls Tryz.prog 46 #[.pointer (some ⟨g, 0, none⟩)] w fun e w' => ∃ v0_ : Value, e = .returned (v0_) ∧ Kd.R k25 25 w' w.heap.size (fun _ => True) v0_ r1 ∧ IsS74 w0 w' g s0_0 r2 r3 ∧ Below w0.heap.size w0 w' ∧ KeepBut w w' g none := by
  have hu25 := Tryz.underlying25; have HI0 := Aside0.mk hI; have HK := Aside0.mk (KeepBut.refl w g none); have HL := Aside0.mk hB.size; clear hI; have HW0 := Aside0.mk hB.size; have HB := Aside0.mk hB; clear hB; have H : ((some (([] : List (S25)) : List (S25))).bind fun bf => ((spec_l1Below.f s0_0 s0_1 s0_2 4).bind fun bj => (if bj.1 = 0 then ((some (([(⟨1, 1, 0, 0, 3⟩ : S25), (⟨5, 2, 0, 1, 0⟩ : S25), (⟨11, 0, 0, 2, 1⟩ : S25), (⟨10, 3, 0, 0, 1⟩ : S25)] : List (S25)) : List (S25))).bind fun bs => (if bf.length + bs.length < 3518437208883 then (spec_l6DrawCode.j0 k (bf ++ bs) s0_0 bj.2.1 bj.2.2) else (none))) else (if bj.1 = 1 then ((some (([(⟨1, 1, 0, 0, 2⟩ : S25), (⟨6, 4, 0, 1, 0⟩ : S25), (⟨7, 2, 0, 4, 0⟩ : S25), (⟨8, 3, 2, 4, 0⟩ : S25)] : List (S25)) : List (S25))).bind fun bt => (if bf.length + bt.length < 3518437208883 then (spec_l6DrawCode.j0 k (bf ++ bt) s0_0 bj.2.1 bj.2.2) else (none))) else (if bj.1 = 2 then ((some (([(⟨1, 1, 0, 0, 5⟩ : S25), (⟨1, 2, 0, 0, (-1)⟩ : S25), (⟨2, 1, 1, 2, 0⟩ : S25), (⟨13, 0, 1, 0, 2⟩ : S25), (⟨13, 0, 5, 0, (-2)⟩ : S25)] : List (S25)) : List (S25))).bind fun bu => (if bf.length + bu.length < 3518437208883 then (spec_l6DrawCode.j0 k (bf ++ bu) s0_0 bj.2.1 bj.2.2) else (none))) else (spec_l6DrawCode.j0 k bf s0_0 bj.2.1 bj.2.2)))))) = some (r1, r2, r3) := h; clear h; obtain ⟨bf, dp⟩ : ∃ y_ : List (S25), y_ = (([] : List (S25))) := ⟨_, rfl⟩; replace H : ((spec_l1Below.f s0_0 s0_1 s0_2 4).bind fun bj => (if bj.1 = 0 then ((some (([(⟨1, 1, 0, 0, 3⟩ : S25), (⟨5, 2, 0, 1, 0⟩ : S25), (⟨11, 0, 0, 2, 1⟩ : S25), (⟨10, 3, 0, 0, 1⟩ : S25)] : List (S25)) : List (S25))).bind fun bs => (if bf.length + bs.length < 3518437208883 then (spec_l6DrawCode.j0 k (bf ++ bs) s0_0 bj.2.1 bj.2.2) else (none))) else (if bj.1 = 1 then ((some (([(⟨1, 1, 0, 0, 2⟩ : S25), (⟨6, 4, 0, 1, 0⟩ : S25), (⟨7, 2, 0, 4, 0⟩ : S25), (⟨8, 3, 2, 4, 0⟩ : S25)] : List (S25)) : List (S25))).bind fun bt => (if bf.length + bt.length < 3518437208883 then (spec_l6DrawCode.j0 k (bf ++ bt) s0_0 bj.2.1 bj.2.2) else (none))) else (if bj.1 = 2 then ((some (([(⟨1, 1, 0, 0, 5⟩ : S25), (⟨1, 2, 0, 0, (-1)⟩ : S25), (⟨2, 1, 1, 2, 0⟩ : S25), (⟨13, 0, 1, 0, 2⟩ : S25), (⟨13, 0, 5, 0, (-2)⟩ : S25)] : List (S25)) : List (S25))).bind fun bu => (if bf.length + bu.length < 3518437208883 then (spec_l6DrawCode.j0 k (bf ++ bu) s0_0 bj.2.1 bj.2.2) else (none))) else (spec_l6DrawCode.j0 k bf s0_0 bj.2.1 bj.2.2))))) = some (r1, r2, r3) := by first | (rw [dp]; with_reducible exact H) | (have H2_ := (Option.bind_some _ _).symm.trans H; rw [dp]; with_reducible exact H2_) | (have H2_ := (Option.bind_some _ _).symm.trans H; with_reducible exact H2_) | with_reducible exact H | (rw [dp]; exact H) | exact H
  have dV := Aside0.mk dp; clear dp; replace H := Option.bind_eq_some_iff.mp H; obtain ⟨⟨br, bz, bA⟩, A20, H⟩ := H; replace H : (if br = 0 then ((some (([(⟨1, 1, 0, 0, 3⟩ : S25), (⟨5, 2, 0, 1, 0⟩ : S25), (⟨11, 0, 0, 2, 1⟩ : S25), (⟨10, 3, 0, 0, 1⟩ : S25)] : List (S25)) : List (S25))).bind fun bs => (if bf.length + bs.length < 3518437208883 then (spec_l6DrawCode.j0 k (bf ++ bs) s0_0 bz bA) else (none))) else (if br = 1 then ((some (([(⟨1, 1, 0, 0, 2⟩ : S25), (⟨6, 4, 0, 1, 0⟩ : S25), (⟨7, 2, 0, 4, 0⟩ : S25), (⟨8, 3, 2, 4, 0⟩ : S25)] : List (S25)) : List (S25))).bind fun bt => (if bf.length + bt.length < 3518437208883 then (spec_l6DrawCode.j0 k (bf ++ bt) s0_0 bz bA) else (none))) else (if br = 2 then ((some (([(⟨1, 1, 0, 0, 5⟩ : S25), (⟨1, 2, 0, 0, (-1)⟩ : S25), (⟨2, 1, 1, 2, 0⟩ : S25), (⟨13, 0, 1, 0, 2⟩ : S25), (⟨13, 0, 5, 0, (-2)⟩ : S25)] : List (S25)) : List (S25))).bind fun bu => (if bf.length + bu.length < 3518437208883 then (spec_l6DrawCode.j0 k (bf ++ bu) s0_0 bz bA) else (none))) else (spec_l6DrawCode.j0 k bf s0_0 bz bA)))) = some (r1, r2, r3) := H; have A2 := Aside0.mk A20; clear A20; have dL := Aside0.mk H; clear H
  go_enter Tryz.func46, Tryz.ntmps46
  go_upto_block 0 with (first | ((with_reducible refine gate_dst (N := 6) rfl ?_); refine Kd.R_lit k25 _ 25 ?hg (N := 6) ?hd (xs := ([] : List (S25))) (inner := []) (ok := fun _ => True) (okp := fun _ => True) ?hr ?hp (fun _ hk => hk) trivial (Below.refl _ _) (Nat.le_refl _) (by simp) ?_; (case hd => rfl); (case hg => rfl); (case hr => first | (go_simp; done) | (go_simp; rfl)); (case hp => exact (Reps.none _ _)); intro dM w4 dq hb hg_ hnew_; clear hg_ hnew_; (first | rw [← dV.out] at dq | (simp only [Int.reduceToNat] at dq; rw [← dV.out] at dq)); have bm := Aside0.mk (Kd.R_lower dq (keep_size (w := w) (g := g) (row := none) (nK HK))); have bn := Aside0.mk (IsS74.below (IsS74.n) hb); have bo := Aside0.mk (KeepBut.trans (nK HK) (KeepBut.of_below hb g none) (.inl rfl)); have bp := Aside0.mk (below_step (IsS74.nb) hb); clear HI0 HK HB; have bl := bm; have HI0 := bn; have HK := bo; have HB := bp; clear bm bn bo bp; clear hb dq) | ((with_reducible refine gate_callee (f := 57) rfl ?_); refine goesM (some 8) rfl rfl Tryz.func57 (by kernel_rfl) rfl #[.pointer (some ⟨g, 0, none⟩), .int .i64 4] rfl ?_; (with_reducible refine (spec_l1Below.calls g s0_0 s0_1 s0_2 4 br bz bA w0 _ ?side1 ?side2 A2.out).mono ?_); (case side1 => exact IsS74.n); (case side2 => exact IsS74.nb); rintro e w6 ⟨rfl, hi, hb, hk⟩; refine ⟨_, rfl, ?_⟩; replace bl := Aside0.mk (Kd.R_mono (Kd.R_keep (IsS74.apart (show IsS74 w0 _ g s0_0 s0_1 s0_2 from IsS74.n) (nRo bl) (by decide)) hk (fun _ h => h.2)) (fun _ h => h.1)); replace HK := Aside0.mk (KeepBut.trans (nK HK) hk (.inl rfl)); replace HB := Aside0.mk (hb); replace HI0 := Aside0.mk (hi); (try clear hb)))
  (try simp only [Act.put, List.setIfInBounds_toArray, List.set_cons_zero, List.set_cons_succ])
  go_cut [3] (fun v3 wc => ∃ (kq : Nat) (bw : List (S25)), Aside0 (spec_l6DrawCode.j0 kq bw s0_0 bz bA = some (r1, r2, r3)) ∧ Aside0 (kq ≤ k) ∧ Aside0 (Kd.R k25 25 wc w.heap.size (fun _ => True) v3 bw) ∧ Aside0 (IsS74 w0 wc g s0_0 bz bA) ∧ Aside0 (KeepBut w wc g none) ∧ Aside0 (Below w0.heap.size w0 wc))
  case first =>
    have H := dL.out; clear dL
    by_cases c7 : br = 0
    · rw [if_pos c7] at H
      have c7b0 : (br == 0) = true := beq_iff_eq.mpr c7; have c7b1 : (br != 0) = false := bne_eq_false_iff_eq.mpr c7; clear c7; (first | rw [c7b0] | (simp only [i64_w, i32_w]; rw [c7b0]) | skip); obtain ⟨bs, dr⟩ : ∃ y_ : List (S25), y_ = (([(⟨1, 1, 0, 0, 3⟩ : S25), (⟨5, 2, 0, 1, 0⟩ : S25), (⟨11, 0, 0, 2, 1⟩ : S25), (⟨10, 3, 0, 0, 1⟩ : S25)] : List (S25))) := ⟨_, rfl⟩; replace H : (if bf.length + bs.length < 3518437208883 then (spec_l6DrawCode.j0 k (bf ++ bs) s0_0 bz bA) else (none)) = some (r1, r2, r3) := by first | (rw [dr]; with_reducible exact H) | (have H2_ := (Option.bind_some _ _).symm.trans H; rw [dr]; with_reducible exact H2_) | (have H2_ := (Option.bind_some _ _).symm.trans H; with_reducible exact H2_) | with_reducible exact H | (rw [dr]; exact H) | exact H
      have dW := Aside0.mk dr; clear dr
      by_cases c8 : bf.length + bs.length < 3518437208883
      · rw [if_pos c8] at H
        have eu := Aside0.mk c8; clear c8; obtain ⟨dX, ds⟩ : ∃ y_ : List (S25), y_ = (bf ++ bs) := ⟨_, rfl⟩; replace H : (spec_l6DrawCode.j0 k dX s0_0 bz bA) = some (r1, r2, r3) := by first | (rw [ds]; with_reducible exact H) | (have H2_ := (Option.bind_some _ _).symm.trans H; rw [ds]; with_reducible exact H2_) | (have H2_ := (Option.bind_some _ _).symm.trans H; with_reducible exact H2_) | with_reducible exact H | (rw [ds]; exact H) | exact H
        have ev := Aside0.mk ds; clear ds; have H' := Aside0.mk H; clear H
        go_wp2_with (first | ((with_reducible refine gate_dst (N := 16) rfl ?_); refine Kd.R_lit k25 _ 25 ?hg (N := 16) ?hd (xs := ([(⟨1, 1, 0, 0, 3⟩ : S25), (⟨5, 2, 0, 1, 0⟩ : S25), (⟨11, 0, 0, 2, 1⟩ : S25), (⟨10, 3, 0, 0, 1⟩ : S25)] : List (S25))) (inner := [.int .i64 1, .int .i64 1, .int .i64 0, .int .i64 0, .int .i64 3, .int .i64 5, .int .i64 2, .int .i64 0, .int .i64 1, .int .i64 0, .int .i64 11, .int .i64 0, .int .i64 0, .int .i64 2, .int .i64 1, .int .i64 10, .int .i64 3, .int .i64 0, .int .i64 0, .int .i64 1]) (ok := fun _ => True) (okp := fun _ => True) ?hr ?hp (fun _ hk => hk) trivial (Below.refl _ _) (Nat.le_refl _) (by simp) ?_; (case hd => rfl); (case hg => rfl); (case hr => first | (go_simp; done) | (go_simp; rfl)); (case hp => exact (Reps.c5 (show Kd.M k25 _ _ _ (⟨1, 1, 0, 0, 3⟩ : S25) [.int .i64 1, .int .i64 1, .int .i64 0, .int .i64 0, .int .i64 3] from (k25_mkM _ _ _ (⟨1, 1, 0, 0, 3⟩ : S25) )) (Reps.c5 (show Kd.M k25 _ _ _ (⟨5, 2, 0, 1, 0⟩ : S25) [.int .i64 5, .int .i64 2, .int .i64 0, .int .i64 1, .int .i64 0] from (k25_mkM _ _ _ (⟨5, 2, 0, 1, 0⟩ : S25) )) (Reps.c5 (show Kd.M k25 _ _ _ (⟨11, 0, 0, 2, 1⟩ : S25) [.int .i64 11, .int .i64 0, .int .i64 0, .int .i64 2, .int .i64 1] from (k25_mkM _ _ _ (⟨11, 0, 0, 2, 1⟩ : S25) )) (Reps.c5 (show Kd.M k25 _ _ _ (⟨10, 3, 0, 0, 1⟩ : S25) [.int .i64 10, .int .i64 3, .int .i64 0, .int .i64 0, .int .i64 1] from (k25_mkM _ _ _ (⟨10, 3, 0, 0, 1⟩ : S25) )) (Reps.none _ _)))))); intro gm w9 b3 hb hg_ hnew_; clear hg_ hnew_; (first | rw [← dW.out] at b3 | (simp only [Int.reduceToNat] at b3; rw [← dW.out] at b3)); have bm := Aside0.mk (Kd.R_elder' (nRo bl) (Kd.R_base b3) hb); have bn := Aside0.mk (Kd.R_lower (Kd.R_new' b3 (Kd.R_lt (nRo bl))) (keep_size (w := w) (g := g) (row := none) (nK HK))); have bo := Aside0.mk (IsS74.below (IsS74.n) hb); have bp := Aside0.mk (KeepBut.trans (nK HK) (KeepBut.of_below hb g none) (.inl rfl)); have bx := Aside0.mk (below_step (IsS74.nb) hb); clear bl HI0 HK HB; have bl := bm; have b4 := bn; have HI0 := bo; have HK := bp; have HB := bx; clear bm bn bo bp bx; clear hb b3; obtain ⟨ew, ex, ey⟩ := Kd.R_slice b4.out; subst ey) | ((with_reducible refine gate_builtin (b := .append) (xs := #[.tmp 11, .tmp 16]) rfl ?_); at_builtin; refine Kd.R_append_rows k25 w.heap.size rfl (.tmp 11) (.tmp 16) 32 25 (.agg #[(.int .i64 0), (.int .i64 0), (.int .i64 0), (.int .i64 0), (.int .i64 0)]) 40 rfl Tryz.underlying32 info25 rfl (by decide) (by omega) dM bf bs _ _ _ (fun k_ => some k_ ≠ (.slice ew bs.length ex : Value).ownBlock) (fun _ => False) rfl rfl ?aO ?aR (fun _ _ h => h) (fun _ h => h.elim) ?aF (Below.refl _ _) ?aS ?aL ?_; (case aR => repeat (first | exact (Kd.R_reads' b4.out).2.2 | (with_reducible refine Kd.C_alloc ?_ _) | (with_reducible refine Kd.C_drewN ?_ _) | (with_reducible refine Kd.C_drew ?_))); (case aF => exact (fun k_ hk => Kd.fresh' (Kd.R_lt (nRo b4)) k_ hk)); (case aO => exact (by (with_reducible repeat (first | apply Kd.R_alloc | apply Kd.R_drewN | apply Kd.R_drew)); exact Kd.R_mono bl.out (fun _ hk => hk.2))); (case aS => exact (keep_size (w := w) (g := g) (row := none) (nK HK))); (case aL => have := eu.out; omega); intro gn ez ho hb hg hat; rw [← ev.out] at ho; have bm := Aside0.mk (IsS74.grown (IsS74.n) hg (IsS74.own_ne HI0.out bl.out (by decide))); have bn := Aside0.mk (Kd.R_after (ok := (fun _ => True)) (nRo b4) hg hat); have bo := Aside0.mk (below_weaken (IsS74.nb) HL.out hb); have bp := Aside0.mk (KeepBut.trans (nK HK) (KeepBut.of_grown hg g) (Kd.R_base2 bl.out)); have bx := Aside0.mk (ho); clear HI0 b4 HB HK bl; have HI0 := bm; have b4 := bn; have HB := bo; have HK := bp; have eA := bx; clear bm bn bo bp bx; clear ho hb hg hat))
        go_meet
        case rel => exact ⟨_, (dX), H', ⟨by first | omega | exact Nat.le_refl _⟩, ⟨by (with_reducible repeat (first | apply Kd.R_alloc | apply Kd.R_drewN | apply Kd.R_drew)); exact Kd.R_mono eA.out (fun _ hk => trivial)⟩, ⟨IsS74.n⟩, ⟨nK HK⟩, ⟨IsS74.nb⟩⟩
      · rw [if_neg c8] at H
        exact absurd H (by simp)
    · rw [if_neg c7] at H
      have c7b0 : (br == 0) = false := beq_eq_false_iff_ne.mpr c7; have c7b1 : (br != 0) = true := bne_iff_ne.mpr c7; (first | rw [c7b0] | (simp only [i64_w, i32_w]; rw [c7b0]) | skip)
      by_cases c13 : br = 1
      · rw [if_pos c13] at H
        have c13b0 : (br == 1) = true := beq_iff_eq.mpr c13; have c13b1 : (br != 1) = false := bne_eq_false_iff_eq.mpr c13; clear c13; obtain ⟨bt, dt⟩ : ∃ y_ : List (S25), y_ = (([(⟨1, 1, 0, 0, 2⟩ : S25), (⟨6, 4, 0, 1, 0⟩ : S25), (⟨7, 2, 0, 4, 0⟩ : S25), (⟨8, 3, 2, 4, 0⟩ : S25)] : List (S25))) := ⟨_, rfl⟩; replace H : (if bf.length + bt.length < 3518437208883 then (spec_l6DrawCode.j0 k (bf ++ bt) s0_0 bz bA) else (none)) = some (r1, r2, r3) := by first | (rw [dt]; with_reducible exact H) | (have H2_ := (Option.bind_some _ _).symm.trans H; rw [dt]; with_reducible exact H2_) | (have H2_ := (Option.bind_some _ _).symm.trans H; with_reducible exact H2_) | with_reducible exact H | (rw [dt]; exact H) | exact H
        have dY := Aside0.mk dt; clear dt
        by_cases c14 : bf.length + bt.length < 3518437208883
        · rw [if_pos c14] at H
          have eB := Aside0.mk c14; clear c14; obtain ⟨dZ, du⟩ : ∃ y_ : List (S25), y_ = (bf ++ bt) := ⟨_, rfl⟩; replace H : (spec_l6DrawCode.j0 k dZ s0_0 bz bA) = some (r1, r2, r3) := by first | (rw [du]; with_reducible exact H) | (have H2_ := (Option.bind_some _ _).symm.trans H; rw [du]; with_reducible exact H2_) | (have H2_ := (Option.bind_some _ _).symm.trans H; with_reducible exact H2_) | with_reducible exact H | (rw [du]; exact H) | exact H
          have eC := Aside0.mk du; clear du; have H' := Aside0.mk H; clear H
          go_wp2_with (first | ((with_reducible refine gate_dst (N := 25) rfl ?_); refine Kd.R_lit k25 _ 25 ?hg (N := 25) ?hd (xs := ([(⟨1, 1, 0, 0, 2⟩ : S25), (⟨6, 4, 0, 1, 0⟩ : S25), (⟨7, 2, 0, 4, 0⟩ : S25), (⟨8, 3, 2, 4, 0⟩ : S25)] : List (S25))) (inner := [.int .i64 1, .int .i64 1, .int .i64 0, .int .i64 0, .int .i64 2, .int .i64 6, .int .i64 4, .int .i64 0, .int .i64 1, .int .i64 0, .int .i64 7, .int .i64 2, .int .i64 0, .int .i64 4, .int .i64 0, .int .i64 8, .int .i64 3, .int .i64 2, .int .i64 4, .int .i64 0]) (ok := fun _ => True) (okp := fun _ => True) ?hr ?hp (fun _ hk => hk) trivial (Below.refl _ _) (Nat.le_refl _) (by simp) ?_; (case hd => rfl); (case hg => rfl); (case hr => first | (go_simp; done) | (go_simp; rfl)); (case hp => exact (Reps.c5 (show Kd.M k25 _ _ _ (⟨1, 1, 0, 0, 2⟩ : S25) [.int .i64 1, .int .i64 1, .int .i64 0, .int .i64 0, .int .i64 2] from (k25_mkM _ _ _ (⟨1, 1, 0, 0, 2⟩ : S25) )) (Reps.c5 (show Kd.M k25 _ _ _ (⟨6, 4, 0, 1, 0⟩ : S25) [.int .i64 6, .int .i64 4, .int .i64 0, .int .i64 1, .int .i64 0] from (k25_mkM _ _ _ (⟨6, 4, 0, 1, 0⟩ : S25) )) (Reps.c5 (show Kd.M k25 _ _ _ (⟨7, 2, 0, 4, 0⟩ : S25) [.int .i64 7, .int .i64 2, .int .i64 0, .int .i64 4, .int .i64 0] from (k25_mkM _ _ _ (⟨7, 2, 0, 4, 0⟩ : S25) )) (Reps.c5 (show Kd.M k25 _ _ _ (⟨8, 3, 2, 4, 0⟩ : S25) [.int .i64 8, .int .i64 3, .int .i64 2, .int .i64 4, .int .i64 0] from (k25_mkM _ _ _ (⟨8, 3, 2, 4, 0⟩ : S25) )) (Reps.none _ _)))))); intro gp eD b5 hb hg_ hnew_; clear hg_ hnew_; (first | rw [← dY.out] at b5 | (simp only [Int.reduceToNat] at b5; rw [← dY.out] at b5)); have bm := Aside0.mk (Kd.R_elder' (nRo bl) (Kd.R_base b5) hb); have bn := Aside0.mk (Kd.R_lower (Kd.R_new' b5 (Kd.R_lt (nRo bl))) (keep_size (w := w) (g := g) (row := none) (nK HK))); have bo := Aside0.mk (IsS74.below (IsS74.n) hb); have bp := Aside0.mk (KeepBut.trans (nK HK) (KeepBut.of_below hb g none) (.inl rfl)); have bx := Aside0.mk (below_step (IsS74.nb) hb); clear bl HI0 HK HB; have bl := bm; have b6 := bn; have HI0 := bo; have HK := bp; have HB := bx; clear bm bn bo bp bx; clear hb b5; obtain ⟨eE, eF, eG⟩ := Kd.R_slice b6.out; subst eG) | ((with_reducible refine gate_builtin (b := .append) (xs := #[.tmp 20, .tmp 25]) rfl ?_); at_builtin; refine Kd.R_append_rows k25 w.heap.size rfl (.tmp 20) (.tmp 25) 32 25 (.agg #[(.int .i64 0), (.int .i64 0), (.int .i64 0), (.int .i64 0), (.int .i64 0)]) 40 rfl Tryz.underlying32 info25 rfl (by decide) (by omega) dM bf bt _ _ _ (fun k_ => some k_ ≠ (.slice eE bt.length eF : Value).ownBlock) (fun _ => False) rfl rfl ?aO ?aR (fun _ _ h => h) (fun _ h => h.elim) ?aF (Below.refl _ _) ?aS ?aL ?_; (case aR => repeat (first | exact (Kd.R_reads' b6.out).2.2 | (with_reducible refine Kd.C_alloc ?_ _) | (with_reducible refine Kd.C_drewN ?_ _) | (with_reducible refine Kd.C_drew ?_))); (case aF => exact (fun k_ hk => Kd.fresh' (Kd.R_lt (nRo b6)) k_ hk)); (case aO => exact (by (with_reducible repeat (first | apply Kd.R_alloc | apply Kd.R_drewN | apply Kd.R_drew)); exact Kd.R_mono bl.out (fun _ hk => hk.2))); (case aS => exact (keep_size (w := w) (g := g) (row := none) (nK HK))); (case aL => have := eB.out; omega); intro gq gr ho hb hg hat; rw [← eC.out] at ho; have bm := Aside0.mk (IsS74.grown (IsS74.n) hg (IsS74.own_ne HI0.out bl.out (by decide))); have bn := Aside0.mk (Kd.R_after (ok := (fun _ => True)) (nRo b6) hg hat); have bo := Aside0.mk (below_weaken (IsS74.nb) HL.out hb); have bp := Aside0.mk (KeepBut.trans (nK HK) (KeepBut.of_grown hg g) (Kd.R_base2 bl.out)); have bx := Aside0.mk (ho); clear HI0 b6 HB HK bl; have HI0 := bm; have b6 := bn; have HB := bo; have HK := bp; have eH := bx; clear bm bn bo bp bx; clear ho hb hg hat))
          go_meet
          case rel => exact ⟨_, (dZ), H', ⟨by first | omega | exact Nat.le_refl _⟩, ⟨by (with_reducible repeat (first | apply Kd.R_alloc | apply Kd.R_drewN | apply Kd.R_drew)); exact Kd.R_mono eH.out (fun _ hk => trivial)⟩, ⟨IsS74.n⟩, ⟨nK HK⟩, ⟨IsS74.nb⟩⟩
        · rw [if_neg c14] at H
          exact absurd H (by simp)
      · rw [if_neg c13] at H
        have c13b0 : (br == 1) = false := beq_eq_false_iff_ne.mpr c13; have c13b1 : (br != 1) = true := bne_iff_ne.mpr c13
        by_cases c19 : br = 2
        · rw [if_pos c19] at H
          have c19b0 : (br == 2) = true := beq_iff_eq.mpr c19; have c19b1 : (br != 2) = false := bne_eq_false_iff_eq.mpr c19; clear c19; obtain ⟨bu, dv⟩ : ∃ y_ : List (S25), y_ = (([(⟨1, 1, 0, 0, 5⟩ : S25), (⟨1, 2, 0, 0, (-1)⟩ : S25), (⟨2, 1, 1, 2, 0⟩ : S25), (⟨13, 0, 1, 0, 2⟩ : S25), (⟨13, 0, 5, 0, (-2)⟩ : S25)] : List (S25))) := ⟨_, rfl⟩; replace H : (if bf.length + bu.length < 3518437208883 then (spec_l6DrawCode.j0 k (bf ++ bu) s0_0 bz bA) else (none)) = some (r1, r2, r3) := by first | (rw [dv]; with_reducible exact H) | (have H2_ := (Option.bind_some _ _).symm.trans H; rw [dv]; with_reducible exact H2_) | (have H2_ := (Option.bind_some _ _).symm.trans H; with_reducible exact H2_) | with_reducible exact H | (rw [dv]; exact H) | exact H
          have d0 := Aside0.mk dv; clear dv
          by_cases c20 : bf.length + bu.length < 3518437208883
          · rw [if_pos c20] at H
            have eI := Aside0.mk c20; clear c20; obtain ⟨d1, dw⟩ : ∃ y_ : List (S25), y_ = (bf ++ bu) := ⟨_, rfl⟩; replace H : (spec_l6DrawCode.j0 k d1 s0_0 bz bA) = some (r1, r2, r3) := by first | (rw [dw]; with_reducible exact H) | (have H2_ := (Option.bind_some _ _).symm.trans H; rw [dw]; with_reducible exact H2_) | (have H2_ := (Option.bind_some _ _).symm.trans H; with_reducible exact H2_) | with_reducible exact H | (rw [dw]; exact H) | exact H
            have eJ := Aside0.mk dw; clear dw; have H' := Aside0.mk H; clear H
            go_wp2_with (first | ((with_reducible refine gate_dst (N := 35) rfl ?_); refine Kd.R_lit k25 _ 25 ?hg (N := 35) ?hd (xs := ([(⟨1, 1, 0, 0, 5⟩ : S25), (⟨1, 2, 0, 0, (-1)⟩ : S25), (⟨2, 1, 1, 2, 0⟩ : S25), (⟨13, 0, 1, 0, 2⟩ : S25), (⟨13, 0, 5, 0, (-2)⟩ : S25)] : List (S25))) (inner := [.int .i64 1, .int .i64 1, .int .i64 0, .int .i64 0, .int .i64 5, .int .i64 1, .int .i64 2, .int .i64 0, .int .i64 0, .int .i64 (-1), .int .i64 2, .int .i64 1, .int .i64 1, .int .i64 2, .int .i64 0, .int .i64 13, .int .i64 0, .int .i64 1, .int .i64 0, .int .i64 2, .int .i64 13, .int .i64 0, .int .i64 5, .int .i64 0, .int .i64 (-2)]) (ok := fun _ => True) (okp := fun _ => True) ?hr ?hp (fun _ hk => hk) trivial (Below.refl _ _) (Nat.le_refl _) (by simp) ?_; (case hd => rfl); (case hg => rfl); (case hr => first | (go_simp; done) | (go_simp; rfl)); (case hp => exact (Reps.c5 (show Kd.M k25 _ _ _ (⟨1, 1, 0, 0, 5⟩ : S25) [.int .i64 1, .int .i64 1, .int .i64 0, .int .i64 0, .int .i64 5] from (k25_mkM _ _ _ (⟨1, 1, 0, 0, 5⟩ : S25) )) (Reps.c5 (show Kd.M k25 _ _ _ (⟨1, 2, 0, 0, (-1)⟩ : S25) [.int .i64 1, .int .i64 2, .int .i64 0, .int .i64 0, .int .i64 (-1)] from (k25_mkM _ _ _ (⟨1, 2, 0, 0, (-1)⟩ : S25) )) (Reps.c5 (show Kd.M k25 _ _ _ (⟨2, 1, 1, 2, 0⟩ : S25) [.int .i64 2, .int .i64 1, .int .i64 1, .int .i64 2, .int .i64 0] from (k25_mkM _ _ _ (⟨2, 1, 1, 2, 0⟩ : S25) )) (Reps.c5 (show Kd.M k25 _ _ _ (⟨13, 0, 1, 0, 2⟩ : S25) [.int .i64 13, .int .i64 0, .int .i64 1, .int .i64 0, .int .i64 2] from (k25_mkM _ _ _ (⟨13, 0, 1, 0, 2⟩ : S25) )) (Reps.c5 (show Kd.M k25 _ _ _ (⟨13, 0, 5, 0, (-2)⟩ : S25) [.int .i64 13, .int .i64 0, .int .i64 5, .int .i64 0, .int .i64 (-2)] from (k25_mkM _ _ _ (⟨13, 0, 5, 0, (-2)⟩ : S25) )) (Reps.none _ _))))))); intro gs gt b7 hb hg_ hnew_; clear hg_ hnew_; (first | rw [← d0.out] at b7 | (simp only [Int.reduceToNat] at b7; rw [← d0.out] at b7)); have bm := Aside0.mk (Kd.R_elder' (nRo bl) (Kd.R_base b7) hb); have bn := Aside0.mk (Kd.R_lower (Kd.R_new' b7 (Kd.R_lt (nRo bl))) (keep_size (w := w) (g := g) (row := none) (nK HK))); have bo := Aside0.mk (IsS74.below (IsS74.n) hb); have bp := Aside0.mk (KeepBut.trans (nK HK) (KeepBut.of_below hb g none) (.inl rfl)); have bx := Aside0.mk (below_step (IsS74.nb) hb); clear bl HI0 HK HB; have bl := bm; have b8 := bn; have HI0 := bo; have HK := bp; have HB := bx; clear bm bn bo bp bx; clear hb b7; obtain ⟨dN, dO, dP⟩ := Kd.R_slice b8.out; subst dP) | ((with_reducible refine gate_builtin (b := .append) (xs := #[.tmp 29, .tmp 35]) rfl ?_); at_builtin; refine Kd.R_append_rows k25 w.heap.size rfl (.tmp 29) (.tmp 35) 32 25 (.agg #[(.int .i64 0), (.int .i64 0), (.int .i64 0), (.int .i64 0), (.int .i64 0)]) 40 rfl Tryz.underlying32 info25 rfl (by decide) (by omega) dM bf bu _ _ _ (fun k_ => some k_ ≠ (.slice dN bu.length dO : Value).ownBlock) (fun _ => False) rfl rfl ?aO ?aR (fun _ _ h => h) (fun _ h => h.elim) ?aF (Below.refl _ _) ?aS ?aL ?_; (case aR => repeat (first | exact (Kd.R_reads' b8.out).2.2 | (with_reducible refine Kd.C_alloc ?_ _) | (with_reducible refine Kd.C_drewN ?_ _) | (with_reducible refine Kd.C_drew ?_))); (case aF => exact (fun k_ hk => Kd.fresh' (Kd.R_lt (nRo b8)) k_ hk)); (case aO => exact (by (with_reducible repeat (first | apply Kd.R_alloc | apply Kd.R_drewN | apply Kd.R_drew)); exact Kd.R_mono bl.out (fun _ hk => hk.2))); (case aS => exact (keep_size (w := w) (g := g) (row := none) (nK HK))); (case aL => have := eI.out; omega); intro gu eK ho hb hg hat; rw [← eJ.out] at ho; have bm := Aside0.mk (IsS74.grown (IsS74.n) hg (IsS74.own_ne HI0.out bl.out (by decide))); have bn := Aside0.mk (Kd.R_after (ok := (fun _ => True)) (nRo b8) hg hat); have bo := Aside0.mk (below_weaken (IsS74.nb) HL.out hb); have bp := Aside0.mk (KeepBut.trans (nK HK) (KeepBut.of_grown hg g) (Kd.R_base2 bl.out)); have bx := Aside0.mk (ho); clear HI0 b8 HB HK bl; have HI0 := bm; have b8 := bn; have HB := bo; have HK := bp; have eL := bx; clear bm bn bo bp bx; clear ho hb hg hat))
            go_meet
            case rel => exact ⟨_, (d1), H', ⟨by first | omega | exact Nat.le_refl _⟩, ⟨by (with_reducible repeat (first | apply Kd.R_alloc | apply Kd.R_drewN | apply Kd.R_drew)); exact Kd.R_mono eL.out (fun _ hk => trivial)⟩, ⟨IsS74.n⟩, ⟨nK HK⟩, ⟨IsS74.nb⟩⟩
          · rw [if_neg c20] at H
            exact absurd H (by simp)
        · rw [if_neg c19] at H
          have c19b0 : (br == 2) = false := beq_eq_false_iff_ne.mpr c19; have c19b1 : (br != 2) = true := bne_iff_ne.mpr c19; have H' := Aside0.mk H; clear H; go_wp2
          go_meet
          case rel => exact ⟨_, (bf), H', ⟨by first | omega | exact Nat.le_refl _⟩, ⟨by (with_reducible repeat (first | apply Kd.R_alloc | apply Kd.R_drewN | apply Kd.R_drew)); exact bl.out⟩, ⟨IsS74.n⟩, ⟨nK HK⟩, ⟨IsS74.nb⟩⟩
  case rest =>
    clear dL; try clear c1
    try clear c2
    try clear p2
    try clear c4
    try clear c5
    try clear c7
    try clear c7b0
    try clear c7b1
    try clear c8
    try clear c13
    try clear c13b0
    try clear c13b1
    try clear c14
    try clear c19
    try clear c19b0
    try clear c19b1
    try clear c20
    obtain ⟨kq, bw, HA, d2, bC, HI0, HK, HB⟩ := hcut
    cases kq with
    | zero => exact absurd HA.out (by simp [spec_l6DrawCode.j0])
    | succ kj2 =>
      have H := HA.out; clear HA; simp only [spec_l6DrawCode.j0] at H; replace H := Option.bind_eq_some_iff.mp H; obtain ⟨⟨bS, dQ, dR⟩, A250, H⟩ := H; replace H : (spec_l6DrawCode.l0 kj2 bw bS 0 s0_0 dQ dR) = some (r1, r2, r3) := H; have A25 := Aside0.mk A250; clear A250; have H' := Aside0.mk H; clear H
      go_wp2_with (first | ((with_reducible refine gate_callee (f := 57) rfl ?_); refine goesM (some 38) rfl rfl Tryz.func57 (by kernel_rfl) rfl #[.pointer (some ⟨g, 0, none⟩), .int .i64 14] rfl ?_; (with_reducible refine (spec_l1Below.calls g s0_0 bz bA 14 bS dQ dR w0 _ ?side1 ?side2 A25.out).mono ?_); (case side1 => exact IsS74.n); (case side2 => exact IsS74.nb); rintro e eM ⟨rfl, hi, hb, hk⟩; refine ⟨_, rfl, ?_⟩; replace bC := Aside0.mk (Kd.R_mono (Kd.R_keep (IsS74.apart (show IsS74 w0 _ g s0_0 bz bA from IsS74.n) (nRo bC) (by decide)) hk (fun _ h => h.2)) (fun _ h => h.1)); replace HK := Aside0.mk (KeepBut.trans (nK HK) hk (.inl rfl)); replace HB := Aside0.mk (hb); replace HI0 := Aside0.mk (hi); (try clear hb)))
      go_loopg [3, 5] kj2 (fun kq v3 v5 w' => ∃ (bw : List (S25)) (bN : Int) (b9 : Int) (da : Int), v5 = .int .i64 bN ∧ Aside0 (spec_l6DrawCode.l0 kq bw bS bN s0_0 b9 da = some (r1, r2, r3)) ∧ Aside0 (kq ≤ kj2) ∧ Aside0 (Kd.R k25 25 w' w.heap.size (fun _ => True) v3 bw) ∧ Aside0 (IsS74 w0 w' g s0_0 b9 da) ∧ Aside0 (KeepBut w w' g none) ∧ Aside0 (Below w0.heap.size w0 w'))
      case atStart => exact ⟨(bw), (0), (dQ), (dR), (by first | rfl | (simp; done) | (simp [*]; done)), H', ⟨Nat.le_refl _⟩, ⟨by (with_reducible repeat (first | apply Kd.R_alloc | apply Kd.R_drewN | apply Kd.R_drew)); exact bC.out⟩, ⟨IsS74.n⟩, ⟨nK HK⟩, ⟨IsS74.nb⟩⟩
      case round =>
        clear H'; try clear c1
        try clear c2
        try clear p2
        try clear c4
        try clear c5
        try clear c7
        try clear c7b0
        try clear c7b1
        try clear c8
        try clear c13
        try clear c13b0
        try clear c13b1
        try clear c14
        try clear c19
        try clear c19b0
        try clear c19b1
        try clear c20
        try clear p2
        obtain ⟨bw, bN, b9, da, rfl, HA, d3, bC, HI0, HK, HB⟩ := hrel
        cases gk with
        | zero => exact absurd HA.out (by simp [spec_l6DrawCode.l0])
        | succ k2 =>
          have H := HA.out; clear HA; simp only [spec_l6DrawCode.l0] at H
          by_cases c27 : bN < bS
          · rw [if_pos c27] at H
            have c27b0 : decide (bN < bS) = true := decide_eq_true c27; clear c27; replace H := Option.bind_eq_some_iff.mp H; obtain ⟨⟨db, dc, dd, de, df, dH, dI⟩, A280, H⟩ := H; replace H : (if bw.length < 3518437208883 then (spec_l6DrawCode.l0 k2 (bw ++ [(⟨db, dc, dd, de, df⟩ : S25)]) bS (wrap64 (bN + 1)) s0_0 dH dI) else (none)) = some (r1, r2, r3) := H; have A28 := Aside0.mk A280; clear A280
            by_cases c29 : bw.length < 3518437208883
            · rw [if_pos c29] at H
              have eN := Aside0.mk c29; clear c29; obtain ⟨d4, dx⟩ : ∃ y_ : List (S25), y_ = (bw ++ [(⟨db, dc, dd, de, df⟩ : S25)]) := ⟨_, rfl⟩; replace H : (spec_l6DrawCode.l0 k2 d4 bS (wrap64 (bN + 1)) s0_0 dH dI) = some (r1, r2, r3) := by first | (rw [dx]; with_reducible exact H) | (have H2_ := (Option.bind_some _ _).symm.trans H; rw [dx]; with_reducible exact H2_) | (have H2_ := (Option.bind_some _ _).symm.trans H; with_reducible exact H2_) | with_reducible exact H | (rw [dx]; exact H) | exact H
              have eO := Aside0.mk dx; clear dx; have H' := Aside0.mk H; clear H
              go_wp2_with (first | ((with_reducible refine gate_callee (f := 38) rfl ?_); refine goesM (some 46) rfl rfl Tryz.func38 (by kernel_rfl) rfl #[.pointer (some ⟨g, 0, none⟩)] rfl ?_; (with_reducible refine (spec_l6DrawIns.calls k2 g s0_0 b9 da db dc dd de df dH dI w0 _ ?side1 ?side2 A28.out).mono ?_); (case side1 => exact IsS74.n); (case side2 => exact IsS74.nb); rintro e eP ⟨rfl, hi, hb, hk⟩; refine ⟨_, rfl, ?_⟩; replace bC := Aside0.mk (Kd.R_mono (Kd.R_keep (IsS74.apart (show IsS74 w0 _ g s0_0 b9 da from IsS74.n) (nRo bC) (by decide)) hk (fun _ h => h.2)) (fun _ h => h.1)); replace HK := Aside0.mk (KeepBut.trans (nK HK) hk (.inl rfl)); replace HB := Aside0.mk (hb); replace HI0 := Aside0.mk (hi); (try clear hb)) | ((with_reducible refine gate_builtin (b := .append) (xs := #[.tmp 44, .tmp 47]) rfl ?_); at_builtin; refine Kd.R_append k25 w.heap.size rfl (.tmp 44) (.tmp 47) 32 25 (.agg #[(.int .i64 0), (.int .i64 0), (.int .i64 0), (.int .i64 0), (.int .i64 0)]) 40 rfl Tryz.underlying32 info25 rfl (by decide) (by omega) u3 bw (⟨db, dc, dd, de, df⟩ : S25) [.int .i64 db, .int .i64 dc, .int .i64 dd, .int .i64 de, .int .i64 df] (fun _ => True) (fun _ => False) rfl rfl ?aP (fun _ hk => hk.elim) ?aF ?aO (Below.refl _ _) ?aS ?aL ?_; (case aP => exact k25_mkM _ _ _ (⟨db, dc, dd, de, df⟩ : S25)); (case aF => exact (fun _ _ => trivial)); (case aO => exact (nRo bC)); (case aS => exact (keep_size (w := w) (g := g) (row := none) (nK HK))); (case aL => have := eN.out; omega); intro gv gw ho hb hg hat; rw [← eO.out] at ho; have bm := Aside0.mk (IsS74.grown (IsS74.n) hg (IsS74.own_ne HI0.out bC.out (by decide))); have bn := Aside0.mk (below_weaken (IsS74.nb) HL.out hb); have bo := Aside0.mk (KeepBut.trans (nK HK) (KeepBut.of_grown hg g) (Kd.R_base2 bC.out)); have bp := Aside0.mk (ho); clear HI0 HB HK bC; have HI0 := bm; have HB := bn; have HK := bo; have eQ := bp; clear bm bn bo bp; clear ho hb hg hat))
              go_roundg k2
              case measure => have := d2.out; have := d3.out; omega
              case rel => exact ⟨(d4), (wrap64 (bN + 1)), (dH), (dI), (by first | rfl | (simp; done) | (simp [*]; done)), H', ⟨by have := d2.out; have := d3.out; omega⟩, ⟨by (with_reducible repeat (first | apply Kd.R_alloc | apply Kd.R_drewN | apply Kd.R_drew)); exact eQ.out⟩, ⟨IsS74.n⟩, ⟨nK HK⟩, ⟨IsS74.nb⟩⟩
            · rw [if_neg c29] at H
              exact absurd H (by simp)
          · rw [if_neg c27] at H
            have c27b0 : decide (bN < bS) = false := decide_eq_false c27; clear c27
            by_cases c32 : bw.length < 3518437208883
            · rw [if_pos c32] at H
              have eR := Aside0.mk c32; clear c32; obtain ⟨eS, dy⟩ : ∃ y_ : List (S25), y_ = (bw ++ [(⟨15, 0, 0, 0, 0⟩ : S25)]) := ⟨_, rfl⟩; replace H : (some (eS, b9, da)) = some (r1, r2, r3) := by first | (rw [dy]; with_reducible exact H) | (have H2_ := (Option.bind_some _ _).symm.trans H; rw [dy]; with_reducible exact H2_) | (have H2_ := (Option.bind_some _ _).symm.trans H; with_reducible exact H2_) | with_reducible exact H | (rw [dy]; exact H) | exact H
              have eT := Aside0.mk dy; clear dy; simp only [Option.some.injEq, Prod.mk.injEq] at H; obtain ⟨rfl, rfl, rfl⟩ := H
              go_wp2_with (first | ((with_reducible refine gate_builtin (b := .append) (xs := #[.tmp 49, .tmp 51]) rfl ?_); at_builtin; refine Kd.R_append k25 w.heap.size rfl (.tmp 49) (.tmp 51) 32 25 (.agg #[(.int .i64 0), (.int .i64 0), (.int .i64 0), (.int .i64 0), (.int .i64 0)]) 40 rfl Tryz.underlying32 info25 rfl (by decide) (by omega) u3 bw (⟨15, 0, 0, 0, 0⟩ : S25) [.int .i64 15, .int .i64 0, .int .i64 0, .int .i64 0, .int .i64 0] (fun _ => True) (fun _ => False) rfl rfl ?aP (fun _ hk => hk.elim) ?aF ?aO (Below.refl _ _) ?aS ?aL ?_; (case aP => exact k25_mkM _ _ _ (⟨15, 0, 0, 0, 0⟩ : S25)); (case aF => exact (fun _ _ => trivial)); (case aO => exact (nRo bC)); (case aS => exact (keep_size (w := w) (g := g) (row := none) (nK HK))); (case aL => have := eR.out; omega); intro gx eU ho hb hg hat; rw [← eT.out] at ho; have bm := Aside0.mk (IsS74.grown (IsS74.n) hg (IsS74.own_ne HI0.out bC.out (by decide))); have bn := Aside0.mk (below_weaken (IsS74.nb) HL.out hb); have bo := Aside0.mk (KeepBut.trans (nK HK) (KeepBut.of_grown hg g) (Kd.R_base2 bC.out)); have bp := Aside0.mk (ho); clear HI0 HB HK bC; have HI0 := bm; have HB := bn; have HK := bo; have eV := bp; clear bm bn bo bp; clear ho hb hg hat))
              go_ret
              exact ⟨_, er_, by (with_reducible repeat (first | apply Kd.R_alloc | apply Kd.R_drewN | apply Kd.R_drew)); exact eV.out, IsS74.n, IsS74.nb, nK HK⟩
            · rw [if_neg c32] at H
              exact absurd H (by simp)

/-! ### spec_DrawCodeOk: function 41 -/
def spec_DrawCodeOk.l0 : Nat → List (S25) → List Int → Int → Int → Option ((List (S25)))
  | 0, _, _, _, _ => none
  | k + 1, x4, d5, eW, eX => (spec_l1Below.f d5 eW eX 2).bind fun dS => (if (x4.length : Int) < (wrap64 (48 + dS.1)) then (if x4.length < 3518437208883 then (spec_DrawCodeOk.l0 k (x4 ++ [(⟨15, 0, 0, 0, 0⟩ : S25)]) d5 dS.2.1 dS.2.2) else (none)) else (some x4))
def spec_DrawCodeOk.f (k : Nat) (l0 : List Int) : Option ((List (S25))) := (spec_l1New.f k l0).bind fun bB => ((spec_l6DrawCode.f k bB.1 bB.2.1 bB.2.2).bind fun bg => ((spec_l1Below.f bB.1 bg.2.1 bg.2.2 (bg.1.length : Int)).bind fun bc => ((spec_l1Below.f bB.1 bc.2.1 bc.2.2 6).bind fun bh => (if bh.1 = 0 then (if 0 ≤ bc.1 then (if bc.1 < (bg.1.length : Int) then ((spec_l6Spoil.f bB.1 bh.2.1 bh.2.2 ((rd_T25 bg.1 bc.1).f0) ((rd_T25 bg.1 bc.1).f1) ((rd_T25 bg.1 bc.1).f2) ((rd_T25 bg.1 bc.1).f3) ((rd_T25 bg.1 bc.1).f4)).bind fun bk => (some (bg.1.set (bc.1 : Int).toNat (⟨bk.1, bk.2.1, bk.2.2.1, bk.2.2.2.1, bk.2.2.2.2.1⟩ : S25)))) else (none)) else (none)) else (if bh.1 = 1 then (if 0 ≤ bc.1 then (if bc.1 ≤ (bg.1.length : Int) then (some (bg.1.take (bc.1 : Int).toNat)) else (none)) else (none)) else (if bh.1 = 2 then (spec_DrawCodeOk.l0 k bg.1 bB.1 bh.2.1 bh.2.2) else (some bg.1)))))))
theorem spec_DrawCodeOk.mono_l : ∀ k, (∀ y0 y1 y2 y3, LeO (spec_DrawCodeOk.l0 k y0 y1 y2 y3) (spec_DrawCodeOk.l0 (k + 1) y0 y1 y2 y3))
  | 0 => fun _ _ _ _ r h => by simp [spec_DrawCodeOk.l0] at h
  | k + 1 => by
    have ih0 := spec_DrawCodeOk.mono_l k
    · intro y0 y1 y2 y3
      unfold spec_DrawCodeOk.l0
      repeat' first
      | (with_reducible exact ih0 _ _ _ _)
      | (with_reducible exact spec_l1New.mono _ _)
      | (with_reducible exact spec_l6DrawCode.mono _ _ _ _)
      | (with_reducible exact LeO.refl _)
      | (with_reducible exact LeO.none _)
      | (with_reducible refine LeO.ite ?_ ?_)
      | (with_reducible refine LeO.bind ?_ (fun _ => ?_))
      | exact ih0 _ _ _ _
      | exact spec_l1New.mono _ _
      | exact spec_l6DrawCode.mono _ _ _ _
      | exact LeO.none _
      | refine LeO.ite ?_ ?_
      | refine LeO.bind ?_ (fun _ => ?_)
theorem spec_DrawCodeOk.mono : ∀ a0 k, LeO (spec_DrawCodeOk.f k a0) (spec_DrawCodeOk.f (k + 1) a0) := by
  intro a0 k; have ih0 := spec_DrawCodeOk.mono_l k
  unfold spec_DrawCodeOk.f
  repeat' first
      | (with_reducible exact ih0 _ _ _ _)
      | (with_reducible exact spec_l1New.mono _ _)
      | (with_reducible exact spec_l6DrawCode.mono _ _ _ _)
      | (with_reducible exact LeO.refl _)
      | (with_reducible exact LeO.none _)
      | (with_reducible refine LeO.ite ?_ ?_)
      | (with_reducible refine LeO.bind ?_ (fun _ => ?_))
      | exact ih0 _ _ _ _
      | exact spec_l1New.mono _ _
      | exact spec_l6DrawCode.mono _ _ _ _
      | exact LeO.none _
      | refine LeO.ite ?_ ?_
      | refine LeO.bind ?_ (fun _ => ?_)
set_option maxHeartbeats 8000000 in
set_option maxRecDepth 100000 in
theorem spec_DrawCodeOk.calls (k : Nat) (A0 : Option Addr) (c0 : Nat) (l0 : List Int) (r : List (S25)) (w : World) (hr0 : Kd.C (Kd.int .u8) w A0 l0.length l0) (hc0 : l0.length ≤ c0) (h : spec_DrawCodeOk.f k l0 = some r) :
    Calls Tryz.prog 41 #[.slice A0 l0.length c0] w fun e w' => ∃ v0_ : Value, e = .returned (v0_) ∧ Kd.R k25 25 w' w.heap.size (fun _ => True) v0_ r ∧ Below w.heap.size w w' := by
  have hu25 := Tryz.underlying25; have bK := Aside0.mk hr0; have bT := Aside0.mk hc0; clear hr0 hc0; have HB := Aside0.mk (Below.refl w.heap.size w); have H : ((spec_l1New.f k l0).bind fun bB => ((spec_l6DrawCode.f k bB.1 bB.2.1 bB.2.2).bind fun bg => ((spec_l1Below.f bB.1 bg.2.1 bg.2.2 (bg.1.length : Int)).bind fun bc => ((spec_l1Below.f bB.1 bc.2.1 bc.2.2 6).bind fun bh => (if bh.1 = 0 then (if 0 ≤ bc.1 then (if bc.1 < (bg.1.length : Int) then ((spec_l6Spoil.f bB.1 bh.2.1 bh.2.2 ((rd_T25 bg.1 bc.1).f0) ((rd_T25 bg.1 bc.1).f1) ((rd_T25 bg.1 bc.1).f2) ((rd_T25 bg.1 bc.1).f3) ((rd_T25 bg.1 bc.1).f4)).bind fun bk => (some (bg.1.set (bc.1 : Int).toNat (⟨bk.1, bk.2.1, bk.2.2.1, bk.2.2.2.1, bk.2.2.2.2.1⟩ : S25)))) else (none)) else (none)) else (if bh.1 = 1 then (if 0 ≤ bc.1 then (if bc.1 ≤ (bg.1.length : Int) then (some (bg.1.take (bc.1 : Int).toNat)) else (none)) else (none)) else (if bh.1 = 2 then (spec_DrawCodeOk.l0 k bg.1 bB.1 bh.2.1 bh.2.2) else (some bg.1)))))))) = some r := h; clear h; replace H := Option.bind_eq_some_iff.mp H; obtain ⟨⟨bd, bO, bP⟩, A20, H⟩ := H; replace H : ((spec_l6DrawCode.f k bd bO bP).bind fun bg => ((spec_l1Below.f bd bg.2.1 bg.2.2 (bg.1.length : Int)).bind fun bc => ((spec_l1Below.f bd bc.2.1 bc.2.2 6).bind fun bh => (if bh.1 = 0 then (if 0 ≤ bc.1 then (if bc.1 < (bg.1.length : Int) then ((spec_l6Spoil.f bd bh.2.1 bh.2.2 ((rd_T25 bg.1 bc.1).f0) ((rd_T25 bg.1 bc.1).f1) ((rd_T25 bg.1 bc.1).f2) ((rd_T25 bg.1 bc.1).f3) ((rd_T25 bg.1 bc.1).f4)).bind fun bk => (some (bg.1.set (bc.1 : Int).toNat (⟨bk.1, bk.2.1, bk.2.2.1, bk.2.2.2.1, bk.2.2.2.2.1⟩ : S25)))) else (none)) else (none)) else (if bh.1 = 1 then (if 0 ≤ bc.1 then (if bc.1 ≤ (bg.1.length : Int) then (some (bg.1.take (bc.1 : Int).toNat)) else (none)) else (none)) else (if bh.1 = 2 then (spec_DrawCodeOk.l0 k bg.1 bd bh.2.1 bh.2.2) else (some bg.1))))))) = some r := H; have A2 := Aside0.mk A20; clear A20; replace H := Option.bind_eq_some_iff.mp H; obtain ⟨⟨bb, bF, bG⟩, A30, H⟩ := H; replace H : ((spec_l1Below.f bd bF bG (bb.length : Int)).bind fun bc => ((spec_l1Below.f bd bc.2.1 bc.2.2 6).bind fun bh => (if bh.1 = 0 then (if 0 ≤ bc.1 then (if bc.1 < (bb.length : Int) then ((spec_l6Spoil.f bd bh.2.1 bh.2.2 ((rd_T25 bb bc.1).f0) ((rd_T25 bb bc.1).f1) ((rd_T25 bb bc.1).f2) ((rd_T25 bb bc.1).f3) ((rd_T25 bb bc.1).f4)).bind fun bk => (some (bb.set (bc.1 : Int).toNat (⟨bk.1, bk.2.1, bk.2.2.1, bk.2.2.2.1, bk.2.2.2.2.1⟩ : S25)))) else (none)) else (none)) else (if bh.1 = 1 then (if 0 ≤ bc.1 then (if bc.1 ≤ (bb.length : Int) then (some (bb.take (bc.1 : Int).toNat)) else (none)) else (none)) else (if bh.1 = 2 then (spec_DrawCodeOk.l0 k bb bd bh.2.1 bh.2.2) else (some bb)))))) = some r := H; have A3 := Aside0.mk A30; clear A30; replace H := Option.bind_eq_some_iff.mp H; obtain ⟨⟨ba, bH, bI⟩, A40, H⟩ := H; replace H : ((spec_l1Below.f bd bH bI 6).bind fun bh => (if bh.1 = 0 then (if 0 ≤ ba then (if ba < (bb.length : Int) then ((spec_l6Spoil.f bd bh.2.1 bh.2.2 ((rd_T25 bb ba).f0) ((rd_T25 bb ba).f1) ((rd_T25 bb ba).f2) ((rd_T25 bb ba).f3) ((rd_T25 bb ba).f4)).bind fun bk => (some (bb.set (ba : Int).toNat (⟨bk.1, bk.2.1, bk.2.2.1, bk.2.2.2.1, bk.2.2.2.2.1⟩ : S25)))) else (none)) else (none)) else (if bh.1 = 1 then (if 0 ≤ ba then (if ba ≤ (bb.length : Int) then (some (bb.take (ba : Int).toNat)) else (none)) else (none)) else (if bh.1 = 2 then (spec_DrawCodeOk.l0 k bb bd bh.2.1 bh.2.2) else (some bb))))) = some r := H; have A4 := Aside0.mk A40; clear A40; replace H := Option.bind_eq_some_iff.mp H; obtain ⟨⟨bq, bQ, bR⟩, A50, H⟩ := H; replace H : (if bq = 0 then (if 0 ≤ ba then (if ba < (bb.length : Int) then ((spec_l6Spoil.f bd bQ bR ((rd_T25 bb ba).f0) ((rd_T25 bb ba).f1) ((rd_T25 bb ba).f2) ((rd_T25 bb ba).f3) ((rd_T25 bb ba).f4)).bind fun bk => (some (bb.set (ba : Int).toNat (⟨bk.1, bk.2.1, bk.2.2.1, bk.2.2.2.1, bk.2.2.2.2.1⟩ : S25)))) else (none)) else (none)) else (if bq = 1 then (if 0 ≤ ba then (if ba ≤ (bb.length : Int) then (some (bb.take (ba : Int).toNat)) else (none)) else (none)) else (if bq = 2 then (spec_DrawCodeOk.l0 k bb bd bQ bR) else (some bb)))) = some r := H; have A5 := Aside0.mk A50; clear A50
  by_cases c6 : bq = 0
  · rw [if_pos c6] at H
    have c6b0 : (bq == 0) = true := beq_iff_eq.mpr c6; have c6b1 : (bq != 0) = false := bne_eq_false_iff_eq.mpr c6; clear c6
    by_cases c7 : 0 ≤ ba
    · rw [if_pos c7] at H
      have c7b0 : decide (0 ≤ ba) = true := decide_eq_true c7; clear c7
      by_cases c8 : ba < (bb.length : Int)
      · rw [if_pos c8] at H
        have c8b0 : decide (ba < (bb.length : Int)) = true := decide_eq_true c8; clear c8; replace H := Option.bind_eq_some_iff.mp H; obtain ⟨⟨bV, bW, bX, bY, bZ, eY, eZ⟩, A90, H⟩ := H; replace H : (some (bb.set (ba : Int).toNat (⟨bV, bW, bX, bY, bZ⟩ : S25))) = some r := H; have A9 := Aside0.mk A90; clear A90; obtain ⟨d6, dz⟩ : ∃ y_ : List (S25), y_ = (bb.set (ba : Int).toNat (⟨bV, bW, bX, bY, bZ⟩ : S25)) := ⟨_, rfl⟩; replace H : (some d6) = some r := by first | (rw [dz]; with_reducible exact H) | (have H2_ := (Option.bind_some _ _).symm.trans H; rw [dz]; with_reducible exact H2_) | (have H2_ := (Option.bind_some _ _).symm.trans H; with_reducible exact H2_) | with_reducible exact H | (rw [dz]; exact H) | exact H
        have e0 := Aside0.mk dz; clear dz; obtain rfl := Option.some.inj H
        go_enter Tryz.func41, Tryz.ntmps41
        go_wp2_with (first | ((with_reducible refine gate_callee (f := 36) rfl ?_); refine goesM (some 7) rfl rfl Tryz.func36 (by kernel_rfl) rfl #[.slice A0 l0.length c0] rfl ?_; (with_reducible refine (spec_l1New.calls k _ _ l0 bd bO bP w _ ?side1 ?side2 ?side3 A2.out).mono ?_); (case side1 => exact nbe HB); (case side2 => exact bK.out); (case side3 => exact bT.out); rintro e ez ⟨g378, rfl, hi, hb, hb2⟩; refine ⟨_, rfl, ?_⟩; have HI378 := Aside0.mk (hi); replace HB := Aside0.mk (hb); (try clear hb)) | ((with_reducible refine gate_callee (f := 46) rfl ?_); refine goesM (some 9) rfl rfl Tryz.func46 (by kernel_rfl) rfl #[.pointer (some ⟨g378, 0, none⟩)] rfl ?_; (with_reducible refine (spec_l6DrawCode.calls k g378 bd bO bP bb bF bG w _ ?side1 ?side2 A3.out).mono ?_); (case side1 => exact IsS74.n); (case side2 => exact IsS74.nb); rintro e gy ⟨dT, rfl, bD, hi, hb, hk⟩; refine ⟨_, rfl, ?_⟩; have bi := Aside0.mk (Kd.R_lower bD (below_size (IsS74.nb))); replace HB := Aside0.mk (hb); replace HI378 := Aside0.mk (hi); (try clear hb); (try clear bD); obtain ⟨gz, d7, e2⟩ := Kd.R_slice bi.out; subst e2) | ((with_reducible refine gate_callee (f := 57) rfl ?_); refine goesM (some 13) rfl rfl Tryz.func57 (by kernel_rfl) rfl #[.pointer (some ⟨g378, 0, none⟩), .int .i64 (bb.length : Int)] rfl ?_; (with_reducible refine (spec_l1Below.calls g378 bd bF bG (bb.length : Int) ba bH bI w _ ?side1 ?side2 A4.out).mono ?_); (case side1 => exact IsS74.n); (case side2 => exact IsS74.nb); rintro e gA ⟨rfl, hi, hb, hk⟩; refine ⟨_, rfl, ?_⟩; replace bi := Aside0.mk (Kd.R_mono (Kd.R_keep (IsS74.apart (show IsS74 w _ g378 bd bF bG from IsS74.n) (nRo bi) (by decide)) hk (fun _ h => h.2)) (fun _ h => h.1)); replace HB := Aside0.mk (hb); replace HI378 := Aside0.mk (hi); (try clear hb)) | ((with_reducible refine gate_callee (f := 57) rfl ?_); refine goesM (some 15) rfl rfl Tryz.func57 (by kernel_rfl) rfl #[.pointer (some ⟨g378, 0, none⟩), .int .i64 6] rfl ?_; (with_reducible refine (spec_l1Below.calls g378 bd bH bI 6 bq bQ bR w _ ?side1 ?side2 A5.out).mono ?_); (case side1 => exact IsS74.n); (case side2 => exact IsS74.nb); rintro e eD ⟨rfl, hi, hb, hk⟩; refine ⟨_, rfl, ?_⟩; replace bi := Aside0.mk (Kd.R_mono (Kd.R_keep (IsS74.apart (show IsS74 w _ g378 bd bH bI from IsS74.n) (nRo bi) (by decide)) hk (fun _ h => h.2)) (fun _ h => h.1)); replace HB := Aside0.mk (hb); replace HI378 := Aside0.mk (hi); (try clear hb); have p390 : 0 ≤ (ba : Int) := of_decide_eq_true (by first | (with_reducible assumption) | assumption); have q390 : ba < (bb.length : Int) := of_decide_eq_true (by first | (with_reducible assumption) | assumption); obtain ⟨gB, e390, d8, d9, ea, eb, ec⟩ := at_T25 (Kd.R_reads' bi.out).2.2 ba p390 q390; cases e390; replace p390 := eq_true p390; replace q390 := eq_true q390) | ((with_reducible refine gate_callee (f := 48) rfl ?_); refine goesM (some 25) rfl rfl Tryz.func48 (by kernel_rfl) rfl #[.pointer (some ⟨g378, 0, none⟩), .agg #[.int .i64 ((rd_T25 bb ba).f0), .int .i64 ((rd_T25 bb ba).f1), .int .i64 ((rd_T25 bb ba).f2), .int .i64 ((rd_T25 bb ba).f3), .int .i64 ((rd_T25 bb ba).f4)]] rfl ?_; (with_reducible refine (spec_l6Spoil.calls g378 bd bQ bR ((rd_T25 bb ba).f0) ((rd_T25 bb ba).f1) ((rd_T25 bb ba).f2) ((rd_T25 bb ba).f3) ((rd_T25 bb ba).f4) bV bW bX bY bZ eY eZ w _ ?side1 ?side2 A9.out).mono ?_); (case side1 => exact IsS74.n); (case side2 => exact IsS74.nb); rintro e bJ ⟨rfl, hi, hb, hk⟩; refine ⟨_, rfl, ?_⟩; replace bi := Aside0.mk (Kd.R_mono (Kd.R_keep (IsS74.apart (show IsS74 w _ g378 bd bQ bR from IsS74.n) (nRo bi) (by decide)) hk (fun _ h => h.2)) (fun _ h => h.1)); replace HB := Aside0.mk (hb); replace HI378 := Aside0.mk (hi); (try clear hb); have p10 : 0 ≤ (ba : Int) := of_decide_eq_true (by first | (with_reducible assumption) | assumption); have q10 : (ba : Int) < ((bb.length : Int) : Int) := of_decide_eq_true (by first | (with_reducible assumption) | assumption); obtain ⟨bv, gC, ed, ee, gl10, cl10, HG10⟩ := Kd.R_form bi.out (by omega); (first | cases ed | (injection ed with ea_ en_ ec_; (first | subst ea_ | (injection ea_ with ea_; subst ea_)); subst ec_; clear en_)); have dA := Aside0.mk ee; have gD := Aside0.mk HG10; clear ee gl10 HG10; (first | simp only [add_plain] at d8 | skip); (first | simp only [add_plain] at d9 | skip); (first | simp only [add_plain] at ea | skip); (first | simp only [add_plain] at eb | skip); (first | simp only [add_plain] at ec | skip); obtain ⟨gE, e3, ef, dg, dh⟩ := Kd.R_elem bi.out z25 (ba : Int) p10 q10; obtain rfl := k25_openM ef; have e4 : bJ.cell? ⟨bv, (ba : Int).toNat * 5, none⟩ = some (.int .i64 ((rd_T25 bb ba).f0)) := dg 0 _ rfl; have e5 : bJ.cell? ⟨bv, (ba : Int).toNat * 5 + 1, none⟩ = some (.int .i64 ((rd_T25 bb ba).f1)) := dg 1 _ rfl; have e6 : bJ.cell? ⟨bv, (ba : Int).toNat * 5 + 2, none⟩ = some (.int .i64 ((rd_T25 bb ba).f2)) := dg 2 _ rfl; have e7 : bJ.cell? ⟨bv, (ba : Int).toNat * 5 + 3, none⟩ = some (.int .i64 ((rd_T25 bb ba).f3)) := dg 3 _ rfl; have e8 : bJ.cell? ⟨bv, (ba : Int).toNat * 5 + 4, none⟩ = some (.int .i64 ((rd_T25 bb ba).f4)) := dg 4 _ rfl; have hf10_0 : bJ.frozen? ⟨bv, (ba : Int).toNat * 5, none⟩ = false := dh 0; have hf10_1 : bJ.frozen? ⟨bv, (ba : Int).toNat * 5 + 1, none⟩ = false := dh 1; have hf10_2 : bJ.frozen? ⟨bv, (ba : Int).toNat * 5 + 2, none⟩ = false := dh 2; have hf10_3 : bJ.frozen? ⟨bv, (ba : Int).toNat * 5 + 3, none⟩ = false := dh 3; have hf10_4 : bJ.frozen? ⟨bv, (ba : Int).toNat * 5 + 4, none⟩ = false := dh 4; clear e3 dg dh ef; replace p10 := eq_true p10; replace q10 := eq_true q10; have eg := Aside0.mk (show Kd.R k25 25 bJ w.heap.size (fun _ => True) (.slice (some ⟨bv, 0, none⟩) bb.length d7) bb from (nRo bi)); obtain ⟨gF, eh, ei, b0, di⟩ := Kd.R_elem eg.out z25 (ba : Int) (of_decide_eq_true (by first | (with_reducible assumption) | assumption)) (by have h_ : (ba : Int) < ((bb.length : Int) : Int) := of_decide_eq_true (by first | (with_reducible assumption) | assumption); first | exact h_ | (have e_ := (Kd.R_reads' bi.out).1; omega) | simpa using h_); obtain rfl := k25_openM ei; have HP17 := Kd.R_seg eg.out (ba : Int) (of_decide_eq_true (by first | (with_reducible assumption) | assumption)) (by have h_ : (ba : Int) < ((bb.length : Int) : Int) := of_decide_eq_true (by first | (with_reducible assumption) | assumption); first | exact h_ | (have e_ := (Kd.R_reads' bi.out).1; omega) | simpa using h_) (seg := [.int .i64 bV, .int .i64 bW, .int .i64 bX, .int .i64 bY, .int .i64 bZ]) (j := 0) eh b0 (show 5 ≤ 5 from by decide) (x' := (⟨bV, bW, bX, bY, bZ⟩ : S25)) (k25_mkM _ _ _ (⟨bV, bW, bX, bY, bZ⟩ : S25) ) (fun _ hk => hk); have ej := b0 0 _ rfl; (try simp only [show (k25).sz = 5 from rfl, Nat.mul_one, Nat.add_zero] at ej); have hf17_0 := di 0; (try simp only [show (k25).sz = 5 from rfl, Nat.mul_one, Nat.add_zero] at hf17_0); have ek := b0 1 _ rfl; (try simp only [show (k25).sz = 5 from rfl, Nat.mul_one, Nat.add_zero] at ek); have hf17_1 := di 1; (try simp only [show (k25).sz = 5 from rfl, Nat.mul_one, Nat.add_zero] at hf17_1); have el := b0 2 _ rfl; (try simp only [show (k25).sz = 5 from rfl, Nat.mul_one, Nat.add_zero] at el); have hf17_2 := di 2; (try simp only [show (k25).sz = 5 from rfl, Nat.mul_one, Nat.add_zero] at hf17_2); have em := b0 3 _ rfl; (try simp only [show (k25).sz = 5 from rfl, Nat.mul_one, Nat.add_zero] at em); have hf17_3 := di 3; (try simp only [show (k25).sz = 5 from rfl, Nat.mul_one, Nat.add_zero] at hf17_3); have en := b0 4 _ rfl; (try simp only [show (k25).sz = 5 from rfl, Nat.mul_one, Nat.add_zero] at en); have hf17_4 := di 4; (try simp only [show (k25).sz = 5 from rfl, Nat.mul_one, Nat.add_zero] at hf17_4); clear eh b0 di ei) | ((with_reducible refine gate_store (t := 25) (p := 26) rfl ?_); refine store_event (t := 25) (p := 26) (v := ?vo_w18) (w1 := (((((bJ.setCell ⟨bv, (ba : Int).toNat * 5, none⟩ (.int .i64 bV)).setCell ⟨bv, (ba : Int).toNat * 5 + 1, none⟩ (.int .i64 bW)).setCell ⟨bv, (ba : Int).toNat * 5 + 2, none⟩ (.int .i64 bX)).setCell ⟨bv, (ba : Int).toNat * 5 + 3, none⟩ (.int .i64 bY)).setCell ⟨bv, (ba : Int).toNat * 5 + 4, none⟩ (.int .i64 bZ))) ?hg ?ho ?hn ?hr ?_; (case ho => rfl); (case hg => rfl); (case hn => rfl); (case hr => first | (go_simp; done) | (go_simp; rfl)); intro dU hw; have hg : bJ.grownBy dU (some bv) := (by rw [hw]; exact HP17.2); have hp_ : Kd.R k25 25 dU w.heap.size (fun _ => True) (.slice (some ⟨bv, 0, none⟩) bb.length d7) d6 := (by rw [hw, e0.out]; exact HP17.1); clear HP17; replace HI378 := Aside0.mk (IsS74.grown (IsS74.n) hg (IsS74.own_ne HI378.out bi.out (by decide))); replace bi := Aside0.mk (hp_); replace HB := Aside0.mk ((by rw [hw]; exact below_set (below_set (below_set (below_set (below_set (HB.out) dA.out) dA.out) dA.out) dA.out) dA.out : Below w.heap.size w dU)); clear hg hw hp_))
        go_ret
        exact ⟨_, er_, by (with_reducible repeat (first | apply Kd.R_alloc | apply Kd.R_drewN | apply Kd.R_drew)); exact bi.out, IsS74.nb⟩
      · rw [if_neg c8] at H
        exact absurd H (by simp)
    · rw [if_neg c7] at H
      exact absurd H (by simp)
  · rw [if_neg c6] at H
    have c6b0 : (bq == 0) = false := beq_eq_false_iff_ne.mpr c6; have c6b1 : (bq != 0) = true := bne_iff_ne.mpr c6
    by_cases c19 : bq = 1
    · rw [if_pos c19] at H
      have c19b0 : (bq == 1) = true := beq_iff_eq.mpr c19; have c19b1 : (bq != 1) = false := bne_eq_false_iff_eq.mpr c19; clear c19
      by_cases c20 : 0 ≤ ba
      · rw [if_pos c20] at H
        have c20b0 := eq_true c20; have c20b1 : decide (0 ≤ ba) = true := decide_eq_true c20; clear c20
        by_cases c21 : ba ≤ (bb.length : Int)
        · rw [if_pos c21] at H
          have c21b0 := eq_true c21; have c21b1 : decide (ba ≤ (bb.length : Int)) = true := decide_eq_true c21; clear c21; obtain ⟨eo, dB⟩ : ∃ y_ : List (S25), y_ = (bb.take (ba : Int).toNat) := ⟨_, rfl⟩; replace H : (some eo) = some r := by first | (rw [dB]; with_reducible exact H) | (have H2_ := (Option.bind_some _ _).symm.trans H; rw [dB]; with_reducible exact H2_) | (have H2_ := (Option.bind_some _ _).symm.trans H; with_reducible exact H2_) | with_reducible exact H | (rw [dB]; exact H) | exact H
          have ep := Aside0.mk dB; clear dB; obtain rfl := Option.some.inj H
          go_enter Tryz.func41, Tryz.ntmps41
          go_wp2_with (first | ((with_reducible refine gate_callee (f := 36) rfl ?_); refine goesM (some 7) rfl rfl Tryz.func36 (by kernel_rfl) rfl #[.slice A0 l0.length c0] rfl ?_; (with_reducible refine (spec_l1New.calls k _ _ l0 bd bO bP w _ ?side1 ?side2 ?side3 A2.out).mono ?_); (case side1 => exact nbe HB); (case side2 => exact bK.out); (case side3 => exact bT.out); rintro e gG ⟨g378, rfl, hi, hb, hb2⟩; refine ⟨_, rfl, ?_⟩; have HI378 := Aside0.mk (hi); replace HB := Aside0.mk (hb); (try clear hb)) | ((with_reducible refine gate_callee (f := 46) rfl ?_); refine goesM (some 9) rfl rfl Tryz.func46 (by kernel_rfl) rfl #[.pointer (some ⟨g378, 0, none⟩)] rfl ?_; (with_reducible refine (spec_l6DrawCode.calls k g378 bd bO bP bb bF bG w _ ?side1 ?side2 A3.out).mono ?_); (case side1 => exact IsS74.n); (case side2 => exact IsS74.nb); rintro e eK ⟨dT, rfl, bD, hi, hb, hk⟩; refine ⟨_, rfl, ?_⟩; have bi := Aside0.mk (Kd.R_lower bD (below_size (IsS74.nb))); replace HB := Aside0.mk (hb); replace HI378 := Aside0.mk (hi); (try clear hb); (try clear bD); obtain ⟨dN, dO, dP⟩ := Kd.R_slice bi.out; subst dP) | ((with_reducible refine gate_callee (f := 57) rfl ?_); refine goesM (some 13) rfl rfl Tryz.func57 (by kernel_rfl) rfl #[.pointer (some ⟨g378, 0, none⟩), .int .i64 (bb.length : Int)] rfl ?_; (with_reducible refine (spec_l1Below.calls g378 bd bF bG (bb.length : Int) ba bH bI w _ ?side1 ?side2 A4.out).mono ?_); (case side1 => exact IsS74.n); (case side2 => exact IsS74.nb); rintro e gH ⟨rfl, hi, hb, hk⟩; refine ⟨_, rfl, ?_⟩; replace bi := Aside0.mk (Kd.R_mono (Kd.R_keep (IsS74.apart (show IsS74 w _ g378 bd bF bG from IsS74.n) (nRo bi) (by decide)) hk (fun _ h => h.2)) (fun _ h => h.1)); replace HB := Aside0.mk (hb); replace HI378 := Aside0.mk (hi); (try clear hb)) | ((with_reducible refine gate_callee (f := 57) rfl ?_); refine goesM (some 15) rfl rfl Tryz.func57 (by kernel_rfl) rfl #[.pointer (some ⟨g378, 0, none⟩), .int .i64 6] rfl ?_; (with_reducible refine (spec_l1Below.calls g378 bd bH bI 6 bq bQ bR w _ ?side1 ?side2 A5.out).mono ?_); (case side1 => exact IsS74.n); (case side2 => exact IsS74.nb); rintro e eM ⟨rfl, hi, hb, hk⟩; refine ⟨_, rfl, ?_⟩; replace bi := Aside0.mk (Kd.R_mono (Kd.R_keep (IsS74.apart (show IsS74 w _ g378 bd bH bI from IsS74.n) (nRo bi) (by decide)) hk (fun _ h => h.2)) (fun _ h => h.1)); replace HB := Aside0.mk (hb); replace HI378 := Aside0.mk (hi); (try clear hb); have q27 : (ba : Int) ≤ ((bb.length : Int) : Int) := of_decide_eq_true (by first | (with_reducible assumption) | assumption); obtain ⟨i027, hi027, _, hsz27, _⟩ := info_parts info25; have hcut27 := cut_to (P := Tryz.prog) 32 25 .i64 Tryz.underlying32 hi027 dN bb.length dO ba (of_decide_eq_true (by first | (with_reducible assumption) | assumption)) q27 (Kd.R_reads' bi.out).2.1; have hr27 := Kd.R_take (m := (ba : Int).toNat) bi.out (by omega); have er : eo.length = (ba : Int).toNat := (by rw [ep.out, List.length_take]; omega); rw [← ep.out] at hr27; rw [← er] at hr27 hcut27; clear er hi027 hsz27 bi; have e9 := Aside0.mk hr27; clear hr27; replace q27 := eq_true q27))
          go_ret
          exact ⟨_, er_, by (with_reducible repeat (first | apply Kd.R_alloc | apply Kd.R_drewN | apply Kd.R_drew)); exact e9.out, IsS74.nb⟩
        · rw [if_neg c21] at H
          exact absurd H (by simp)
      · rw [if_neg c20] at H
        exact absurd H (by simp)
    · rw [if_neg c19] at H
      have c19b0 : (bq == 1) = false := beq_eq_false_iff_ne.mpr c19; have c19b1 : (bq != 1) = true := bne_iff_ne.mpr c19
      by_cases c28 : bq = 2
      · rw [if_pos c28] at H
        have c28b0 : (bq == 2) = true := beq_iff_eq.mpr c28; have c28b1 : (bq != 2) = false := bne_eq_false_iff_eq.mpr c28; clear c28; have H' := Aside0.mk H; clear H
        go_enter Tryz.func41, Tryz.ntmps41
        go_wp2_with (first | ((with_reducible refine gate_callee (f := 36) rfl ?_); refine goesM (some 7) rfl rfl Tryz.func36 (by kernel_rfl) rfl #[.slice A0 l0.length c0] rfl ?_; (with_reducible refine (spec_l1New.calls k _ _ l0 bd bO bP w _ ?side1 ?side2 ?side3 A2.out).mono ?_); (case side1 => exact nbe HB); (case side2 => exact bK.out); (case side3 => exact bT.out); rintro e gI ⟨g378, rfl, hi, hb, hb2⟩; refine ⟨_, rfl, ?_⟩; have HI378 := Aside0.mk (hi); replace HB := Aside0.mk (hb); (try clear hb)) | ((with_reducible refine gate_callee (f := 46) rfl ?_); refine goesM (some 9) rfl rfl Tryz.func46 (by kernel_rfl) rfl #[.pointer (some ⟨g378, 0, none⟩)] rfl ?_; (with_reducible refine (spec_l6DrawCode.calls k g378 bd bO bP bb bF bG w _ ?side1 ?side2 A3.out).mono ?_); (case side1 => exact IsS74.n); (case side2 => exact IsS74.nb); rintro e eP ⟨dT, rfl, bD, hi, hb, hk⟩; refine ⟨_, rfl, ?_⟩; have bi := Aside0.mk (Kd.R_lower bD (below_size (IsS74.nb))); replace HB := Aside0.mk (hb); replace HI378 := Aside0.mk (hi); (try clear hb); (try clear bD); obtain ⟨gJ, gK, ga⟩ := Kd.R_slice bi.out; subst ga) | ((with_reducible refine gate_callee (f := 57) rfl ?_); refine goesM (some 13) rfl rfl Tryz.func57 (by kernel_rfl) rfl #[.pointer (some ⟨g378, 0, none⟩), .int .i64 (bb.length : Int)] rfl ?_; (with_reducible refine (spec_l1Below.calls g378 bd bF bG (bb.length : Int) ba bH bI w _ ?side1 ?side2 A4.out).mono ?_); (case side1 => exact IsS74.n); (case side2 => exact IsS74.nb); rintro e gL ⟨rfl, hi, hb, hk⟩; refine ⟨_, rfl, ?_⟩; replace bi := Aside0.mk (Kd.R_mono (Kd.R_keep (IsS74.apart (show IsS74 w _ g378 bd bF bG from IsS74.n) (nRo bi) (by decide)) hk (fun _ h => h.2)) (fun _ h => h.1)); replace HB := Aside0.mk (hb); replace HI378 := Aside0.mk (hi); (try clear hb)) | ((with_reducible refine gate_callee (f := 57) rfl ?_); refine goesM (some 15) rfl rfl Tryz.func57 (by kernel_rfl) rfl #[.pointer (some ⟨g378, 0, none⟩), .int .i64 6] rfl ?_; (with_reducible refine (spec_l1Below.calls g378 bd bH bI 6 bq bQ bR w _ ?side1 ?side2 A5.out).mono ?_); (case side1 => exact IsS74.n); (case side2 => exact IsS74.nb); rintro e eU ⟨rfl, hi, hb, hk⟩; refine ⟨_, rfl, ?_⟩; replace bi := Aside0.mk (Kd.R_mono (Kd.R_keep (IsS74.apart (show IsS74 w _ g378 bd bH bI from IsS74.n) (nRo bi) (by decide)) hk (fun _ h => h.2)) (fun _ h => h.1)); replace HB := Aside0.mk (hb); replace HI378 := Aside0.mk (hi); (try clear hb)))
        go_loopg [4] k (fun kq v4 w' => ∃ (bE : List (S25)) (b1 : Int) (b2 : Int), Aside0 (spec_DrawCodeOk.l0 kq bE bd b1 b2 = some r) ∧ Aside0 (kq ≤ k) ∧ Aside0 (Kd.R k25 25 w' w.heap.size (fun _ => True) v4 bE) ∧ Aside0 (IsS74 w w' g378 bd b1 b2) ∧ Aside0 (Below w.heap.size w w'))
        case atStart => exact ⟨(bb), (bQ), (bR), H', ⟨Nat.le_refl _⟩, ⟨by (with_reducible repeat (first | apply Kd.R_alloc | apply Kd.R_drewN | apply Kd.R_drew)); exact bi.out⟩, ⟨IsS74.n⟩, ⟨IsS74.nb⟩⟩
        case round =>
          clear H'; try clear c1
          try clear p1
          try clear q1
          try clear gM
          try clear hf1
          try clear c2
          try clear p2
          try clear q2
          try clear c3
          try clear p3
          try clear q3
          try clear gN
          try clear c4
          try clear c5
          try clear c6
          try clear c6b0
          try clear c6b1
          try clear c7
          try clear c7b0
          try clear c8
          try clear c8b0
          try clear c10
          try clear p10
          try clear q10
          try clear gO
          try clear hf10
          try clear c17
          try clear gP
          try clear hf17
          try clear c19
          try clear c19b0
          try clear c19b1
          try clear c20
          try clear c20b0
          try clear c20b1
          try clear c21
          try clear c21b0
          try clear c21b1
          try clear q27
          try clear c28
          try clear c28b0
          try clear c28b1
          try clear e4
          try clear e5
          try clear e6
          try clear e7
          try clear e8
          try clear ej
          try clear ek
          try clear el
          try clear em
          try clear en
          try clear d8
          try clear d9
          try clear ea
          try clear eb
          try clear ec
          try clear p10
          try clear p390
          try clear q10
          try clear q27
          try clear q390
          obtain ⟨bE, b1, b2, HA, es, bL, HI378, HB⟩ := hrel
          cases gk with
          | zero => exact absurd HA.out (by simp [spec_DrawCodeOk.l0])
          | succ k1 =>
            have H := HA.out; clear HA; simp only [spec_DrawCodeOk.l0] at H; replace H := Option.bind_eq_some_iff.mp H; obtain ⟨⟨dj, dC, dD⟩, A340, H⟩ := H; replace H : (if (bE.length : Int) < (wrap64 (48 + dj)) then (if bE.length < 3518437208883 then (spec_DrawCodeOk.l0 k1 (bE ++ [(⟨15, 0, 0, 0, 0⟩ : S25)]) bd dC dD) else (none)) else (some bE)) = some r := H; have A34 := Aside0.mk A340; clear A340
            by_cases c35 : (bE.length : Int) < (wrap64 (48 + dj))
            · rw [if_pos c35] at H
              have c35b0 : decide ((bE.length : Int) < (wrap64 (48 + dj))) = true := decide_eq_true c35; clear c35
              by_cases c36 : bE.length < 3518437208883
              · rw [if_pos c36] at H
                have gb := Aside0.mk c36; clear c36; obtain ⟨et, dE⟩ : ∃ y_ : List (S25), y_ = (bE ++ [(⟨15, 0, 0, 0, 0⟩ : S25)]) := ⟨_, rfl⟩; replace H : (spec_DrawCodeOk.l0 k1 et bd dC dD) = some r := by first | (rw [dE]; with_reducible exact H) | (have H2_ := (Option.bind_some _ _).symm.trans H; rw [dE]; with_reducible exact H2_) | (have H2_ := (Option.bind_some _ _).symm.trans H; with_reducible exact H2_) | with_reducible exact H | (rw [dE]; exact H) | exact H
                have gc := Aside0.mk dE; clear dE; have H' := Aside0.mk H; clear H; obtain ⟨gd, gf, gg⟩ := Kd.R_slice bL.out; subst gg
                go_wp2_with (first | ((with_reducible refine gate_callee (f := 57) rfl ?_); refine goesM (some 37) rfl rfl Tryz.func57 (by kernel_rfl) rfl #[.pointer (some ⟨g378, 0, none⟩), .int .i64 2] rfl ?_; (with_reducible refine (spec_l1Below.calls g378 bd b1 b2 2 dj dC dD w _ ?side1 ?side2 A34.out).mono ?_); (case side1 => exact IsS74.n); (case side2 => exact IsS74.nb); rintro e gQ ⟨rfl, hi, hb, hk⟩; refine ⟨_, rfl, ?_⟩; replace bL := Aside0.mk (Kd.R_mono (Kd.R_keep (IsS74.apart (show IsS74 w _ g378 bd b1 b2 from IsS74.n) (nRo bL) (by decide)) hk (fun _ h => h.2)) (fun _ h => h.1)); replace HB := Aside0.mk (hb); replace HI378 := Aside0.mk (hi); (try clear hb)) | ((with_reducible refine gate_builtin (b := .append) (xs := #[.tmp 40, .tmp 42]) rfl ?_); at_builtin; refine Kd.R_append k25 (w0 := w) w.heap.size rfl (.tmp 40) (.tmp 42) 32 25 (.agg #[(.int .i64 0), (.int .i64 0), (.int .i64 0), (.int .i64 0), (.int .i64 0)]) 40 rfl Tryz.underlying32 info25 rfl (by decide) (by omega) (.slice gd bE.length gf) bE (⟨15, 0, 0, 0, 0⟩ : S25) [.int .i64 15, .int .i64 0, .int .i64 0, .int .i64 0, .int .i64 0] (fun _ => True) (fun _ => False) rfl rfl ?aP (fun _ hk => hk.elim) ?aF ?aO ?aB ?aS ?aL ?_; (case aP => exact k25_mkM _ _ _ (⟨15, 0, 0, 0, 0⟩ : S25)); (case aB => exact (IsS74.nb)); (case aF => exact (fun _ _ => trivial)); (case aO => exact (nRo bL)); (case aS => exact (below_size (IsS74.nb))); (case aL => have := gb.out; omega); intro gR gS ho hb hg hat; rw [← gc.out] at ho; have gh := Aside0.mk (ho); replace HI378 := Aside0.mk (IsS74.grown (IsS74.n) hg (IsS74.own_ne HI378.out bL.out (by decide))); replace HB := Aside0.mk (hb); clear bL; clear ho hb hg hat))
                go_roundg k1
                case measure => have := es.out; omega
                case rel => exact ⟨(et), (dC), (dD), H', ⟨by have := es.out; omega⟩, ⟨by (with_reducible repeat (first | apply Kd.R_alloc | apply Kd.R_drewN | apply Kd.R_drew)); exact gh.out⟩, ⟨IsS74.n⟩, ⟨IsS74.nb⟩⟩
              · rw [if_neg c36] at H
                exact absurd H (by simp)
            · rw [if_neg c35] at H
              have c35b0 : decide ((bE.length : Int) < (wrap64 (48 + dj))) = false := decide_eq_false c35; clear c35; obtain rfl := Option.some.inj H; obtain ⟨gT, gU, gi⟩ := Kd.R_slice bL.out; subst gi
              go_wp2_with (first | ((with_reducible refine gate_callee (f := 57) rfl ?_); refine goesM (some 37) rfl rfl Tryz.func57 (by kernel_rfl) rfl #[.pointer (some ⟨g378, 0, none⟩), .int .i64 2] rfl ?_; (with_reducible refine (spec_l1Below.calls g378 bd b1 b2 2 dj dC dD w _ ?side1 ?side2 A34.out).mono ?_); (case side1 => exact IsS74.n); (case side2 => exact IsS74.nb); rintro e gV ⟨rfl, hi, hb, hk⟩; refine ⟨_, rfl, ?_⟩; replace bL := Aside0.mk (Kd.R_mono (Kd.R_keep (IsS74.apart (show IsS74 w _ g378 bd b1 b2 from IsS74.n) (nRo bL) (by decide)) hk (fun _ h => h.2)) (fun _ h => h.1)); replace HB := Aside0.mk (hb); replace HI378 := Aside0.mk (hi); (try clear hb)))
              go_ret
              exact ⟨_, er_, by (with_reducible repeat (first | apply Kd.R_alloc | apply Kd.R_drewN | apply Kd.R_drew)); exact bL.out, IsS74.nb⟩
      · rw [if_neg c28] at H
        have c28b0 : (bq == 2) = false := beq_eq_false_iff_ne.mpr c28; have c28b1 : (bq != 2) = true := bne_iff_ne.mpr c28; obtain rfl := Option.some.inj H
        go_enter Tryz.func41, Tryz.ntmps41
        go_wp2_with (first | ((with_reducible refine gate_callee (f := 36) rfl ?_); refine goesM (some 7) rfl rfl Tryz.func36 (by kernel_rfl) rfl #[.slice A0 l0.length c0] rfl ?_; (with_reducible refine (spec_l1New.calls k _ _ l0 bd bO bP w _ ?side1 ?side2 ?side3 A2.out).mono ?_); (case side1 => exact nbe HB); (case side2 => exact bK.out); (case side3 => exact bT.out); rintro e gW ⟨g378, rfl, hi, hb, hb2⟩; refine ⟨_, rfl, ?_⟩; have HI378 := Aside0.mk (hi); replace HB := Aside0.mk (hb); (try clear hb)) | ((with_reducible refine gate_callee (f := 46) rfl ?_); refine goesM (some 9) rfl rfl Tryz.func46 (by kernel_rfl) rfl #[.pointer (some ⟨g378, 0, none⟩)] rfl ?_; (with_reducible refine (spec_l6DrawCode.calls k g378 bd bO bP bb bF bG w _ ?side1 ?side2 A3.out).mono ?_); (case side1 => exact IsS74.n); (case side2 => exact IsS74.nb); rintro e gX ⟨dT, rfl, bD, hi, hb, hk⟩; refine ⟨_, rfl, ?_⟩; have bi := Aside0.mk (Kd.R_lower bD (below_size (IsS74.nb))); replace HB := Aside0.mk (hb); replace HI378 := Aside0.mk (hi); (try clear hb); (try clear bD); obtain ⟨gY, gZ, gj⟩ := Kd.R_slice bi.out; subst gj) | ((with_reducible refine gate_callee (f := 57) rfl ?_); refine goesM (some 13) rfl rfl Tryz.func57 (by kernel_rfl) rfl #[.pointer (some ⟨g378, 0, none⟩), .int .i64 (bb.length : Int)] rfl ?_; (with_reducible refine (spec_l1Below.calls g378 bd bF bG (bb.length : Int) ba bH bI w _ ?side1 ?side2 A4.out).mono ?_); (case side1 => exact IsS74.n); (case side2 => exact IsS74.nb); rintro e g0 ⟨rfl, hi, hb, hk⟩; refine ⟨_, rfl, ?_⟩; replace bi := Aside0.mk (Kd.R_mono (Kd.R_keep (IsS74.apart (show IsS74 w _ g378 bd bF bG from IsS74.n) (nRo bi) (by decide)) hk (fun _ h => h.2)) (fun _ h => h.1)); replace HB := Aside0.mk (hb); replace HI378 := Aside0.mk (hi); (try clear hb)) | ((with_reducible refine gate_callee (f := 57) rfl ?_); refine goesM (some 15) rfl rfl Tryz.func57 (by kernel_rfl) rfl #[.pointer (some ⟨g378, 0, none⟩), .int .i64 6] rfl ?_; (with_reducible refine (spec_l1Below.calls g378 bd bH bI 6 bq bQ bR w _ ?side1 ?side2 A5.out).mono ?_); (case side1 => exact IsS74.n); (case side2 => exact IsS74.nb); rintro e g1 ⟨rfl, hi, hb, hk⟩; refine ⟨_, rfl, ?_⟩; replace bi := Aside0.mk (Kd.R_mono (Kd.R_keep (IsS74.apart (show IsS74 w _ g378 bd bH bI from IsS74.n) (nRo bi) (by decide)) hk (fun _ h => h.2)) (fun _ h => h.1)); replace HB := Aside0.mk (hb); replace HI378 := Aside0.mk (hi); (try clear hb)))
        go_ret
        exact ⟨_, er_, by (with_reducible repeat (first | apply Kd.R_alloc | apply Kd.R_drewN | apply Kd.R_drew)); exact bi.out, IsS74.nb⟩

/-! ### spec_DrawCodeText: function 12 -/
def spec_DrawCodeText.f (k : Nat) (l0 : List Int) : Option ((List (S25))) := (spec_DrawCodeOk.f k l0).bind fun dk => (some dk)
theorem spec_DrawCodeText.mono : ∀ a0 k, LeO (spec_DrawCodeText.f k a0) (spec_DrawCodeText.f (k + 1) a0) := by
  intro a0 k
  unfold spec_DrawCodeText.f
  repeat' first
      | (with_reducible exact spec_DrawCodeOk.mono _ _)
      | (with_reducible exact LeO.refl _)
      | (with_reducible exact LeO.none _)
      | (with_reducible refine LeO.ite ?_ ?_)
      | (with_reducible refine LeO.bind ?_ (fun _ => ?_))
      | exact spec_DrawCodeOk.mono _ _
      | exact LeO.none _
      | refine LeO.ite ?_ ?_
      | refine LeO.bind ?_ (fun _ => ?_)
set_option maxHeartbeats 8000000 in
set_option maxRecDepth 100000 in
theorem spec_DrawCodeText.calls (k : Nat) (A0 : Option Addr) (c0 : Nat) (l0 : List Int) (r : List (S25)) (w : World) (hr0 : Kd.C (Kd.int .u8) w A0 l0.length l0) (hc0 : l0.length ≤ c0) (h : spec_DrawCodeText.f k l0 = some r) :
    Calls Tryz.prog 12 #[.slice A0 l0.length c0] w fun e w' => ∃ v0_ : Value, e = .returned (v0_) ∧ Kd.R k25 25 w' w.heap.size (fun _ => True) v0_ r ∧ Below w.heap.size w w' := by
  have bK := Aside0.mk hr0; have bT := Aside0.mk hc0; clear hr0 hc0; have HB := Aside0.mk (Below.refl w.heap.size w); have H : ((spec_DrawCodeOk.f k l0).bind fun dk => (some dk)) = some r := h; clear h; replace H := Option.bind_eq_some_iff.mp H; obtain ⟨dk, A20, H⟩ := H; replace H : (some dk) = some r := H; have A2 := Aside0.mk A20; clear A20; obtain rfl := Option.some.inj H
  go_enter Tryz.func12, Tryz.ntmps12
  go_wp2_with (first | ((with_reducible refine gate_callee (f := 41) rfl ?_); refine goesM (some 4) rfl rfl Tryz.func41 (by kernel_rfl) rfl #[.slice A0 l0.length c0] rfl ?_; (with_reducible refine (spec_DrawCodeOk.calls k _ _ l0 dk _ ?side1 ?side2 A2.out).mono ?_); (case side1 => exact nC bK); (case side2 => exact bT.out); rintro e w3 ⟨g2, rfl, bD, hb⟩; refine ⟨_, rfl, ?_⟩; have gl := Aside0.mk (Kd.R_lower bD (bsz HB)); replace HB := nbs HB hb; (try clear hb); (try clear bD)))
  go_ret
  exact ⟨_, er_, by (with_reducible repeat (first | apply Kd.R_alloc | apply Kd.R_drewN | apply Kd.R_drew)); exact gl.out, nbe HB⟩

-- NOT PRINTED: function 60 (impl_Ins_60)

-- NOT PRINTED: function 43 (impl_Ins_43)

/-! ### impl_CodeOk_1: function 44 -/
def impl_CodeOk_1.f (k : Nat) (a0_0 : Int) (a0_1 : Int) (a0_2 : Int) (a0_3 : Int) (a0_4 : Int) : Option (Bool) := (impl_InsOk.f k a0_0 a0_1 a0_2 a0_3 a0_4).bind fun dl => (some (!dl))
theorem impl_CodeOk_1.mono : ∀ a0 a1 a2 a3 a4 k, LeO (impl_CodeOk_1.f k a0 a1 a2 a3 a4) (impl_CodeOk_1.f (k + 1) a0 a1 a2 a3 a4) := by
  intro a0 a1 a2 a3 a4 k
  unfold impl_CodeOk_1.f
  repeat' first
      | (with_reducible exact impl_InsOk.mono _ _ _ _ _ _)
      | (with_reducible exact LeO.refl _)
      | (with_reducible exact LeO.none _)
      | (with_reducible refine LeO.ite ?_ ?_)
      | (with_reducible refine LeO.bind ?_ (fun _ => ?_))
      | exact impl_InsOk.mono _ _ _ _ _ _
      | exact LeO.none _
      | refine LeO.ite ?_ ?_
      | refine LeO.bind ?_ (fun _ => ?_)
set_option maxHeartbeats 8000000 in
set_option maxRecDepth 100000 in
theorem impl_CodeOk_1.calls (k : Nat) (a0_0 : Int) (a0_1 : Int) (a0_2 : Int) (a0_3 : Int) (a0_4 : Int) (r : Bool) (w : World) (h : impl_CodeOk_1.f k a0_0 a0_1 a0_2 a0_3 a0_4 = some r) :
    Calls Tryz.prog 44 #[.agg #[.int .i64 a0_0, .int .i64 a0_1, .int .i64 a0_2, .int .i64 a0_3, .int .i64 a0_4]] w fun e w' => e = .returned (.bool r) ∧ Below w.heap.size w w' := by
  have hu25 := Tryz.underlying25; have HB := Aside0.mk (Below.refl w.heap.size w); have H : ((impl_InsOk.f k a0_0 a0_1 a0_2 a0_3 a0_4).bind fun dl => (some (!dl))) = some r := h; clear h; replace H := Option.bind_eq_some_iff.mp H; obtain ⟨dl, A20, H⟩ := H; replace H : (some (!dl)) = some r := H; have A2 := Aside0.mk A20; clear A20; obtain rfl := Option.some.inj H
  go_enter Tryz.func44, Tryz.ntmps44
  go_wp2_with (first | ((with_reducible refine gate_dst (N := 1) rfl ?_); refine bxe 1 #[.int .i64 a0_0, .int .i64 a0_1, .int .i64 a0_2, .int .i64 a0_3, .int .i64 a0_4] 25 ?_; intro g3 hg w3 hbox hb; have dJ := hbox; have g4 := nge HB hg; have g5 := nge HB hg; replace HB := nbs HB hb; clear hb hbox hg; obtain ⟨g6, g7, g8, g9, ha⟩ := c5e dJ; obtain ⟨hc, hf, hh, hj, hl⟩ := z5_ dJ) | ((with_reducible refine gate_callee (f := 8) rfl ?_); refine goesM (some 4) rfl rfl Tryz.func8 (by kernel_rfl) rfl #[.agg #[.int .i64 a0_0, .int .i64 a0_1, .int .i64 a0_2, .int .i64 a0_3, .int .i64 a0_4]] rfl ?_; (with_reducible refine (impl_InsOk.calls k a0_0 a0_1 a0_2 a0_3 a0_4 dl _ A2.out).mono ?_); rintro e w5 ⟨rfl, hb⟩; refine ⟨_, rfl, ?_⟩; replace dJ := nblk dJ hb; replace HB := nbs HB hb; (try clear hb)))
  go_ret
  exact ⟨er_, nbe HB⟩

/-! ### CF_impl_CodeOk_1: function 43 with function 44 -/
def CF_impl_CodeOk_1.l0 : Nat → List (S25) → Int → Option Int
  | 0, _, _ => none
  | k + 1, l, i => if i < (l.length : Int) then (if 0 ≤ i then (impl_CodeOk_1.f k (rd_T25 l i).f0 (rd_T25 l i).f1 (rd_T25 l i).f2 (rd_T25 l i).f3 (rd_T25 l i).f4).bind fun t => (if t = true then some i else CF_impl_CodeOk_1.l0 k l (wrap64 (i + 1))) else none) else some (-1)
def CF_impl_CodeOk_1.f (k : Nat) (l0 : List (S25)) (u : Unit) : Option Bool := (CF_impl_CodeOk_1.l0 k l0 0).bind fun t => some (decide (t ≥ 0))
theorem CF_impl_CodeOk_1.mono_l : ∀ k, (∀ y0 y1, LeO (CF_impl_CodeOk_1.l0 k y0 y1) (CF_impl_CodeOk_1.l0 (k + 1) y0 y1))
  | 0 => fun _ _ r h => by simp [CF_impl_CodeOk_1.l0] at h
  | k + 1 => by
    have ih0 := CF_impl_CodeOk_1.mono_l k
    · intro y0 y1
      unfold CF_impl_CodeOk_1.l0
      repeat' first
      | (with_reducible exact ih0 _ _)
      | (with_reducible exact impl_CodeOk_1.mono _ _ _ _ _ _)
      | (with_reducible exact LeO.refl _)
      | (with_reducible exact LeO.none _)
      | (with_reducible refine LeO.ite ?_ ?_)
      | (with_reducible refine LeO.bind ?_ (fun _ => ?_))
      | exact ih0 _ _
      | exact impl_CodeOk_1.mono _ _ _ _ _ _
      | exact LeO.none _
      | refine LeO.ite ?_ ?_
      | refine LeO.bind ?_ (fun _ => ?_)
theorem CF_impl_CodeOk_1.mono : ∀ a0 a1 k, LeO (CF_impl_CodeOk_1.f k a0 a1) (CF_impl_CodeOk_1.f (k + 1) a0 a1) := by
  intro a0 a1 k; have ih0 := CF_impl_CodeOk_1.mono_l k
  unfold CF_impl_CodeOk_1.f
  repeat' first
      | (with_reducible exact ih0 _ _)
      | (with_reducible exact impl_CodeOk_1.mono _ _ _ _ _ _)
      | (with_reducible exact LeO.refl _)
      | (with_reducible exact LeO.none _)
      | (with_reducible refine LeO.ite ?_ ?_)
      | (with_reducible refine LeO.bind ?_ (fun _ => ?_))
      | exact ih0 _ _
      | exact impl_CodeOk_1.mono _ _ _ _ _ _
      | exact LeO.none _
      | refine LeO.ite ?_ ?_
      | refine LeO.bind ?_ (fun _ => ?_)
set_option maxHeartbeats 8000000 in
set_option maxRecDepth 100000 in
theorem CF_impl_CodeOk_1.idx (k : Nat) (A0 : Option Addr) (c0 : Nat) (l0 : List (S25)) (r : Int) (w : World) (hr0 : Kd.C k25 w A0 l0.length l0) (h : CF_impl_CodeOk_1.l0 k l0 0 = some r) :
  Calls Tryz.prog 60 #[.slice A0 l0.length c0, .func (.func 44) #[] #[]] w fun e w' => e = .returned (.int .i64 r) ∧ Below w.heap.size w w' := by
 have hu25 := Tryz.underlying25; have bK := Aside0.mk hr0; have HB := Aside0.mk (Below.refl w.heap.size w); have H' := Aside0.mk h; clear hr0 h
 go_enter Tryz.func60, Tryz.ntmps60
 go_wp2
 go_loopg [5, 8] k (fun kq v5 v8 w' => ∃ x8 : Int, v8 = .int .i64 x8 ∧ Aside0 (CF_impl_CodeOk_1.l0 kq l0 x8 = some r) ∧ Aside0 (kq ≤ k) ∧ Aside0 (Below w.heap.size w w'))
 case atStart => exact ⟨0, rfl, H', ⟨Nat.le_refl _⟩, HB⟩
 case round =>
  clear H'; obtain ⟨x8, rfl, HA, HK, HB⟩ := hrel
  cases gk with
  | zero => exact absurd HA.out (by simp [CF_impl_CodeOk_1.l0])
  | succ k1 =>
   have H := HA.out; clear HA; simp only [CF_impl_CodeOk_1.l0] at H
   by_cases c1 : x8 < (l0.length : Int)
   · rw [if_pos c1] at H
     by_cases c2 : 0 ≤ x8
     · rw [if_pos c2] at H
       replace H := Option.bind_eq_some_iff.mp H; obtain ⟨t, A80, H⟩ := H; have A8 := Aside0.mk A80; clear A80; obtain ⟨hm, e1, hx_0, hx_1, hx_2, hx_3, hx_4⟩ := at_T25 bK.out x8 c2 c1
       cases e1
       replace hx_0 := (HB.out.cell (World.block_lt_of_cell? w _ hx_0)).trans hx_0; replace hx_1 := (HB.out.cell (World.block_lt_of_cell? w _ hx_1)).trans hx_1; replace hx_2 := (HB.out.cell (World.block_lt_of_cell? w _ hx_2)).trans hx_2; replace hx_3 := (HB.out.cell (World.block_lt_of_cell? w _ hx_3)).trans hx_3; replace hx_4 := (HB.out.cell (World.block_lt_of_cell? w _ hx_4)).trans hx_4; have c1b : decide (x8 < (l0.length : Int)) = true := decide_eq_true c1; have c2b : decide (0 ≤ x8) = true := decide_eq_true c2; replace c2 := eq_true c2; replace c1 := eq_true c1
       cases t with
       | true =>
         obtain rfl : x8 = r := by simpa using H
         clear H
         go_wp2_with (first | (go_at_call 44; refine (impl_CodeOk_1.calls k1 (rd_T25 l0 x8).f0 (rd_T25 l0 x8).f1 (rd_T25 l0 x8).f2 (rd_T25 l0 x8).f3 (rd_T25 l0 x8).f4 true _ A8.out).mono ?_; rintro e w' ⟨rfl, hb⟩))
         go_ret
         exact ⟨rfl, below_step HB.out hb⟩
       | false =>
         have H' : Aside0 (CF_impl_CodeOk_1.l0 k1 l0 (wrap64 (x8 + 1)) = some r) := ⟨by simpa using H⟩; clear H
         go_wp2_with (first | (go_at_call 44; refine (impl_CodeOk_1.calls k1 (rd_T25 l0 x8).f0 (rd_T25 l0 x8).f1 (rd_T25 l0 x8).f2 (rd_T25 l0 x8).f3 (rd_T25 l0 x8).f4 false _ A8.out).mono ?_; rintro e w' ⟨rfl, hb⟩))
         go_roundg k1
         case measure => have := HK.out; omega
         case rel => exact ⟨_, rfl, H', ⟨by have := HK.out; omega⟩, ⟨below_step HB.out hb⟩⟩
     · rw [if_neg c2] at H
       exact absurd H (by simp)
   · rw [if_neg c1] at H
     obtain rfl : -1 = r := by simpa using H
     clear H; go_wp2
     go_ret
     exact ⟨rfl, HB.out⟩
set_option maxHeartbeats 8000000 in
set_option maxRecDepth 100000 in
theorem CF_impl_CodeOk_1.calls (k : Nat) (A0 : Option Addr) (c0 : Nat) (l0 : List (S25)) (u : Unit) (r : Bool) (w : World) (hr0 : Kd.C k25 w A0 l0.length l0) (hc0 : l0.length ≤ c0) (h : CF_impl_CodeOk_1.f k l0 u = some r) :
  Calls Tryz.prog 43 #[.slice A0 l0.length c0, .func (.func 44) #[] #[]] w fun e w' => e = .returned (.bool r) ∧ Below w.heap.size w w' := by
 obtain ⟨t, A80, H⟩ := Option.bind_eq_some_iff.mp h; have A8 := Aside0.mk A80; have bK := Aside0.mk hr0; obtain rfl : decide (t ≥ 0) = r := by simpa using H
 clear A80 H h hr0 hc0
 go_enter Tryz.func43, Tryz.ntmps43
 go_wp2_with (first | (go_at_call 60; refine (CF_impl_CodeOk_1.idx k A0 c0 l0 t _ bK.out A8.out).mono ?_; rintro e w' ⟨rfl, hb⟩))
 go_ret
 exact ⟨rfl, hb⟩

/-! ### impl_CodeOk: function 15 -/
def impl_CodeOk.f (k : Nat) (l0 : List (S25)) : Option (Bool) := (impl_in.f (l0.length : Int) 1 48).bind fun dm => (if dm = true then ((CF_impl_CodeOk_1.f k l0 ()).bind fun bM => (some (!bM))) else (some false))
theorem impl_CodeOk.mono : ∀ a0 k, LeO (impl_CodeOk.f k a0) (impl_CodeOk.f (k + 1) a0) := by
  intro a0 k
  unfold impl_CodeOk.f
  repeat' first
      | (with_reducible exact CF_impl_CodeOk_1.mono _ _ _)
      | (with_reducible exact LeO.refl _)
      | (with_reducible exact LeO.none _)
      | (with_reducible refine LeO.ite ?_ ?_)
      | (with_reducible refine LeO.bind ?_ (fun _ => ?_))
      | exact CF_impl_CodeOk_1.mono _ _ _
      | exact LeO.none _
      | refine LeO.ite ?_ ?_
      | refine LeO.bind ?_ (fun _ => ?_)
set_option maxHeartbeats 8000000 in
set_option maxRecDepth 100000 in
theorem impl_CodeOk.calls (k : Nat) (A0 : Option Addr) (c0 : Nat) (l0 : List (S25)) (r : Bool) (w : World) (hr0 : Kd.C k25 w A0 l0.length l0) (hc0 : l0.length ≤ c0) (h : impl_CodeOk.f k l0 = some r) :
    Calls Tryz.prog 15 #[.slice A0 l0.length c0] w fun e w' => e = .returned (.bool r) ∧ Below w.heap.size w w' := by
  have bK := Aside0.mk hr0; have bT := Aside0.mk hc0; clear hr0 hc0; have HB := Aside0.mk (Below.refl w.heap.size w); have H : ((impl_in.f (l0.length : Int) 1 48).bind fun dm => (if dm = true then ((CF_impl_CodeOk_1.f k l0 ()).bind fun bM => (some (!bM))) else (some false))) = some r := h; clear h; replace H := Option.bind_eq_some_iff.mp H; obtain ⟨dm, A20, H⟩ := H; replace H : (if dm = true then ((CF_impl_CodeOk_1.f k l0 ()).bind fun bM => (some (!bM))) else (some false)) = some r := H; have A2 := Aside0.mk A20; clear A20
  by_cases c3 : dm = true
  · subst c3
    have H1 : ((CF_impl_CodeOk_1.f k l0 ()).bind fun bM => (some (!bM))) = some r := by rw [if_pos rfl] at H; exact H
    clear H; have H := H1; clear H1; replace H := Option.bind_eq_some_iff.mp H; obtain ⟨bM, A40, H⟩ := H; replace H : (some (!bM)) = some r := H; have A4 := Aside0.mk A40; clear A40; obtain rfl := Option.some.inj H
    go_enter Tryz.func15, Tryz.ntmps15
    go_wp2_with (first | ((with_reducible refine gate_callee (f := 30) rfl ?_); refine goesM (some 5) rfl rfl Tryz.func30 (by kernel_rfl) rfl #[.int .i64 (l0.length : Int), .int .i64 1, .int .i64 48] rfl ?_; (with_reducible refine (impl_in.calls (l0.length : Int) 1 48 true _ A2.out).mono ?_); rintro e w' ⟨rfl, ⟨nd, rfl⟩⟩; refine ⟨_, rfl, ?_⟩) | (go_at_call 43; (with_reducible refine (CF_impl_CodeOk_1.calls k _ _ l0 () bM _ ?side1 ?side2 A4.out).mono ?_); (case side1 => exact nC bK); (case side2 => exact bT.out); rintro e w5 ⟨rfl, hb⟩; replace HB := nbs HB hb; (try clear hb)))
    go_ret
    exact ⟨er_, nbe HB⟩
  · replace c3 := Bool.eq_false_iff.mpr c3
    subst c3; have H1 : (some false) = some r := by rw [if_neg (show ¬ (false = true) by decide)] at H; exact H
    clear H; have H := H1; clear H1; obtain rfl := Option.some.inj H
    go_enter Tryz.func15, Tryz.ntmps15
    go_wp2_with (first | ((with_reducible refine gate_callee (f := 30) rfl ?_); refine goesM (some 5) rfl rfl Tryz.func30 (by kernel_rfl) rfl #[.int .i64 (l0.length : Int), .int .i64 1, .int .i64 48] rfl ?_; (with_reducible refine (impl_in.calls (l0.length : Int) 1 48 false _ A2.out).mono ?_); rintro e w' ⟨rfl, ⟨nd, rfl⟩⟩; refine ⟨_, rfl, ?_⟩))
    go_ret
    exact ⟨er_, nbe HB⟩

end Go.Proofs.YtlmcikjjeidnfaaGreatDoor.PFnTexts
