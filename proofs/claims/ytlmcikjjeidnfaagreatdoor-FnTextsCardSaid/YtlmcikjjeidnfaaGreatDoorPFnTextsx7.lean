-- Written by a program of this session (wip/patch.py turns a copy of the kit's print): the functions that the law reaches, and their walks.
import Derived.Test.YtlmcikjjeidnfaaGreatDoorPFnTextsx0
import Derived.Test.YtlmcikjjeidnfaaGreatDoorPFnTextsx3
import Derived.Test.YtlmcikjjeidnfaaGreatDoorPFnTextsx4
import Derived.Test.YtlmcikjjeidnfaaGreatDoorPFnTextsx5
import Derived.Test.YtlmcikjjeidnfaaGreatDoorPFnTextsx6
import Derived.Test.YtlmcikjjeidnfaaGreatDoorCFnTexts
namespace Go.Proofs.YtlmcikjjeidnfaaGreatDoor.PFnTexts
open Go.RowKit Go.Proofs.YtlmcikjjeidnfaaGreatDoorW.PrintWords Go.Proofs.YtlmcikjjeidnfaaGreatDoorW.PrintLast Go.Proofs.YtlmcikjjeidnfaaGreatDoorW.PrintMore Go.Proofs.YtlmcikjjeidnfaaGreatDoorW.Mine
attribute [local go_sem] max2_int min2_int max_two min_two max_three min_three max_four min_four   -- for this text's walks alone
set_option linter.unusedVariables false
set_option linter.unusedSimpArgs false

/-! ### impl_InsRead: function 9 -/
mutual
def impl_InsRead.j0 : Nat → ByteArray → List ByteArray → ByteArray → Bool → Int → Int → Int → Int → Int → Option (Int × Int × Int × Int × Int × Bool)
 | 0, _, _, _, _, _, _, _, _, _ => none
 | k + 1, x0, x4, x6, dt, bJ, bK, bL, bM, bN => if dt = true then (some (0, 0, 0, 0, 0, false)) else (impl_InsRead.l0 k x0 x6 (x4.drop 1) ((x4.drop 1).length : Int) 0 bJ bK bL bM bN)
def impl_InsRead.l0 : Nat → ByteArray → ByteArray → List ByteArray → Int → Int → Int → Int → Int → Int → Int → Option (Int × Int × Int × Int × Int × Bool)
 | 0, _, _, _, _, _, _, _, _, _, _ => none
 | k + 1, x0, x6, b0, b9, bE, bJ, bK, bL, bM, bN => if bE < b9 then (if 0 ≤ bE then (if bE < (b0.length : Int) then ((strings_TrimPrefix.f (rdOf ByteArray.empty b0 bE) (⟨#[114]⟩ : ByteArray)).bind fun bC => ((strconv_Atoi.f bC).bind fun bO => (if bO.2 = true then (if bE < (x6.size : Int) then ((impl_withPart.f bJ bK bL bM bN (bt x6 bE) bO.1).bind fun bk => (impl_InsRead.l0 k x0 x6 b0 b9 (wrap64 (bE + 1)) bk.1 bk.2.1 bk.2.2.1 bk.2.2.2.1 bk.2.2.2.2)) else (none)) else (some (0, 0, 0, 0, 0, false))))) else (none)) else (none)) else ((impl_InsText.f k bJ bK bL bM bN).bind fun bA => (if bA.toList = x0.toList then (some (bJ, bK, bL, bM, bN, true)) else (some (0, 0, 0, 0, 0, false))))
end
def impl_InsRead.f (k : Nat) (a0 : ByteArray) : Option (Int × Int × Int × Int × Int × Bool) := (strings_Split.f a0 (⟨#[32]⟩ : ByteArray)).bind fun ba => ((impl_opNames.f).bind fun bl => (if 0 < (ba.length : Int) then ((slices_Index_string_string.f k bl (rdOf ByteArray.empty ba 0)).bind fun bh => ((impl_formOf.f k bh).bind fun bj => (if bj.2 = true then (impl_InsRead.j0 k a0 ba bj.1 ((ba.length : Int) != (wrap64 ((bj.1.size : Int) + 1))) bh 0 0 0 0) else (impl_InsRead.j0 k a0 ba bj.1 true bh 0 0 0 0)))) else (none)))
theorem impl_InsRead.mono_l : ∀ k, (∀ y0 y1 y2 y3 y4 y5 y6 y7 y8, LeO (impl_InsRead.j0 k y0 y1 y2 y3 y4 y5 y6 y7 y8) (impl_InsRead.j0 (k + 1) y0 y1 y2 y3 y4 y5 y6 y7 y8)) ∧ (∀ y0 y1 y2 y3 y4 y5 y6 y7 y8 y9, LeO (impl_InsRead.l0 k y0 y1 y2 y3 y4 y5 y6 y7 y8 y9) (impl_InsRead.l0 (k + 1) y0 y1 y2 y3 y4 y5 y6 y7 y8 y9))
 | 0 => ⟨fun _ _ _ _ _ _ _ _ _ r h => by simp [impl_InsRead.j0] at h, fun _ _ _ _ _ _ _ _ _ _ r h => by simp [impl_InsRead.l0] at h⟩
 | k + 1 => by
  obtain ⟨ih0, ih1⟩ := impl_InsRead.mono_l k; refine ⟨?_, ?_⟩
  ·intro y0 y1 y2 y3 y4 y5 y6 y7 y8
   unfold impl_InsRead.j0
   repeat' first
   | (with_reducible exact ih0 _ _ _ _ _ _ _ _ _)
   | (with_reducible exact ih1 _ _ _ _ _ _ _ _ _ _)
   | (with_reducible exact impl_InsText.mono _ _ _ _ _ _)
   | (with_reducible exact impl_formOf.mono _ _)
   | (with_reducible exact slices_Index_string_string.mono _ _ _)
   | (with_reducible exact LeO.refl _)
   | (with_reducible exact LeO.none _)
   | (with_reducible refine LeO.ite ?_ ?_)
   | (with_reducible refine LeO.bind ?_ (fun _ => ?_))
   | exact ih0 _ _ _ _ _ _ _ _ _
   | exact ih1 _ _ _ _ _ _ _ _ _ _
   | exact impl_InsText.mono _ _ _ _ _ _
   | exact impl_formOf.mono _ _
   | exact slices_Index_string_string.mono _ _ _
   | exact LeO.none _
   | refine LeO.ite ?_ ?_
   | refine LeO.bind ?_ (fun _ => ?_)
  ·intro y0 y1 y2 y3 y4 y5 y6 y7 y8 y9
   unfold impl_InsRead.l0
   repeat' first
   | (with_reducible exact ih0 _ _ _ _ _ _ _ _ _)
   | (with_reducible exact ih1 _ _ _ _ _ _ _ _ _ _)
   | (with_reducible exact impl_InsText.mono _ _ _ _ _ _)
   | (with_reducible exact impl_formOf.mono _ _)
   | (with_reducible exact slices_Index_string_string.mono _ _ _)
   | (with_reducible exact LeO.refl _)
   | (with_reducible exact LeO.none _)
   | (with_reducible refine LeO.ite ?_ ?_)
   | (with_reducible refine LeO.bind ?_ (fun _ => ?_))
   | exact ih0 _ _ _ _ _ _ _ _ _
   | exact ih1 _ _ _ _ _ _ _ _ _ _
   | exact impl_InsText.mono _ _ _ _ _ _
   | exact impl_formOf.mono _ _
   | exact slices_Index_string_string.mono _ _ _
   | exact LeO.none _
   | refine LeO.ite ?_ ?_
   | refine LeO.bind ?_ (fun _ => ?_)
theorem impl_InsRead.mono : ∀ a0 k, LeO (impl_InsRead.f k a0) (impl_InsRead.f (k + 1) a0) := by
 intro a0 k; obtain ⟨ih0, ih1⟩ := impl_InsRead.mono_l k
 unfold impl_InsRead.f
 repeat' first
   | (with_reducible exact ih0 _ _ _ _ _ _ _ _ _)
   | (with_reducible exact ih1 _ _ _ _ _ _ _ _ _ _)
   | (with_reducible exact impl_InsText.mono _ _ _ _ _ _)
   | (with_reducible exact impl_formOf.mono _ _)
   | (with_reducible exact slices_Index_string_string.mono _ _ _)
   | (with_reducible exact LeO.refl _)
   | (with_reducible exact LeO.none _)
   | (with_reducible refine LeO.ite ?_ ?_)
   | (with_reducible refine LeO.bind ?_ (fun _ => ?_))
   | exact ih0 _ _ _ _ _ _ _ _ _
   | exact ih1 _ _ _ _ _ _ _ _ _ _
   | exact impl_InsText.mono _ _ _ _ _ _
   | exact impl_formOf.mono _ _
   | exact slices_Index_string_string.mono _ _ _
   | exact LeO.none _
   | refine LeO.ite ?_ ?_
   | refine LeO.bind ?_ (fun _ => ?_)
def impl_InsRead.T2 : Bool × List (List Nat × List Nat) := (true, [([], []), ([], []), ([1], [1]), ([2], [2]), ([0, 3, 0], [0, 3]), ([4], [4]), ([], []), ([6, 5, 4, 0, 1, 2, 3, 4, 5, 6], [5, 6])])
def impl_InsRead.B2 : List Nat := [0, 0, 2, 6, 15, 31, 0, 127]
theorem impl_InsRead.tab2 : rtab .any (opsOf Tryz.f9 2) = impl_InsRead.T2 := by kernel_rfl
theorem impl_InsRead.bits2 : waitsOk impl_InsRead.T2.2 impl_InsRead.B2 = true := by kernel_rfl
set_option maxHeartbeats 8000000 in
set_option maxRecDepth 100000 in
theorem impl_InsRead.calls (k : Nat) (a0 : ByteArray) (r1 : Int) (r2 : Int) (r3 : Int) (r4 : Int) (r5 : Int) (r6 : Bool) (w : World) (h : impl_InsRead.f k a0 = some (r1, r2, r3, r4, r5, r6)) (hT_ : TabW w) :
  Calls Tryz.prog 9 #[.string a0] w fun e w' => e = .returned (.tuple #[.agg #[.int .i64 r1, .int .i64 r2, .int .i64 r3, .int .i64 r4, .int .i64 r5], .bool r6]) ∧ Below w.heap.size w w' := by
 have HT := Aside0.mk hT_; clear hT_
 have hu25 := Tryz.underlying25; have HB := Aside0.mk (Below.refl w.heap.size w); have H : ((strings_Split.f a0 (⟨#[32]⟩ : ByteArray)).bind fun ba => ((impl_opNames.f).bind fun bl => (if 0 < (ba.length : Int) then ((slices_Index_string_string.f k bl (rdOf ByteArray.empty ba 0)).bind fun bh => ((impl_formOf.f k bh).bind fun bj => (if bj.2 = true then (impl_InsRead.j0 k a0 ba bj.1 ((ba.length : Int) != (wrap64 ((bj.1.size : Int) + 1))) bh 0 0 0 0) else (impl_InsRead.j0 k a0 ba bj.1 true bh 0 0 0 0)))) else (none)))) = some (r1, r2, r3, r4, r5, r6) := h; clear h; replace H := Option.bind_eq_some_iff.mp H; obtain ⟨ba, A20, H⟩ := H; replace H : ((impl_opNames.f).bind fun bl => (if 0 < (ba.length : Int) then ((slices_Index_string_string.f k bl (rdOf ByteArray.empty ba 0)).bind fun bh => ((impl_formOf.f k bh).bind fun bj => (if bj.2 = true then (impl_InsRead.j0 k a0 ba bj.1 ((ba.length : Int) != (wrap64 ((bj.1.size : Int) + 1))) bh 0 0 0 0) else (impl_InsRead.j0 k a0 ba bj.1 true bh 0 0 0 0)))) else (none))) = some (r1, r2, r3, r4, r5, r6) := H; have A2 := Aside0.mk A20; clear A20; replace H := Option.bind_eq_some_iff.mp H; obtain ⟨bl, A30, H⟩ := H; replace H : (if 0 < (ba.length : Int) then ((slices_Index_string_string.f k bl (rdOf ByteArray.empty ba 0)).bind fun bh => ((impl_formOf.f k bh).bind fun bj => (if bj.2 = true then (impl_InsRead.j0 k a0 ba bj.1 ((ba.length : Int) != (wrap64 ((bj.1.size : Int) + 1))) bh 0 0 0 0) else (impl_InsRead.j0 k a0 ba bj.1 true bh 0 0 0 0)))) else (none)) = some (r1, r2, r3, r4, r5, r6) := H; have A3 := Aside0.mk A30; clear A30
 by_cases c4 : 0 < (ba.length : Int)
 ·rw [if_pos c4] at H
  have HL1_ := Aside0.mk c4; have c4b0 : decide (0 < (ba.length : Int)) = true := decide_eq_true c4; have c4b1 : decide (0 < ba.length) = true := decide_eq_true (by omega); clear c4; replace H := Option.bind_eq_some_iff.mp H; obtain ⟨bh, A50, H⟩ := H; replace H : ((impl_formOf.f k bh).bind fun bj => (if bj.2 = true then (impl_InsRead.j0 k a0 ba bj.1 ((ba.length : Int) != (wrap64 ((bj.1.size : Int) + 1))) bh 0 0 0 0) else (impl_InsRead.j0 k a0 ba bj.1 true bh 0 0 0 0))) = some (r1, r2, r3, r4, r5, r6) := H; have A5 := Aside0.mk A50; clear A50; replace H := Option.bind_eq_some_iff.mp H; obtain ⟨⟨bi, b1⟩, A60, H⟩ := H; replace H : (if b1 = true then (impl_InsRead.j0 k a0 ba bi ((ba.length : Int) != (wrap64 ((bi.size : Int) + 1))) bh 0 0 0 0) else (impl_InsRead.j0 k a0 ba bi true bh 0 0 0 0)) = some (r1, r2, r3, r4, r5, r6) := H; have A6 := Aside0.mk A60; clear A60; have b2 := Aside0.mk H; clear H
  go_enter Tryz.func9, Tryz.ntmps9
  try go_wp2_with (first | ((with_reducible refine gate_dst (N := 2) rfl ?_); (try (refine gate_guard (by rfl) ?_; dsimp only)); refine bxe 2 #[.int .i64 0, .int .i64 0, .int .i64 0, .int .i64 0, .int .i64 0] 25 ?_; intro bv hg w8 hbox hb; have bc := hbox; have dM := nge HB hg; have dN := nge HB hg; replace HB := nbs HB hb; clear hb hbox hg) | ((with_reducible refine gate_callee (f := 31) rfl ?_); refine goesM (some 13) rfl rfl Tryz.func31 (by kernel_rfl) rfl #[.string a0, .string (⟨#[32]⟩ : ByteArray)] rfl ?_; (with_reducible refine (strings_Split.calls a0 (⟨#[32]⟩ : ByteArray) ba _ A2.out ?hT).mono ?_); (case hT => exact nT HT HB); rintro e w9 ⟨dO, rfl, bB, hb⟩; refine ⟨_, rfl, ?_⟩; have bd := Aside0.mk (Kd.R_lower bB (bsz HB)); replace bc := nblk bc hb; replace HB := nbs HB hb; (try clear hb); (try clear bB)))
  replace bd := Aside0.mk (Kd.R_drew bd.out); replace bc := Aside0.mk (blk_drew bc.out); replace HB := Aside0.mk (below_drew1 HB.out); obtain ⟨dP, bD, da⟩ := Kd.R_slice bd.out; (first | subst da | (injection da with f1_ f2_ f3_; have f4_ := f1_.symm; have f5_ := f3_.symm; clear f1_ f2_ f3_; subst f4_; subst f5_)); have p258 : 0 ≤ (0 : Int) := (by omega); have q258 : 0 < (ba.length : Int) := of_decide_eq_true (by first | (with_reducible assumption) | assumption); obtain ⟨bw, e258, bF⟩ := Kd.at_string (Kd.R_reads' bd.out).2.2 0 p258 q258
  cases e258
  have qi258 : (0 < ba.length) = True := eq_true (by omega); (try rw [show ((0 : Int)).toNat = 0 from rfl] at bF); (try rw [Addr.add_zero'] at bF); replace p258 := eq_true p258; replace q258 := eq_true q258; refine start_ (n := 8) (S := fun w' => w'.cell? bw = some (.string (rdOf ByteArray.empty ba 0))) (ds := []) #[false, false, false, false, false, false, false, false] (by kernel_rfl) rfl rfl (bF) (fun hHeld => ?_); refine with_tabW impl_InsRead.tab2 impl_InsRead.bits2 (fun HT_ HW_ => ?_); generalize w9.drew = dQ at bd bc HB bF hHeld ⊢; refine rP HT_.out 1 15 #[false, true, false, false, false, false, false, false] ?_; refine rP HT_.out 2 16 #[false, true, true, false, false, false, false, false] ?_; refine take_ (i := 3) (N := some 17) (v := ?_) (a' := ?_) #[false, true, true, true, false, false, false, false] rfl rfl (take_ofW HT_.out HW_.out (by kernel_rfl)) (fun _ _ _ h => h) (Or.inl ⟨by rfl, ?_⟩) hHeld ?_ ?_; rotate_left
  ·intro w' s0
   go_simp; (with_reducible rfl)
  rotate_left
  ·simp only [Act.put, List.setIfInBounds_toArray, List.set_cons_zero, List.set_cons_succ, i64_w, i32_w]
   rfl
  refine join_ (σ := Value × Nat) 1 #[true, true, true, true, true, true, true, false] (fun s_ => [(14, s_.1), (18, .int .i64 bh), (5, .pointer (some ⟨s_.2, 0, none⟩)), (19, .agg #[.int .i64 bh, .int .i64 0, .int .i64 0, .int .i64 0, .int .i64 0])]) (fun s_ w' => (w'.cell? bw = some (.string (rdOf ByteArray.empty ba 0))) ∧ (Kd.R Kd.string 9 w' w.heap.size (fun k_ => some k_ ≠ (s_.1 : Value).ownBlock) (.slice (some bw) ba.length bD) ba) ∧ (Kd.R Kd.string 9 w' w.heap.size (fun k_ => some k_ ≠ (.slice (some bw) ba.length bD : Value).ownBlock) s_.1 bl) ∧ (w'.heap[bv]? = some (.cells #[.int .i64 0, .int .i64 0, .int .i64 0, .int .i64 0, .int .i64 0] 25 (0, 0))) ∧ (w'.heap[s_.2]? = some (.cells #[.int .i64 0, .int .i64 0, .int .i64 0, .int .i64 0, .int .i64 0] 25 (0, 0))) ∧ (w.heap.size ≤ s_.2) ∧ (w.heap.size ≤ s_.2) ∧ (bv ≠ s_.2) ∧ (s_.2 ≠ bv) ∧ (Below w.heap.size w w')) ?_ ?_; rotate_left
  ·intro hCont
   refine two_ (i := 0) (j := 6) (Ni := some 14) (Nj := some 5) #[true, true, true, true, false, false, false, false] #[false, true, true, true, false, false, true, false] rfl rfl rfl rfl (two_of HT_.out (by kernel_rfl)) (by decide) (by decide) (fun K hK => ?_) (fun K hK => ?_)
   ·skip
    refine goesR Tryz.func21 (by kernel_rfl) rfl #[] (by rfl) rfl rfl ?_; (with_reducible refine (impl_opNames.calls  bl _ A3.out).mono ?_); rintro e du ⟨bY, rfl, bB, hb⟩; have HS0_ := (hb.cell (World.block_lt_of_cell? _ _ (hHeld))).trans (hHeld); refine ⟨_, rfl, ?_⟩; have bn := Aside0.mk (Kd.R_lower (Kd.R_new' bB (Kd.R_lt (nRo bd))) (bsz HB)); replace bd := Aside0.mk (Kd.R_elder' (nRo bd) (Kd.R_base bB) hb); replace bc := nblk bc hb; replace HB := nbs HB hb; (try clear hb); (try clear bB); obtain ⟨db, dc, dd⟩ := Kd.R_slice bn.out; (first | subst dd | (injection dd with f1_ f2_ f3_; have f4_ := f1_.symm; have f5_ := f3_.symm; clear f1_ f2_ f3_; subst f4_; subst f5_)); refine hK.out _ _ (HS0_) (fun hHeld => ?_); clear hK K; refine norm_ (a' := ?_) ?_ ?_; rotate_left
    ·show Act.put _ (some 14) _ = _
     simp only [Act.put, List.setIfInBounds_toArray, List.set_cons_zero, List.set_cons_succ, i64_w, i32_w]; rfl
    refine two_ (i := 4) (j := 6) (Ni := some 18) (Nj := some 5) #[true, true, true, true, true, false, false, false] #[true, true, true, true, false, false, true, false] rfl rfl rfl rfl (two_of HT_.out (by kernel_rfl)) (by decide) (by decide) (fun K hK => ?_) (fun K hK => ?_)
    ·skip
     refine goesR Tryz.func32 (by kernel_rfl) rfl #[.slice db bl.length dc, .string (rdOf ByteArray.empty ba 0)] (by rfl) rfl rfl ?_; (with_reducible refine (slices_Index_string_string.calls k _ _ bl (rdOf ByteArray.empty ba 0) bh _ ?side1 ?side2 A5.out).mono ?_); (case side1 => repeat (first | exact (Kd.R_reads' bn.out).2.2 | (with_reducible refine Kd.C_alloc ?_ _) | (with_reducible refine Kd.C_drewN ?_ _) | (with_reducible refine Kd.C_drew ?_))); (case side2 => exact (Kd.R_reads' bn.out).2.1); rintro e w' ⟨rfl, ⟨nd, rfl⟩⟩; refine ⟨_, rfl, ?_⟩; refine hK.out _ _ (hHeld) (fun hHeld => ?_); clear hK K; refine norm_ (a' := ?_) ?_ ?_; rotate_left
     ·show Act.put _ (some 18) _ = _
      simp only [Act.put, List.setIfInBounds_toArray, List.set_cons_zero, List.set_cons_succ, i64_w, i32_w]; rfl
     refine rP HT_.out 5 19 #[true, true, true, true, true, true, false, false] ?_; refine one_ (i := 6) (N := some 5) #[true, true, true, true, true, true, true, false] rfl rfl (one_of HT_.out (by kernel_rfl)) (by decide) (fun K hK => ?_); refine box_step ?hg (N := 5) ?hd (cs := #[.int .i64 0, .int .i64 0, .int .i64 0, .int .i64 0, .int .i64 0]) (t := 25) ?hr ?_; (case hd => rfl); (case hg => rfl); (case hr => first | (go_simp; done) | (go_simp; rfl)); intro bg hg dR hbox hb; have HS0_ := (hb.cell (World.block_lt_of_cell? _ _ (hHeld))).trans (hHeld); have bb := Aside0.mk hbox; have bG := nge HB hg; have bH := nge HB hg; have bu := nlt bc hg; have bx := ngt bc hg; replace bd := nR bd hb; replace bn := nR bn hb; replace bc := nblk bc hb; replace HB := nbs HB hb; clear hb hbox hg; refine hK.out _ _ (HS0_) (fun hHeld => ?_); clear hK K; refine norm_ (a' := ?_) ?_ ?_; rotate_left
     ·show Act.put _ (some 5) _ = _
      simp only [Act.put, List.setIfInBounds_toArray, List.set_cons_zero, List.set_cons_succ, i64_w, i32_w]; rfl
     exact norm_ (by simp only [putAll, Act.put, List.setIfInBounds_toArray, List.set_cons_zero, List.set_cons_succ]) (hCont (.slice db bl.length dc, bg) _ ⟨hHeld, (by (with_reducible repeat (first | apply Kd.R_alloc | apply Kd.R_drewN | apply Kd.R_drew)); exact Kd.R_mono bd.out (fun _ hk => hk.2)), (by (with_reducible repeat (first | apply Kd.R_alloc | apply Kd.R_drewN | apply Kd.R_drew)); exact Kd.R_mono bn.out (fun _ hk => hk.2)), (nb bc), (nb bb), bG.out, bH.out, bu.out, bx.out, (nbe HB)⟩)
    ·skip
     refine box_step ?hg (N := 5) ?hd (cs := #[.int .i64 0, .int .i64 0, .int .i64 0, .int .i64 0, .int .i64 0]) (t := 25) ?hr ?_; (case hd => rfl); (case hg => rfl); (case hr => first | (go_simp; done) | (go_simp; rfl)); intro bg hg dv hbox hb; have HS0_ := (hb.cell (World.block_lt_of_cell? _ _ (hHeld))).trans (hHeld); have bb := Aside0.mk hbox; have bG := nge HB hg; have bH := nge HB hg; have bu := nlt bc hg; have bx := ngt bc hg; replace bd := nR bd hb; replace bn := nR bn hb; replace bc := nblk bc hb; replace HB := nbs HB hb; clear hb hbox hg; obtain ⟨bP, bQ, bR⟩ := Kd.R_slice bn.out; (first | subst bR | (injection bR with f1_ f2_ f3_; have f4_ := f1_.symm; have f5_ := f3_.symm; clear f1_ f2_ f3_; subst f4_; subst f5_)); refine hK.out _ _ (HS0_) (fun hHeld => ?_); clear hK K; refine norm_ (a' := ?_) ?_ ?_; rotate_left
     ·show Act.put _ (some 5) _ = _
      simp only [Act.put, List.setIfInBounds_toArray, List.set_cons_zero, List.set_cons_succ, i64_w, i32_w]; rfl
     refine one_ (i := 4) (N := some 18) #[true, true, true, true, true, false, true, false] rfl rfl (one_of HT_.out (by kernel_rfl)) (by decide) (fun K hK => ?_); refine goesR Tryz.func32 (by kernel_rfl) rfl #[.slice bP bl.length bQ, .string (rdOf ByteArray.empty ba 0)] (by rfl) rfl rfl ?_; (with_reducible refine (slices_Index_string_string.calls k _ _ bl (rdOf ByteArray.empty ba 0) bh _ ?side1 ?side2 A5.out).mono ?_); (case side1 => repeat (first | exact (Kd.R_reads' bn.out).2.2 | (with_reducible refine Kd.C_alloc ?_ _) | (with_reducible refine Kd.C_drewN ?_ _) | (with_reducible refine Kd.C_drew ?_))); (case side2 => exact (Kd.R_reads' bn.out).2.1); rintro e w' ⟨rfl, ⟨nd, rfl⟩⟩; refine ⟨_, rfl, ?_⟩; refine hK.out _ _ (hHeld) (fun hHeld => ?_); clear hK K; refine norm_ (a' := ?_) ?_ ?_; rotate_left
     ·show Act.put _ (some 18) _ = _
      simp only [Act.put, List.setIfInBounds_toArray, List.set_cons_zero, List.set_cons_succ, i64_w, i32_w]; rfl
     refine rP HT_.out 5 19 #[true, true, true, true, true, true, true, false] ?_; exact norm_ (by simp only [putAll, Act.put, List.setIfInBounds_toArray, List.set_cons_zero, List.set_cons_succ]) (hCont (.slice bP bl.length bQ, bg) _ ⟨hHeld, (by (with_reducible repeat (first | apply Kd.R_alloc | apply Kd.R_drewN | apply Kd.R_drew)); exact Kd.R_mono bd.out (fun _ hk => hk.2)), (by (with_reducible repeat (first | apply Kd.R_alloc | apply Kd.R_drewN | apply Kd.R_drew)); exact Kd.R_mono bn.out (fun _ hk => hk.2)), (nb bc), (nb bb), bG.out, bH.out, bu.out, bx.out, (nbe HB)⟩)
   ·skip
    refine box_step ?hg (N := 5) ?hd (cs := #[.int .i64 0, .int .i64 0, .int .i64 0, .int .i64 0, .int .i64 0]) (t := 25) ?hr ?_; (case hd => rfl); (case hg => rfl); (case hr => first | (go_simp; done) | (go_simp; rfl)); intro bg hg du hbox hb; have HS0_ := (hb.cell (World.block_lt_of_cell? _ _ (hHeld))).trans (hHeld); have bb := Aside0.mk hbox; have bG := nge HB hg; have bH := nge HB hg; have bu := nlt bc hg; have bx := ngt bc hg; replace bd := nR bd hb; replace bc := nblk bc hb; replace HB := nbs HB hb; clear hb hbox hg; refine hK.out _ _ (HS0_) (fun hHeld => ?_); clear hK K; refine norm_ (a' := ?_) ?_ ?_; rotate_left
    ·show Act.put _ (some 5) _ = _
     simp only [Act.put, List.setIfInBounds_toArray, List.set_cons_zero, List.set_cons_succ, i64_w, i32_w]; rfl
    refine one_ (i := 0) (N := some 14) #[true, true, true, true, false, false, true, false] rfl rfl (one_of HT_.out (by kernel_rfl)) (by decide) (fun K hK => ?_); refine goesR Tryz.func21 (by kernel_rfl) rfl #[] (by rfl) rfl rfl ?_; (with_reducible refine (impl_opNames.calls  bl _ A3.out).mono ?_); rintro e dv ⟨bY, rfl, bB, hb⟩; have HS0_ := (hb.cell (World.block_lt_of_cell? _ _ (hHeld))).trans (hHeld); refine ⟨_, rfl, ?_⟩; have bn := Aside0.mk (Kd.R_lower (Kd.R_new' bB (Kd.R_lt (nRo bd))) (bsz HB)); replace bd := Aside0.mk (Kd.R_elder' (nRo bd) (Kd.R_base bB) hb); replace bc := nblk bc hb; replace bb := nblk bb hb; replace HB := nbs HB hb; (try clear hb); (try clear bB); obtain ⟨bP, bQ, bR⟩ := Kd.R_slice bn.out; (first | subst bR | (injection bR with f1_ f2_ f3_; have f4_ := f1_.symm; have f5_ := f3_.symm; clear f1_ f2_ f3_; subst f4_; subst f5_)); refine hK.out _ _ (HS0_) (fun hHeld => ?_); clear hK K; refine norm_ (a' := ?_) ?_ ?_; rotate_left
    ·show Act.put _ (some 14) _ = _
     simp only [Act.put, List.setIfInBounds_toArray, List.set_cons_zero, List.set_cons_succ, i64_w, i32_w]; rfl
    refine one_ (i := 4) (N := some 18) #[true, true, true, true, true, false, true, false] rfl rfl (one_of HT_.out (by kernel_rfl)) (by decide) (fun K hK => ?_); refine goesR Tryz.func32 (by kernel_rfl) rfl #[.slice bP bl.length bQ, .string (rdOf ByteArray.empty ba 0)] (by rfl) rfl rfl ?_; (with_reducible refine (slices_Index_string_string.calls k _ _ bl (rdOf ByteArray.empty ba 0) bh _ ?side1 ?side2 A5.out).mono ?_); (case side1 => repeat (first | exact (Kd.R_reads' bn.out).2.2 | (with_reducible refine Kd.C_alloc ?_ _) | (with_reducible refine Kd.C_drewN ?_ _) | (with_reducible refine Kd.C_drew ?_))); (case side2 => exact (Kd.R_reads' bn.out).2.1); rintro e w' ⟨rfl, ⟨nd, rfl⟩⟩; refine ⟨_, rfl, ?_⟩; refine hK.out _ _ (hHeld) (fun hHeld => ?_); clear hK K; refine norm_ (a' := ?_) ?_ ?_; rotate_left
    ·show Act.put _ (some 18) _ = _
     simp only [Act.put, List.setIfInBounds_toArray, List.set_cons_zero, List.set_cons_succ, i64_w, i32_w]; rfl
    refine rP HT_.out 5 19 #[true, true, true, true, true, true, true, false] ?_; exact norm_ (by simp only [putAll, Act.put, List.setIfInBounds_toArray, List.set_cons_zero, List.set_cons_succ]) (hCont (.slice bP bl.length bQ, bg) _ ⟨hHeld, (by (with_reducible repeat (first | apply Kd.R_alloc | apply Kd.R_drewN | apply Kd.R_drew)); exact Kd.R_mono bd.out (fun _ hk => hk.2)), (by (with_reducible repeat (first | apply Kd.R_alloc | apply Kd.R_drewN | apply Kd.R_drew)); exact Kd.R_mono bn.out (fun _ hk => hk.2)), (nb bc), (nb bb), bG.out, bH.out, bu.out, bx.out, (nbe HB)⟩)
  rintro ⟨bY, bg⟩ bz ⟨hS_, h0_, h1_, h2_, h3_, h4_, h5_, h6_, h7_, h8_⟩; have bn : Aside0 (Kd.R Kd.string 9 bz w.heap.size (fun k_ => some k_ ≠ (.slice (some bw) ba.length bD : Value).ownBlock) bY bl) := ⟨h1_⟩; have bb : Aside0 (bz.heap[bg]? = some (.cells #[.int .i64 0, .int .i64 0, .int .i64 0, .int .i64 0, .int .i64 0] 25 (0, 0))) := ⟨h3_⟩; have bG : Aside0 (w.heap.size ≤ bg) := ⟨h4_⟩; have bH : Aside0 (w.heap.size ≤ bg) := ⟨h5_⟩; have bu : Aside0 (bv ≠ bg) := ⟨h6_⟩; have bx : Aside0 (bg ≠ bv) := ⟨h7_⟩; replace bd : Aside0 (Kd.R Kd.string 9 bz w.heap.size (fun k_ => some k_ ≠ (bY : Value).ownBlock) (.slice (some bw) ba.length bD) ba) := ⟨h0_⟩; replace bc : Aside0 (bz.heap[bv]? = some (.cells #[.int .i64 0, .int .i64 0, .int .i64 0, .int .i64 0, .int .i64 0] 25 (0, 0))) := ⟨h2_⟩; replace HB : Aside0 (Below w.heap.size w bz) := ⟨h8_⟩; clear h0_ h1_ h2_ h3_ h4_ h5_ h6_ h7_ h8_; have hHeld : bz.cell? bw = some (.string (rdOf ByteArray.empty ba 0)) := hS_; refine norm_ (a' := ?_) ?_ ?_; rotate_left
  ·simp only [putAll, Act.put, List.setIfInBounds_toArray, List.set_cons_zero, List.set_cons_succ]
   rfl
  refine one_ (i := 7) (N := none) #[true, true, true, true, true, true, true, true] rfl rfl (one_of HT_.out (by kernel_rfl)) (by decide) (fun K hK => ?_); have hs16 : bz.cell? ⟨bg, 0, none⟩ = some (.int .i64 0) := (blk_cell bb.out 0).trans rfl; have hfs16 := blk_frozen bb.out 0; have hns16_0 := bu.out; have hms16_0 := bx.out; have hs17 : bz.cell? ⟨bg, 1, none⟩ = some (.int .i64 0) := (blk_cell bb.out 1).trans rfl; have hfs17 := blk_frozen bb.out 1; have hs18 : bz.cell? ⟨bg, 2, none⟩ = some (.int .i64 0) := (blk_cell bb.out 2).trans rfl; have hfs18 := blk_frozen bb.out 2; have hs19 : bz.cell? ⟨bg, 3, none⟩ = some (.int .i64 0) := (blk_cell bb.out 3).trans rfl; have hfs19 := blk_frozen bb.out 3; have hs20 : bz.cell? ⟨bg, 4, none⟩ = some (.int .i64 0) := (blk_cell bb.out 4).trans rfl; have hfs20 := blk_frozen bb.out 4; refine skip_ (w1 := ?_) ?hw ?hN ?hrun ?_; (case hw => rfl); (case hN => rfl); (case hrun => go_simp; rfl)
  refine hK.out _ _ (((cell_far (p := ⟨bg, _, none⟩) (by first | exact Kd.own_blk (Kd.R_ne bd.out bb.out (by decide)) | (rw [add_block]; exact Kd.own_blk (Kd.R_ne bd.out bb.out (by decide))) | (show (Addr.add _ _).block ≠ _; rw [add_block]; exact Kd.own_blk (Kd.R_ne bd.out bb.out (by decide))) | (dsimp only; exact Kd.own_blk (Kd.R_ne bd.out bb.out (by decide)))) _).trans (((cell_far (p := ⟨bg, _, none⟩) (by first | exact Kd.own_blk (Kd.R_ne bd.out bb.out (by decide)) | (rw [add_block]; exact Kd.own_blk (Kd.R_ne bd.out bb.out (by decide))) | (show (Addr.add _ _).block ≠ _; rw [add_block]; exact Kd.own_blk (Kd.R_ne bd.out bb.out (by decide))) | (dsimp only; exact Kd.own_blk (Kd.R_ne bd.out bb.out (by decide)))) _).trans (((cell_far (p := ⟨bg, _, none⟩) (by first | exact Kd.own_blk (Kd.R_ne bd.out bb.out (by decide)) | (rw [add_block]; exact Kd.own_blk (Kd.R_ne bd.out bb.out (by decide))) | (show (Addr.add _ _).block ≠ _; rw [add_block]; exact Kd.own_blk (Kd.R_ne bd.out bb.out (by decide))) | (dsimp only; exact Kd.own_blk (Kd.R_ne bd.out bb.out (by decide)))) _).trans (((cell_far (p := ⟨bg, _, none⟩) (by first | exact Kd.own_blk (Kd.R_ne bd.out bb.out (by decide)) | (rw [add_block]; exact Kd.own_blk (Kd.R_ne bd.out bb.out (by decide))) | (show (Addr.add _ _).block ≠ _; rw [add_block]; exact Kd.own_blk (Kd.R_ne bd.out bb.out (by decide))) | (dsimp only; exact Kd.own_blk (Kd.R_ne bd.out bb.out (by decide)))) _).trans (((cell_far (p := ⟨bg, _, none⟩) (by first | exact Kd.own_blk (Kd.R_ne bd.out bb.out (by decide)) | (rw [add_block]; exact Kd.own_blk (Kd.R_ne bd.out bb.out (by decide))) | (show (Addr.add _ _).block ≠ _; rw [add_block]; exact Kd.own_blk (Kd.R_ne bd.out bb.out (by decide))) | (dsimp only; exact Kd.own_blk (Kd.R_ne bd.out bb.out (by decide)))) _).trans (hHeld))))))))))) (fun hHeld => ?_); clear hK K; refine done_ (done_of HT_.out (by kernel_rfl)) ?_; have dS := bx.out; have dT := bu.out; obtain ⟨de, df, dg, dh, di⟩ := c5e bb; obtain ⟨dj, dk, dl, dm, dn⟩ := z5_ bb
  go_upto_region 4 with (first | ((with_reducible refine gate_callee (f := 22) rfl ?_); refine goesM (some 23) rfl rfl Tryz.func22 (by kernel_rfl) rfl #[.int .i64 bh] rfl ?_; (with_reducible refine (impl_formOf.calls k bh bi b1 _ A6.out).mono ?_); rintro e w' ⟨rfl, ⟨nd, rfl⟩⟩; refine ⟨_, rfl, ?_⟩))
  (try simp only [Act.put, List.setIfInBounds_toArray, List.set_cons_zero, List.set_cons_succ])
  go_cut [35] (fun dw wc => ∃ (kq : Nat) (bZ : Bool), dw = .bool bZ ∧ Aside0 (impl_InsRead.j0 kq a0 ba bi bZ bh 0 0 0 0 = some (r1, r2, r3, r4, r5, r6)) ∧ Aside0 (kq ≤ k) ∧ Aside0 (Kd.R Kd.string 9 wc w.heap.size (fun _ => True) (.slice (some bw) ba.length bD) ba) ∧ Aside0 (wc.heap[bv]? = some (.cells #[.int .i64 0, .int .i64 0, .int .i64 0, .int .i64 0, .int .i64 0] 25 (0, 0))) ∧ Aside0 (wc.heap[bg]? = some (.cells #[.int .i64 bh, .int .i64 0, .int .i64 0, .int .i64 0, .int .i64 0] 25 (0, 0))) ∧ Aside0 (Below w.heap.size w wc))
  case first =>
   have H := b2.out; clear b2
   by_cases c23 : b1 = true
   ·subst c23
    have H1 : (impl_InsRead.j0 k a0 ba bi ((ba.length : Int) != (wrap64 ((bi.size : Int) + 1))) bh 0 0 0 0) = some (r1, r2, r3, r4, r5, r6) := by rw [if_pos rfl] at H; exact H
    clear H; have H := H1; clear H1; have H' := Aside0.mk H; clear H; go_wp2
    go_meet
    case rel => exact ⟨_, (((ba.length : Int) != (wrap64 ((bi.size : Int) + 1)))), (by first | rfl | (simp; done) | (simp [*]; done)), H', ⟨by first | omega | exact Nat.le_refl _⟩, ⟨by (with_reducible repeat (first | apply Kd.R_alloc | apply Kd.R_drewN | apply Kd.R_drew)); exact Kd.R_mono (eR5_ (Kd.R_types bd.out bb.out (by decide))) (fun _ hk => trivial)⟩, ⟨k5_ bu.out (nb bc)⟩, ⟨q5 bb⟩, ⟨nbe HB⟩⟩
   ·replace c23 := Bool.eq_false_iff.mpr c23
    subst c23; have H1 : (impl_InsRead.j0 k a0 ba bi true bh 0 0 0 0) = some (r1, r2, r3, r4, r5, r6) := by rw [if_neg (show ¬ (false = true) by decide)] at H; exact H
    clear H; have H := H1; clear H1; have H' := Aside0.mk H; clear H; go_wp2
    go_meet
    case rel => exact ⟨_, (true), (by first | rfl | (simp; done) | (simp [*]; done)), H', ⟨by first | omega | exact Nat.le_refl _⟩, ⟨by (with_reducible repeat (first | apply Kd.R_alloc | apply Kd.R_drewN | apply Kd.R_drew)); exact Kd.R_mono (eR5_ (Kd.R_types bd.out bb.out (by decide))) (fun _ hk => trivial)⟩, ⟨k5_ bu.out (nb bc)⟩, ⟨q5 bb⟩, ⟨nbe HB⟩⟩
  case rest =>
   clear b2; try clear c2
   try clear p2
   try clear q2
   try clear dx
   try clear qi2
   try clear c3
   try clear c4
   try clear c4b0
   try clear c4b1
   try clear p6
   try clear c9
   try clear c21
   try clear c22
   try clear c23
   try clear de
   try clear df
   try clear dg
   try clear dh
   try clear di
   try clear dj
   try clear dk
   try clear dl
   try clear dm
   try clear dn
   try clear bF
   try clear p258
   try clear q258
   obtain ⟨kq, bZ, rfl, HA, dp, dy, bc, bb, HB⟩ := hcut
   cases kq with
   | zero => exact absurd HA.out (by simp [impl_InsRead.j0])
   | succ kj6 =>
    have H := HA.out; clear HA; simp only [impl_InsRead.j0] at H
    by_cases c24 : bZ = true
    ·subst c24
     have H1 : (some (0, 0, 0, 0, 0, false)) = some (r1, r2, r3, r4, r5, r6) := by rw [if_pos rfl] at H; exact H
     clear H; have H := H1; clear H1; simp only [Option.some.injEq, Prod.mk.injEq] at H; obtain ⟨rfl, rfl, rfl, rfl, rfl, rfl⟩ := H; have dU := bu.out; have dV := bx.out; obtain ⟨dz, dA, dB, dC, dD⟩ := c5e bc; obtain ⟨dE, dF, dG, dH, dI⟩ := z5_ bc; go_wp2; refine bodyPost_ret (results_ct rfl _ _ bv 25 #[.int .i64 0, .int .i64 0, .int .i64 0, .int .i64 0, .int .i64 0] (0, 0) _ rfl (q5 bc) Tryz.underlying25 rfl (by kernel_rfl)) rfl ?_; exact ⟨er_, nbe HB⟩
    ·replace c24 := Bool.eq_false_iff.mpr c24
     subst c24; have H1 : (impl_InsRead.l0 kj6 a0 bi (ba.drop 1) ((ba.drop 1).length : Int) 0 bh 0 0 0 0) = some (r1, r2, r3, r4, r5, r6) := by rw [if_neg (show ¬ (false = true) by decide)] at H; exact H
     clear H; have H := H1; clear H1; have H' := Aside0.mk H; clear H; obtain ⟨i0z_, hi0z_, _, hszz_, _⟩ := info_parts info9; obtain ⟨Az_, hcutz_, hAz_, hCz_⟩ := print_drop_of (P := Tryz.prog) Value.string ByteArray.empty 39 9 .i64 Tryz.underlying39 hi0z_ hszz_ (some bw) bD ba 1 (by omega) (by have := HL1_.out; omega) (Kd.R_reads' dy.out).2.1; replace hcutz_ : ∀ W : World, (Instr.slice 39 (.slice (some bw) ba.length bD) (some (.int .i64 1)) none none).run Tryz.prog W = .ok (.slice Az_ (ba.drop 1).length (bD - 1)) W := hcutz_; replace hAz_ : ∀ w : World, ReadsOf Value.string ByteArray.empty w (some bw) ba.length ba → ReadsOf Value.string ByteArray.empty w Az_ (ba.drop 1).length (ba.drop 1) := hAz_; clear hCz_; generalize ba.drop 1 = ws_ at hcutz_ hAz_ H'; go_wp2
     go_loopg [40] kj6 (fun kq dJ w' => ∃ (bf : Int) (bS : Int) (bT : Int) (bU : Int) (bV : Int) (bW : Int) (bo : Int) (bp : Int) (bq : Int) (br : Int) (bs : Int), dJ = .int .i64 bf ∧ Aside0 (impl_InsRead.l0 kq a0 bi ws_ (ws_.length : Int) bf bo bp bq br bs = some (r1, r2, r3, r4, r5, r6)) ∧ Aside0 (kq ≤ kj6) ∧ Aside0 (Kd.R Kd.string 9 w' w.heap.size (fun _ => True) (.slice (some bw) ba.length bD) ba) ∧ Aside0 (w'.heap[bv]? = some (.cells #[.int .i64 bS, .int .i64 bT, .int .i64 bU, .int .i64 bV, .int .i64 bW] 25 (0, 0))) ∧ Aside0 (w'.heap[bg]? = some (.cells #[.int .i64 bo, .int .i64 bp, .int .i64 bq, .int .i64 br, .int .i64 bs] 25 (0, 0))) ∧ Aside0 (Below w.heap.size w w'))
     case atStart => exact ⟨(0), (0), (0), (0), (0), (0), (bh), (0), (0), (0), (0), (by first | rfl | (simp; done) | (simp [*]; done)), H', ⟨Nat.le_refl _⟩, ⟨by (with_reducible repeat (first | apply Kd.R_alloc | apply Kd.R_drewN | apply Kd.R_drew)); exact dy.out⟩, ⟨nb bc⟩, ⟨nb bb⟩, ⟨nbe HB⟩⟩
     case round =>
      clear H'; try clear c2
      try clear p2
      try clear q2
      try clear dx
      try clear qi2
      try clear c3
      try clear c4
      try clear c4b0
      try clear c4b1
      try clear p6
      try clear c9
      try clear c21
      try clear c22
      try clear c23
      try clear c24
      try clear c25
      try clear p25
      try clear q25
      try clear dW
      try clear qi25
      try clear de
      try clear df
      try clear dg
      try clear dh
      try clear di
      try clear dz
      try clear dA
      try clear dB
      try clear dC
      try clear dD
      try clear dj
      try clear dk
      try clear dl
      try clear dm
      try clear dn
      try clear dE
      try clear dF
      try clear dG
      try clear dH
      try clear dI
      try clear bF
      try clear p2
      try clear p258
      try clear p6
      try clear q2
      try clear q258
      obtain ⟨bf, bS, bT, bU, bV, bW, bo, bp, bq, br, bs, rfl, HA, dq, bm, bc, bb, HB⟩ := hrel
      cases gk with
      | zero => exact absurd HA.out (by simp [impl_InsRead.l0])
      | succ k2 =>
       have H := HA.out; clear HA; simp only [impl_InsRead.l0] at H
       by_cases c27 : bf < (ws_.length : Int)
       ·rw [if_pos c27] at H
        have c27b0 : decide (bf < (ws_.length : Int)) = true := decide_eq_true c27; clear c27
        by_cases c28 : 0 ≤ bf
        ·rw [if_pos c28] at H
         have c28b0 : decide (0 ≤ bf) = true := decide_eq_true c28; clear c28
         by_cases c29 : bf < (ws_.length : Int)
         ·rw [if_pos c29] at H
          have c29b0 : decide (bf < (ws_.length : Int)) = true := decide_eq_true c29; clear c29; replace H := Option.bind_eq_some_iff.mp H; obtain ⟨bC, A300, H⟩ := H; replace H : ((strconv_Atoi.f bC).bind fun bO => (if bO.2 = true then (if bf < (bi.size : Int) then ((impl_withPart.f bo bp bq br bs (bt bi bf) bO.1).bind fun bk => (impl_InsRead.l0 k2 a0 bi ws_ (ws_.length : Int) (wrap64 (bf + 1)) bk.1 bk.2.1 bk.2.2.1 bk.2.2.2.1 bk.2.2.2.2)) else (none)) else (some (0, 0, 0, 0, 0, false)))) = some (r1, r2, r3, r4, r5, r6) := H; have A30 := Aside0.mk A300; clear A300; replace H := Option.bind_eq_some_iff.mp H; obtain ⟨⟨bI, dr⟩, A310, H⟩ := H; replace H : (if dr = true then (if bf < (bi.size : Int) then ((impl_withPart.f bo bp bq br bs (bt bi bf) bI).bind fun bk => (impl_InsRead.l0 k2 a0 bi ws_ (ws_.length : Int) (wrap64 (bf + 1)) bk.1 bk.2.1 bk.2.2.1 bk.2.2.2.1 bk.2.2.2.2)) else (none)) else (some (0, 0, 0, 0, 0, false))) = some (r1, r2, r3, r4, r5, r6) := H; have A31 := Aside0.mk A310; clear A310
          by_cases c32 : dr = true
          ·subst c32
           have H1 : (if bf < (bi.size : Int) then ((impl_withPart.f bo bp bq br bs (bt bi bf) bI).bind fun bk => (impl_InsRead.l0 k2 a0 bi ws_ (ws_.length : Int) (wrap64 (bf + 1)) bk.1 bk.2.1 bk.2.2.1 bk.2.2.2.1 bk.2.2.2.2)) else (none)) = some (r1, r2, r3, r4, r5, r6) := by rw [if_pos rfl] at H; exact H
           clear H; have H := H1; clear H1
           by_cases c33 : bf < (bi.size : Int)
           ·rw [if_pos c33] at H
            have c33b0 : decide (bf < (bi.size : Int)) = true := decide_eq_true c33; clear c33; replace H := Option.bind_eq_some_iff.mp H; obtain ⟨⟨b3, b4, b5, b6, b7⟩, A350, H⟩ := H; replace H : (impl_InsRead.l0 k2 a0 bi ws_ (ws_.length : Int) (wrap64 (bf + 1)) b3 b4 b5 b6 b7) = some (r1, r2, r3, r4, r5, r6) := H; have A35 := Aside0.mk A350; clear A350; have H' := Aside0.mk H; clear H; have p264 : 0 ≤ (bf : Int) := of_decide_eq_true (by first | (with_reducible assumption) | assumption); have q264 : bf < (ws_.length : Int) := of_decide_eq_true (by first | (with_reducible assumption) | assumption); obtain ⟨b8, e264, dK⟩ := Kd.at_string (Kd.C_of_reads (d := ByteArray.empty) (h1 := fun _ => rfl) (hAz_ _ (Kd.reads_of_C (d := ByteArray.empty) (Kd.R_reads' bm.out).2.2))) bf p264 q264; subst e264; replace p264 := eq_true p264; replace q264 := eq_true q264
            try go_wp2_with (first | ((with_reducible refine gate_callee (f := 34) rfl ?_); refine goesM (some 47) rfl rfl Tryz.func34 (by kernel_rfl) rfl #[.string (rdOf ByteArray.empty ws_ bf), .string (⟨#[114]⟩ : ByteArray)] rfl ?_; (with_reducible refine (strings_TrimPrefix.calls (rdOf ByteArray.empty ws_ bf) (⟨#[114]⟩ : ByteArray) bC _ A30.out).mono ?_); rintro e w' ⟨rfl, ⟨nd, rfl⟩⟩; refine ⟨_, rfl, ?_⟩; (try (rw [drewN_self wr]; generalize hq_ : World.drewN wr _ = wr; replace bm : Aside0 (Kd.R Kd.string 9 wr w.heap.size (fun _ => True) (.slice (some bw) ba.length bD) ba) := ⟨by rw [← hq_]; exact (nRo bm)⟩; replace bc : Aside0 (wr.heap[bv]? = some (.cells #[.int .i64 bS, .int .i64 bT, .int .i64 bU, .int .i64 bV, .int .i64 bW] 25 (0, 0))) := ⟨by rw [← hq_]; exact (nb bc)⟩; replace bb : Aside0 (wr.heap[bg]? = some (.cells #[.int .i64 bo, .int .i64 bp, .int .i64 bq, .int .i64 br, .int .i64 bs] 25 (0, 0))) := ⟨by rw [← hq_]; exact (nb bb)⟩; replace HB : Aside0 (Below w.heap.size w wr) := ⟨by rw [← hq_]; exact (nbe HB)⟩; clear hq_))) | ((with_reducible refine gate_callee (f := 33) rfl ?_); refine goesM (some 48) rfl rfl Tryz.func33 (by kernel_rfl) rfl #[.string bC] rfl ?_; (with_reducible refine (strconv_Atoi.calls bC bI true _ A31.out ?hT).mono ?_); (case hT => exact nT HT HB); rintro e dL ⟨ev_, rfl, hev_, _, hb⟩; obtain rfl := hev_ rfl; refine ⟨_, rfl, ?_⟩; replace bm := nR bm hb; replace bc := nblk bc hb; replace bb := nblk bb hb; replace HB := nbs HB hb; (try clear hb)))
            replace bm := Aside0.mk (Kd.R_drew bm.out); replace bc := Aside0.mk (blk_drew bc.out); replace bb := Aside0.mk (blk_drew bb.out); replace HB := Aside0.mk (below_drew1 HB.out); have p34 : 0 ≤ (bf : Int) := of_decide_eq_true (by first | (with_reducible assumption) | assumption); have q34 : bf < (bi.size : Int) := of_decide_eq_true (by first | (with_reducible assumption) | assumption); have dX := bt_at bi bf; replace p34 := eq_true p34; replace q34 := eq_true q34; refine start_ (n := 7) (S := fun w' => w'.cell? ⟨bg, 0, none⟩ = some (.int .i64 bo) ∧ w'.cell? ⟨bg, 1, none⟩ = some (.int .i64 bp) ∧ w'.cell? ⟨bg, 2, none⟩ = some (.int .i64 bq) ∧ w'.cell? ⟨bg, 3, none⟩ = some (.int .i64 br) ∧ w'.cell? ⟨bg, 4, none⟩ = some (.int .i64 bs)) (ds := [6]) #[false, false, false, false, false, false, false] (by kernel_rfl) rfl rfl (c5e bb) (fun hHeld => ?_); generalize dL.drew = dY at bm bc bb HB hHeld ⊢; refine rPk 1 55 #[false, true, false, false, false, false, false] ?_; refine rPk 2 56 #[false, true, true, false, false, false, false] ?_; refine rPk 4 58 #[false, true, true, false, true, false, false] ?_; refine rTk hHeld 0 54 #[true, true, true, false, true, false, false] ?_; refine rTk hHeld 3 57 #[true, true, true, true, true, false, false] ?_; refine one_ (i := 5) (N := some 59) #[true, true, true, true, true, true, false] rfl rfl (by kernel_rfl) (by decide) (fun K hK => ?_); refine goesR Tryz.func35 (by kernel_rfl) rfl #[.agg #[.int .i64 bo, .int .i64 bp, .int .i64 bq, .int .i64 br, .int .i64 bs], .int .u8 (bt bi bf), .int .i64 bI] (by rfl) rfl rfl ?_; (with_reducible refine (impl_withPart.calls bo bp bq br bs (bt bi bf) bI b3 b4 b5 b6 b7 _ A35.out).mono ?_); rintro e bX ⟨rfl, hb⟩; refine ⟨_, rfl, ?_⟩; replace bm := nR bm hb; replace bc := nblk bc hb; replace bb := nblk bb hb; replace HB := nbs HB hb; (try clear hb); refine hK.out _ _ (c5e bb) (fun hHeld => ?_); clear hK K; refine norm_ (a' := ?_) ?_ ?_; rotate_left
            ·show Act.put _ (some 59) _ = _
             simp only [Act.put, List.setIfInBounds_toArray, List.set_cons_zero, List.set_cons_succ, i64_w, i32_w]; rfl
            refine last_ (i := 6) (N := none) #[true, true, true, true, true, true, true] rfl rfl (by kernel_rfl) (by decide) (fun K hK => ?_); have hs39 : bX.cell? ⟨bg, 0, none⟩ = some (.int .i64 bo) := (blk_cell bb.out 0).trans rfl; have hfs39 := blk_frozen bb.out 0; have hns39_0 := bu.out; have hms39_0 := bx.out; have hs40 : bX.cell? ⟨bg, 1, none⟩ = some (.int .i64 bp) := (blk_cell bb.out 1).trans rfl; have hfs40 := blk_frozen bb.out 1; have hs41 : bX.cell? ⟨bg, 2, none⟩ = some (.int .i64 bq) := (blk_cell bb.out 2).trans rfl; have hfs41 := blk_frozen bb.out 2; have hs42 : bX.cell? ⟨bg, 3, none⟩ = some (.int .i64 br) := (blk_cell bb.out 3).trans rfl; have hfs42 := blk_frozen bb.out 3; have hs43 : bX.cell? ⟨bg, 4, none⟩ = some (.int .i64 bs) := (blk_cell bb.out 4).trans rfl; have hfs43 := blk_frozen bb.out 4; refine skip_ (w1 := ?_) ?hw ?hN ?hrun ?_; (case hw => rfl); (case hN => rfl); (case hrun => go_simp; rfl)
            refine hK.out _ _ ?_; clear hK K; refine done_ (by kernel_rfl) ?_
            try go_wp2
            go_roundg k2
            case measure => have := dp.out; have := dq.out; omega
            case rel => exact ⟨(wrap64 (bf + 1)), (bS), (bT), (bU), (bV), (bW), (b3), (b4), (b5), (b6), (b7), (by first | rfl | (simp; done) | (simp [*]; done)), H', ⟨by have := dp.out; have := dq.out; omega⟩, ⟨by (with_reducible repeat (first | apply Kd.R_alloc | apply Kd.R_drewN | apply Kd.R_drew)); exact Kd.R_mono (eR5_ (Kd.R_types bm.out bb.out (by decide))) (fun _ hk => trivial)⟩, ⟨k5_ bu.out (nb bc)⟩, ⟨q5 bb⟩, ⟨nbe HB⟩⟩
           ·rw [if_neg c33] at H
            exact absurd H (by simp)
          ·replace c32 := Bool.eq_false_iff.mpr c32
           subst c32; have H1 : (some (0, 0, 0, 0, 0, false)) = some (r1, r2, r3, r4, r5, r6) := by rw [if_neg (show ¬ (false = true) by decide)] at H; exact H
           clear H; have H := H1; clear H1; simp only [Option.some.injEq, Prod.mk.injEq] at H; obtain ⟨rfl, rfl, rfl, rfl, rfl, rfl⟩ := H; have p264 : 0 ≤ (bf : Int) := of_decide_eq_true (by first | (with_reducible assumption) | assumption); have q264 : bf < (ws_.length : Int) := of_decide_eq_true (by first | (with_reducible assumption) | assumption); obtain ⟨b8, e264, dK⟩ := Kd.at_string (Kd.C_of_reads (d := ByteArray.empty) (h1 := fun _ => rfl) (hAz_ _ (Kd.reads_of_C (d := ByteArray.empty) (Kd.R_reads' bm.out).2.2))) bf p264 q264; subst e264; replace p264 := eq_true p264; replace q264 := eq_true q264
           go_wp2_with (first | ((with_reducible refine gate_callee (f := 34) rfl ?_); refine goesM (some 47) rfl rfl Tryz.func34 (by kernel_rfl) rfl #[.string (rdOf ByteArray.empty ws_ bf), .string (⟨#[114]⟩ : ByteArray)] rfl ?_; (with_reducible refine (strings_TrimPrefix.calls (rdOf ByteArray.empty ws_ bf) (⟨#[114]⟩ : ByteArray) bC _ A30.out).mono ?_); rintro e w' ⟨rfl, ⟨nd, rfl⟩⟩; refine ⟨_, rfl, ?_⟩; (try (rw [drewN_self wr]; generalize hq_ : World.drewN wr _ = wr; replace bm : Aside0 (Kd.R Kd.string 9 wr w.heap.size (fun _ => True) (.slice (some bw) ba.length bD) ba) := ⟨by rw [← hq_]; exact (nRo bm)⟩; replace bc : Aside0 (wr.heap[bv]? = some (.cells #[.int .i64 bS, .int .i64 bT, .int .i64 bU, .int .i64 bV, .int .i64 bW] 25 (0, 0))) := ⟨by rw [← hq_]; exact (nb bc)⟩; replace bb : Aside0 (wr.heap[bg]? = some (.cells #[.int .i64 bo, .int .i64 bp, .int .i64 bq, .int .i64 br, .int .i64 bs] 25 (0, 0))) := ⟨by rw [← hq_]; exact (nb bb)⟩; replace HB : Aside0 (Below w.heap.size w wr) := ⟨by rw [← hq_]; exact (nbe HB)⟩; clear hq_))) | ((with_reducible refine gate_callee (f := 33) rfl ?_); refine goesM (some 48) rfl rfl Tryz.func33 (by kernel_rfl) rfl #[.string bC] rfl ?_; (with_reducible refine (strconv_Atoi.calls bC bI false _ A31.out ?hT).mono ?_); (case hT => exact nT HT HB); rintro e dZ ⟨ev_, rfl, _, hev_, hb⟩; obtain ⟨te_, be_, rfl⟩ := hev_ rfl; refine ⟨_, rfl, ?_⟩; replace bm := nR bm hb; replace bc := nblk bc hb; replace bb := nblk bb hb; replace HB := nbs HB hb; (try clear hb); have d0 := bu.out; have d1 := bx.out; obtain ⟨d2, d3, d4, d5, d6⟩ := c5e bc; obtain ⟨d7, d8, d9, ea, eb⟩ := z5_ bc))
           refine bodyPost_ret (results_ct rfl _ _ bv 25 #[.int .i64 0, .int .i64 0, .int .i64 0, .int .i64 0, .int .i64 0] (0, 0) _ rfl (q5 bc) Tryz.underlying25 rfl (by kernel_rfl)) rfl ?_; exact ⟨er_, nbe HB⟩
         ·rw [if_neg c29] at H
          exact absurd H (by simp)
        ·rw [if_neg c28] at H
         exact absurd H (by simp)
       ·rw [if_neg c27] at H
        have c27b0 : decide (bf < (ws_.length : Int)) = false := decide_eq_false c27; clear c27; replace H := Option.bind_eq_some_iff.mp H; obtain ⟨bA, A470, H⟩ := H; replace H : (if bA.toList = a0.toList then (some (bo, bp, bq, br, bs, true)) else (some (0, 0, 0, 0, 0, false))) = some (r1, r2, r3, r4, r5, r6) := H; have A47 := Aside0.mk A470; clear A470
        by_cases c48 : bA.toList = a0.toList
        ·rw [if_pos c48] at H
         have c48b0 : (bA.toList == a0.toList) = true := beq_iff_eq.mpr c48; have c48b1 : (bA.toList != a0.toList) = false := bne_eq_false_iff_eq.mpr c48; clear c48; simp only [Option.some.injEq, Prod.mk.injEq] at H; obtain ⟨rfl, rfl, rfl, rfl, rfl, rfl⟩ := H; have ec := bx.out; have ed := bu.out; obtain ⟨ee, ef, eg, eh, ei⟩ := c5e bb; obtain ⟨ej, ek, el, em, en⟩ := z5_ bb
         go_wp2_with (first | ((with_reducible refine gate_callee (f := 6) rfl ?_); refine goesM (some 62) rfl rfl Tryz.func6 (by kernel_rfl) rfl #[.agg #[.int .i64 bo, .int .i64 bp, .int .i64 bq, .int .i64 br, .int .i64 bs]] rfl ?_; (with_reducible refine (impl_InsText.calls k2 bo bp bq br bs bA _ A47.out ?hT).mono ?_); (case hT => exact nT HT HB); rintro e eo ⟨rfl, hb⟩; refine ⟨_, rfl, ?_⟩; replace bm := nR bm hb; replace bc := nblk bc hb; replace bb := nblk bb hb; replace HB := nbs HB hb; (try clear hb); obtain ⟨ep, er, es, et, eu⟩ := c5e bb; obtain ⟨ev, ew, ex, ey, ez⟩ := z5_ bb; obtain ⟨eA, eB, eC, eD, eE⟩ := c5e bc; obtain ⟨eF, eG, eH, eI, eJ⟩ := z5_ bc))
         refine bodyPost_ret (results_ct rfl _ _ bv 25 #[.int .i64 bo, .int .i64 bp, .int .i64 bq, .int .i64 br, .int .i64 bs] (0, 0) _ rfl (q5 bc) Tryz.underlying25 rfl (by kernel_rfl)) rfl ?_; exact ⟨er_, nbe HB⟩
        ·rw [if_neg c48] at H
         have c48b0 : (bA.toList == a0.toList) = false := beq_eq_false_iff_ne.mpr c48; have c48b1 : (bA.toList != a0.toList) = true := bne_iff_ne.mpr c48; simp only [Option.some.injEq, Prod.mk.injEq] at H; obtain ⟨rfl, rfl, rfl, rfl, rfl, rfl⟩ := H; have eK := bx.out; have eL := bu.out; obtain ⟨eM, eN, eO, eP, eQ⟩ := c5e bb; obtain ⟨eR, eS, eT, eU, eV⟩ := z5_ bb
         go_wp2_with (first | ((with_reducible refine gate_callee (f := 6) rfl ?_); refine goesM (some 62) rfl rfl Tryz.func6 (by kernel_rfl) rfl #[.agg #[.int .i64 bo, .int .i64 bp, .int .i64 bq, .int .i64 br, .int .i64 bs]] rfl ?_; (with_reducible refine (impl_InsText.calls k2 bo bp bq br bs bA _ A47.out ?hT).mono ?_); (case hT => exact nT HT HB); rintro e eW ⟨rfl, hb⟩; refine ⟨_, rfl, ?_⟩; replace bm := nR bm hb; replace bc := nblk bc hb; replace bb := nblk bb hb; replace HB := nbs HB hb; (try clear hb); obtain ⟨eX, eY, eZ, e0, e1⟩ := c5e bc; obtain ⟨e2, e3, e4, e5, e6⟩ := z5_ bc))
         refine bodyPost_ret (results_ct rfl _ _ bv 25 #[.int .i64 0, .int .i64 0, .int .i64 0, .int .i64 0, .int .i64 0] (0, 0) _ rfl (q5 bc) Tryz.underlying25 rfl (by kernel_rfl)) rfl ?_; exact ⟨er_, nbe HB⟩
 ·rw [if_neg c4] at H
  exact absurd H (by simp)

end Go.Proofs.YtlmcikjjeidnfaaGreatDoor.PFnTexts
