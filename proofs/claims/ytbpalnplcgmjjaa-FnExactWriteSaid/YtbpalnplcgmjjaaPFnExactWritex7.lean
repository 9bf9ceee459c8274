-- Written by a program of this session (wip/patch.py turns a copy of the kit's print): the functions that the law reaches, and their walks.
import Derived.Test.YtbpalnplcgmjjaaPFnExactWritex0
import Derived.Test.YtbpalnplcgmjjaaPFnExactWritex6
import Derived.Test.YtbpalnplcgmjjaaCFnExactWrite
namespace Go.Proofs.Ytbpalnplcgmjjaa.PFnExactWrite
open Go.RowKit Go.Proofs.YtbpalnplcgmjjaaW.PrintWords Go.Proofs.YtbpalnplcgmjjaaW.PrintLast Go.Proofs.YtbpalnplcgmjjaaW.PrintMore Go.Proofs.YtbpalnplcgmjjaaW.Mine
attribute [local go_sem] max2_int min2_int max_two min_two max_three min_three max_four min_four   -- for this text's walks alone
set_option linter.unusedVariables false
set_option linter.unusedSimpArgs false

/-! ### impl_Write: function 8 -/
def impl_Write.f (k : Nat) (l0_0 : List (S39)) (l0_1 : List Bool) (a1_0 : Int) (a1_1 : Bool) (a1_2 : Int) (a1_3 : Int) (a1_4 : Int) (a1_5 : Int) (a2 : Int) (a3_0 : Int) (a3_1 : Bool) (a3_2 : Int) (a3_3 : Int) (a3_4 : Int) (a3_5 : Int) : Option ((List (S39)) × List Bool × Int) := (impl_writeCode.f k l0_0 l0_1 a1_0 a1_1 a1_2 a1_3 a1_4 a1_5 a2 a3_0 a3_1 a3_2 a3_3 a3_4 a3_5).bind fun bg => ((impl_MemoryOk.f k l0_0 l0_1).bind fun b5 => (if b5 = true then ((impl_cloneMemory.f l0_0 l0_1).bind fun bk => (if bg = 0 then (if 0 ≤ a2 then (if a2 < (bk.1.length : Int) then (some ((bk.1.set (a2 : Int).toNat (⟨a3_0, a3_1, (⟨a3_2, a3_3, a3_4, a3_5⟩ : S37)⟩ : S39)), bk.2, bg)) else (none)) else (none)) else (some (bk.1, bk.2, bg)))) else (some (([] : List (S39)), ([] : List Bool), bg))))
theorem impl_Write.mono : ∀ a0 a1 a2 a3 a4 a5 a6 a7 a8 a9 a10 a11 a12 a13 a14 k, LeO (impl_Write.f k a0 a1 a2 a3 a4 a5 a6 a7 a8 a9 a10 a11 a12 a13 a14) (impl_Write.f (k + 1) a0 a1 a2 a3 a4 a5 a6 a7 a8 a9 a10 a11 a12 a13 a14) := by
 intro a0 a1 a2 a3 a4 a5 a6 a7 a8 a9 a10 a11 a12 a13 a14 k
 unfold impl_Write.f
 repeat' first
   | (with_reducible exact impl_MemoryOk.mono _ _ _)
   | (with_reducible exact impl_writeCode.mono _ _ _ _ _ _ _ _ _ _ _ _ _ _ _ _)
   | (with_reducible exact LeO.refl _)
   | (with_reducible exact LeO.none _)
   | (with_reducible refine LeO.ite ?_ ?_)
   | (with_reducible refine LeO.bind ?_ (fun _ => ?_))
   | exact impl_MemoryOk.mono _ _ _
   | exact impl_writeCode.mono _ _ _ _ _ _ _ _ _ _ _ _ _ _ _ _
   | exact LeO.none _
   | refine LeO.ite ?_ ?_
   | refine LeO.bind ?_ (fun _ => ?_)
set_option maxHeartbeats 8000000 in
set_option maxRecDepth 100000 in
theorem impl_Write.calls (k : Nat) (A0_0 : Option Addr) (c0_0 : Nat) (l0_0 : List (S39)) (A0_1 : Option Addr) (c0_1 : Nat) (l0_1 : List Bool) (a1_0 : Int) (a1_1 : Bool) (a1_2 : Int) (a1_3 : Int) (a1_4 : Int) (a1_5 : Int) (a2 : Int) (a3_0 : Int) (a3_1 : Bool) (a3_2 : Int) (a3_3 : Int) (a3_4 : Int) (a3_5 : Int) (r1 : List (S39)) (r2 : List Bool) (r3 : Int) (w : World) (hr0_0 : Kd.C k39 w A0_0 l0_0.length l0_0) (hc0_0 : l0_0.length ≤ c0_0) (hr0_1 : Kd.C Kd.bool w A0_1 l0_1.length l0_1) (hc0_1 : l0_1.length ≤ c0_1) (h : impl_Write.f k l0_0 l0_1 a1_0 a1_1 a1_2 a1_3 a1_4 a1_5 a2 a3_0 a3_1 a3_2 a3_3 a3_4 a3_5 = some (r1, r2, r3)) :
  Calls Try.prog 8 #[.agg #[.slice A0_0 l0_0.length c0_0, .slice A0_1 l0_1.length c0_1], .agg #[.int .i64 a1_0, .bool a1_1, .int .i64 a1_2, .int .i64 a1_3, .int .i64 a1_4, .int .i64 a1_5], .int .i64 a2, .agg #[.int .i64 a3_0, .bool a3_1, .int .i64 a3_2, .int .i64 a3_3, .int .i64 a3_4, .int .i64 a3_5]] w fun e w' => ∃ v0_ v1_ : Value, e = .returned (.tuple #[.agg #[v0_, v1_], .int .i64 r3]) ∧ Kd.R k39 39 w' w.heap.size (fun _ => True) v0_ r1 ∧ Kd.R Kd.bool 4 w' w.heap.size (fun _ => True) v1_ r2 ∧ Below w.heap.size w w' := by
 have hu33 := Try.underlying33; have hu39 := Try.underlying39; have bw := Aside0.mk hr0_0; have bx := Aside0.mk hc0_0; clear hr0_0 hc0_0; have bA := Aside0.mk hr0_1; have bB := Aside0.mk hc0_1; clear hr0_1 hc0_1; have HB := Aside0.mk (Below.refl w.heap.size w); have H : ((impl_writeCode.f k l0_0 l0_1 a1_0 a1_1 a1_2 a1_3 a1_4 a1_5 a2 a3_0 a3_1 a3_2 a3_3 a3_4 a3_5).bind fun bg => ((impl_MemoryOk.f k l0_0 l0_1).bind fun b5 => (if b5 = true then ((impl_cloneMemory.f l0_0 l0_1).bind fun bk => (if bg = 0 then (if 0 ≤ a2 then (if a2 < (bk.1.length : Int) then (some ((bk.1.set (a2 : Int).toNat (⟨a3_0, a3_1, (⟨a3_2, a3_3, a3_4, a3_5⟩ : S37)⟩ : S39)), bk.2, bg)) else (none)) else (none)) else (some (bk.1, bk.2, bg)))) else (some (([] : List (S39)), ([] : List Bool), bg))))) = some (r1, r2, r3) := h; clear h; replace H := Option.bind_eq_some_iff.mp H; obtain ⟨bg, A50, H⟩ := H; replace H : ((impl_MemoryOk.f k l0_0 l0_1).bind fun b5 => (if b5 = true then ((impl_cloneMemory.f l0_0 l0_1).bind fun bk => (if bg = 0 then (if 0 ≤ a2 then (if a2 < (bk.1.length : Int) then (some ((bk.1.set (a2 : Int).toNat (⟨a3_0, a3_1, (⟨a3_2, a3_3, a3_4, a3_5⟩ : S37)⟩ : S39)), bk.2, bg)) else (none)) else (none)) else (some (bk.1, bk.2, bg)))) else (some (([] : List (S39)), ([] : List Bool), bg)))) = some (r1, r2, r3) := H; have A5 := Aside0.mk A50; clear A50; replace H := Option.bind_eq_some_iff.mp H; obtain ⟨b5, A60, H⟩ := H; replace H : (if b5 = true then ((impl_cloneMemory.f l0_0 l0_1).bind fun bk => (if bg = 0 then (if 0 ≤ a2 then (if a2 < (bk.1.length : Int) then (some ((bk.1.set (a2 : Int).toNat (⟨a3_0, a3_1, (⟨a3_2, a3_3, a3_4, a3_5⟩ : S37)⟩ : S39)), bk.2, bg)) else (none)) else (none)) else (some (bk.1, bk.2, bg)))) else (some (([] : List (S39)), ([] : List Bool), bg))) = some (r1, r2, r3) := H; have A6 := Aside0.mk A60; clear A60
 by_cases c7 : b5 = true
 ·subst c7
  have H1 : ((impl_cloneMemory.f l0_0 l0_1).bind fun bk => (if bg = 0 then (if 0 ≤ a2 then (if a2 < (bk.1.length : Int) then (some ((bk.1.set (a2 : Int).toNat (⟨a3_0, a3_1, (⟨a3_2, a3_3, a3_4, a3_5⟩ : S37)⟩ : S39)), bk.2, bg)) else (none)) else (none)) else (some (bk.1, bk.2, bg)))) = some (r1, r2, r3) := by rw [if_pos rfl] at H; exact H
  clear H; have H := H1; clear H1; replace H := Option.bind_eq_some_iff.mp H; obtain ⟨⟨bl, bz⟩, A80, H⟩ := H; replace H : (if bg = 0 then (if 0 ≤ a2 then (if a2 < (bl.length : Int) then (some ((bl.set (a2 : Int).toNat (⟨a3_0, a3_1, (⟨a3_2, a3_3, a3_4, a3_5⟩ : S37)⟩ : S39)), bz, bg)) else (none)) else (none)) else (some (bl, bz, bg))) = some (r1, r2, r3) := H; have A8 := Aside0.mk A80; clear A80
  by_cases c9 : bg = 0
  ·rw [if_pos c9] at H
   have c9b0 : (bg == 0) = true := beq_iff_eq.mpr c9; have c9b1 : (bg != 0) = false := bne_eq_false_iff_eq.mpr c9; clear c9
   by_cases c10 : 0 ≤ a2
   ·rw [if_pos c10] at H
    have c10b0 : decide (0 ≤ a2) = true := decide_eq_true c10; clear c10
    by_cases c11 : a2 < (bl.length : Int)
    ·rw [if_pos c11] at H
     have c11b0 : decide (a2 < (bl.length : Int)) = true := decide_eq_true c11; clear c11; obtain ⟨d7, dh⟩ : ∃ y_ : List (S39), y_ = (bl.set (a2 : Int).toNat (⟨a3_0, a3_1, (⟨a3_2, a3_3, a3_4, a3_5⟩ : S37)⟩ : S39)) := ⟨_, rfl⟩; replace H : (some (d7, bz, bg)) = some (r1, r2, r3) := by first | (rw [dh]; with_reducible exact H) | (have H2_ := (Option.bind_some _ _).symm.trans H; rw [dh]; with_reducible exact H2_) | (have H2_ := (Option.bind_some _ _).symm.trans H; with_reducible exact H2_) | with_reducible exact H | (rw [dh]; exact H) | exact H
     have eO := Aside0.mk dh; clear dh; simp only [Option.some.injEq, Prod.mk.injEq] at H; obtain ⟨rfl, rfl, rfl⟩ := H
     go_enter Try.func8, Try.ntmps8
     go_wp2_with (first | ((with_reducible refine gate_dst (N := 4) rfl ?_); refine bxe 4 #[.slice A0_0 l0_0.length c0_0, .slice A0_1 l0_1.length c0_1] 33 ?_; intro dH hg d8 hbox hb; have bb := hbox; have d9 := nge HB hg; have ea := nge HB hg; replace HB := nbs HB hb; clear hb hbox hg) | ((with_reducible refine gate_dst (N := 5) rfl ?_); refine bxe 5 #[.int .i64 a1_0, .bool a1_1, .int .i64 a1_2, .int .i64 a1_3, .int .i64 a1_4, .int .i64 a1_5] 39 ?_; intro bP hg hq hbox hb; have bc := hbox; have eb := nge HB hg; have ec := nge HB hg; have di := nlt bb hg; have dj := ngt bb hg; replace bb := nblk bb hb; replace HB := nbs HB hb; clear hb hbox hg) | ((with_reducible refine gate_dst (N := 7) rfl ?_); refine bxe 7 #[.int .i64 a3_0, .bool a3_1, .int .i64 a3_2, .int .i64 a3_3, .int .i64 a3_4, .int .i64 a3_5] 39 ?_; intro bQ hg eP hbox hb; have bd := hbox; have ed := nge HB hg; have ee := nge HB hg; have dk := nlt bb hg; have dl := ngt bb hg; have dm := nlt bc hg; have dn := ngt bc hg; replace bb := nblk bb hb; replace bc := nblk bc hb; replace HB := nbs HB hb; clear hb hbox hg) | ((with_reducible refine gate_dst (N := 8) rfl ?_); refine bxe 8 #[.slice none 0 0, .slice none 0 0] 33 ?_; intro b8 hg eQ hbox hb; have bf := hbox; have ef := nge HB hg; have eg := nge HB hg; have dp := nlt bb hg; have dq := ngt bb hg; have dr := nlt bc hg; have dt := ngt bc hg; have du := nlt bd hg; have dv := ngt bd hg; replace bb := nblk bb hb; replace bc := nblk bc hb; replace bd := nblk bd hb; replace HB := nbs HB hb; clear hb hbox hg; have eR := di.out; have eS := dj.out; have hs := dk.out; have ht := dl.out; have eT := dp.out; have eU := dq.out; obtain ⟨eV, eW⟩ := c2e bb; obtain ⟨eX, eY⟩ := z2_ bb; have hu := dm.out; have hv := dn.out; have hx := dr.out; have hy := dt.out; obtain ⟨hz, hA, hB, hC, hD, hE⟩ := c6e bc; obtain ⟨hF, hG, hH, hI, hJ, hL⟩ := z6_ bc; have eZ := du.out; have e0 := dv.out; obtain ⟨e1, e2, e3, e4, hM, hN⟩ := c6e bd; obtain ⟨e5, e6, e7, e8, hO, hQ⟩ := z6_ bd) | ((with_reducible refine gate_callee (f := 20) rfl ?_); refine goesM (some 16) rfl rfl Try.func20 (by kernel_rfl) rfl #[.agg #[.slice A0_0 l0_0.length c0_0, .slice A0_1 l0_1.length c0_1], .agg #[.int .i64 a1_0, .bool a1_1, .int .i64 a1_2, .int .i64 a1_3, .int .i64 a1_4, .int .i64 a1_5], .int .i64 a2, .agg #[.int .i64 a3_0, .bool a3_1, .int .i64 a3_2, .int .i64 a3_3, .int .i64 a3_4, .int .i64 a3_5]] rfl ?_; (with_reducible refine (impl_writeCode.calls k _ _ l0_0 _ _ l0_1 a1_0 a1_1 a1_2 a1_3 a1_4 a1_5 a2 a3_0 a3_1 a3_2 a3_3 a3_4 a3_5 bg _ ?side1 ?side2 ?side3 ?side4 A5.out).mono ?_); (case side1 => exact nCb bw HB); (case side2 => exact bx.out); (case side3 => exact nCb bA HB); (case side4 => exact bB.out); rintro e hR ⟨rfl, hb⟩; refine ⟨_, rfl, ?_⟩; replace bb := nblk bb hb; replace bc := nblk bc hb; replace bd := nblk bd hb; replace bf := nblk bf hb; replace HB := nbs HB hb; (try clear hb); obtain ⟨eh, ei⟩ := c2e bb; obtain ⟨ej, ek⟩ := z2_ bb) | ((with_reducible refine gate_callee (f := 21) rfl ?_); refine goesM (some 18) rfl rfl Try.func21 (by kernel_rfl) rfl #[.agg #[.slice A0_0 l0_0.length c0_0, .slice A0_1 l0_1.length c0_1]] rfl ?_; (with_reducible refine (impl_MemoryOk.calls k _ _ l0_0 _ _ l0_1 true _ ?side1 ?side2 ?side3 ?side4 A6.out).mono ?_); (case side1 => exact nCb bw HB); (case side2 => exact bx.out); (case side3 => exact nCb bA HB); (case side4 => exact bB.out); rintro e el ⟨rfl, hb⟩; refine ⟨_, rfl, ?_⟩; replace bb := nblk bb hb; replace bc := nblk bc hb; replace bd := nblk bd hb; replace bf := nblk bf hb; replace HB := nbs HB hb; (try clear hb); obtain ⟨hS, hT⟩ := c2e bb; obtain ⟨hU, hV⟩ := z2_ bb) | ((with_reducible refine gate_callee (f := 22) rfl ?_); refine goesM (some 23) rfl rfl Try.func22 (by kernel_rfl) rfl #[.agg #[.slice A0_0 l0_0.length c0_0, .slice A0_1 l0_1.length c0_1]] rfl ?_; (with_reducible refine (impl_cloneMemory.calls _ _ l0_0 _ _ l0_1 bl bz _ ?side1 ?side2 ?side3 ?side4 A8.out).mono ?_); (case side1 => exact nCb bw HB); (case side2 => exact bx.out); (case side3 => exact nCb bA HB); (case side4 => exact bB.out); rintro e hW ⟨e9, ga, rfl, dw, dx, hb⟩; refine ⟨_, rfl, ?_⟩; have bm := Aside0.mk (Kd.R_lower (Kd.R_newB (Kd.R_newB dw (g := bP) (o := .cells #[.int .i64 a1_0, .bool a1_1, .int .i64 a1_2, .int .i64 a1_3, .int .i64 a1_4, .int .i64 a1_5] 39 (0, 0)) (nb bc)) (g := bQ) (o := .cells #[.int .i64 a3_0, .bool a3_1, .int .i64 a3_2, .int .i64 a3_3, .int .i64 a3_4, .int .i64 a3_5] 39 (0, 0)) (nb bd)) (bsz HB)); have bu := Aside0.mk (Kd.R_lower dx (bsz HB)); replace bb := nblk bb hb; replace bc := nblk bc hb; replace bd := nblk bd hb; replace bf := nblk bf hb; replace HB := nbs HB hb; (try clear hb); (try clear dw); (try clear dx)) | ((with_reducible refine gate_dst (N := 11) rfl ?_); refine bxe 11 #[.slice none 0 0, .slice none 0 0] 33 ?_; intro dy hg gb hbox hb; have br := hbox; have gc := nge HB hg; have gd := nge HB hg; have dI := nlt bb hg; have dS := ngt bb hg; have dJ := nlt bc hg; have dT := ngt bc hg; have dK := nlt bd hg; have dU := ngt bd hg; have dz := nlt bf hg; have dV := ngt bf hg; replace bm := nR bm hb; replace bu := nR bu hb; replace bb := nblk bb hb; replace bc := nblk bc hb; replace bd := nblk bd hb; replace bf := nblk bf hb; replace HB := nbs HB hb; clear hb hbox hg; obtain ⟨dW, b6, gf⟩ := Kd.R_slice bm.out; subst gf; have hX := dS.out; have hY := dI.out; have hZ := dT.out; have h0 := dJ.out; have h1 := dU.out; have h2 := dK.out; have h3 := dV.out; have h4 := dz.out; obtain ⟨h5, h6⟩ := c2e br; obtain ⟨h7, h8⟩ := z2_ br; obtain ⟨dA, dB, gg⟩ := Kd.R_slice bu.out; subst gg) | ((with_reducible refine gate_store (t := 33) (p := 11) rfl ?_); refine store_event (t := 33) (p := 11) (v := ?vo_w39) (w1 := ((gb.setCell ⟨dy, 0, none⟩ (.slice dW bl.length b6)).setCell ⟨dy, 1, none⟩ (.slice dA bz.length dB))) ?hg ?ho ?hn ?hr ?_; (case ho => rfl); (case hg => rfl); (case hn => rfl); (case hr => first | (go_simp; done) | (go_simp; rfl)); intro bo hw; replace bm : Aside0 (Kd.R k39 39 bo w.heap.size (fun k_ => k_ ≠ bP ∧ k_ ≠ bQ) (.slice dW bl.length b6) bl) := ⟨(by rw [hw]; exact (by (with_reducible repeat (first | apply Kd.R_alloc | apply Kd.R_drewN | apply Kd.R_drew)); exact Kd.R_mono (eR2_ (Kd.R_types bm.out br.out (by decide))) (fun _ hk => ⟨hk.1.1.2, hk.1.2⟩)))⟩; replace bu : Aside0 (Kd.R Kd.bool 4 bo w.heap.size (fun _ => True) (.slice dA bz.length dB) bz) := ⟨(by rw [hw]; exact (by (with_reducible repeat (first | apply Kd.R_alloc | apply Kd.R_drewN | apply Kd.R_drew)); exact Kd.R_mono (eR2_ (Kd.R_types bu.out br.out (by decide))) (fun _ hk => trivial)))⟩; replace bb : Aside0 (bo.heap[dH]? = some (.cells #[.slice A0_0 l0_0.length c0_0, .slice A0_1 l0_1.length c0_1] 33 (0, 0))) := ⟨(by rw [hw]; exact (k2_ dI.out (nb bb)))⟩; replace bc : Aside0 (bo.heap[bP]? = some (.cells #[.int .i64 a1_0, .bool a1_1, .int .i64 a1_2, .int .i64 a1_3, .int .i64 a1_4, .int .i64 a1_5] 39 (0, 0))) := ⟨(by rw [hw]; exact (k2_ dJ.out (nb bc)))⟩; replace bd : Aside0 (bo.heap[bQ]? = some (.cells #[.int .i64 a3_0, .bool a3_1, .int .i64 a3_2, .int .i64 a3_3, .int .i64 a3_4, .int .i64 a3_5] 39 (0, 0))) := ⟨(by rw [hw]; exact (k2_ dK.out (nb bd)))⟩; replace bf : Aside0 (bo.heap[b8]? = some (.cells #[.slice none 0 0, .slice none 0 0] 33 (0, 0))) := ⟨(by rw [hw]; exact (k2_ dz.out (nb bf)))⟩; replace br : Aside0 (bo.heap[dy]? = some (.cells #[.slice dW bl.length b6, .slice dA bz.length dB] 33 (0, 0))) := ⟨(by rw [hw]; exact (q2 br))⟩; replace HB : Aside0 (Below w.heap.size w bo) := ⟨(by rw [hw]; exact (nbe HB))⟩; clear hw; obtain ⟨h9, ia⟩ := c2e br; obtain ⟨ib, ic⟩ := z2_ br; obtain ⟨ig, ih, ii, ij, ik, il⟩ := c6e bd; obtain ⟨im, io, ip, iq, ir, iu⟩ := z6_ bd; have p12 : 0 ≤ (a2 : Int) := of_decide_eq_true (by first | (with_reducible assumption) | assumption); have q12 : (a2 : Int) < ((bl.length : Int) : Int) := of_decide_eq_true (by first | (with_reducible assumption) | assumption); obtain ⟨bn, iv, em, en, gl12, cl12, HG12⟩ := Kd.R_form bm.out (by omega); (first | cases em | (injection em with ea_ en_ ec_; (first | subst ea_ | (injection ea_ with ea_; subst ea_)); subst ec_; clear en_)); have de := Aside0.mk en; have iw := Aside0.mk HG12; clear en gl12 HG12; obtain ⟨ix, gh, eo, b9, da⟩ := Kd.R_elem bm.out z39 (a2 : Int) p12 q12; obtain rfl := k39_openM eo; have iy : bo.cell? ⟨bn, (a2 : Int).toNat * 6, none⟩ = some (.int .i64 ((rd_T39 bl a2).f0)) := b9 0 _ rfl; have iz : bo.cell? ⟨bn, (a2 : Int).toNat * 6 + 1, none⟩ = some (.bool ((rd_T39 bl a2).f1)) := b9 1 _ rfl; have iA : bo.cell? ⟨bn, (a2 : Int).toNat * 6 + 2, none⟩ = some (.int .i64 ((rd_T39 bl a2).f2.f0)) := b9 2 _ rfl; have iB : bo.cell? ⟨bn, (a2 : Int).toNat * 6 + 3, none⟩ = some (.int .i64 ((rd_T39 bl a2).f2.f1)) := b9 3 _ rfl; have iC : bo.cell? ⟨bn, (a2 : Int).toNat * 6 + 4, none⟩ = some (.int .i64 ((rd_T39 bl a2).f2.f2)) := b9 4 _ rfl; have iD : bo.cell? ⟨bn, (a2 : Int).toNat * 6 + 5, none⟩ = some (.int .i64 ((rd_T39 bl a2).f2.f3)) := b9 5 _ rfl; have hf12_0 : bo.frozen? ⟨bn, (a2 : Int).toNat * 6, none⟩ = false := da 0; have hf12_1 : bo.frozen? ⟨bn, (a2 : Int).toNat * 6 + 1, none⟩ = false := da 1; have hf12_2 : bo.frozen? ⟨bn, (a2 : Int).toNat * 6 + 2, none⟩ = false := da 2; have hf12_3 : bo.frozen? ⟨bn, (a2 : Int).toNat * 6 + 3, none⟩ = false := da 3; have hf12_4 : bo.frozen? ⟨bn, (a2 : Int).toNat * 6 + 4, none⟩ = false := da 4; have hf12_5 : bo.frozen? ⟨bn, (a2 : Int).toNat * 6 + 5, none⟩ = false := da 5; clear gh b9 da eo; replace p12 := eq_true p12; replace q12 := eq_true q12; have ep := Aside0.mk (show Kd.R k39 39 bo w.heap.size (fun k_ => k_ ≠ bP ∧ k_ ≠ bQ) (.slice (some ⟨bn, 0, none⟩) bl.length b6) bl from (nRo bm)); obtain ⟨iE, er, es, b7, db⟩ := Kd.R_elem ep.out z39 (a2 : Int) (of_decide_eq_true (by first | (with_reducible assumption) | assumption)) (by have h_ : (a2 : Int) < ((bl.length : Int) : Int) := of_decide_eq_true (by first | (with_reducible assumption) | assumption); first | exact h_ | (have e_ := (Kd.R_reads' bm.out).1; omega) | simpa using h_); obtain rfl := k39_openM es; have HP42 := Kd.R_seg ep.out (a2 : Int) (of_decide_eq_true (by first | (with_reducible assumption) | assumption)) (by have h_ : (a2 : Int) < ((bl.length : Int) : Int) := of_decide_eq_true (by first | (with_reducible assumption) | assumption); first | exact h_ | (have e_ := (Kd.R_reads' bm.out).1; omega) | simpa using h_) (seg := [.int .i64 a3_0, .bool a3_1, .int .i64 a3_2, .int .i64 a3_3, .int .i64 a3_4, .int .i64 a3_5]) (j := 0) er b7 (show 6 ≤ 6 from by decide) (x' := (⟨a3_0, a3_1, (⟨a3_2, a3_3, a3_4, a3_5⟩ : S37)⟩ : S39)) (k39_mkM _ _ _ (⟨a3_0, a3_1, (⟨a3_2, a3_3, a3_4, a3_5⟩ : S37)⟩ : S39) ) (fun _ hk => hk); have gi := b7 0 _ rfl; (try simp only [show (k39).sz = 6 from rfl, Nat.mul_one, Nat.add_zero] at gi); have hf42_0 := db 0; (try simp only [show (k39).sz = 6 from rfl, Nat.mul_one, Nat.add_zero] at hf42_0); have gj := b7 1 _ rfl; (try simp only [show (k39).sz = 6 from rfl, Nat.mul_one, Nat.add_zero] at gj); have hf42_1 := db 1; (try simp only [show (k39).sz = 6 from rfl, Nat.mul_one, Nat.add_zero] at hf42_1); have gl := b7 2 _ rfl; (try simp only [show (k39).sz = 6 from rfl, Nat.mul_one, Nat.add_zero] at gl); have hf42_2 := db 2; (try simp only [show (k39).sz = 6 from rfl, Nat.mul_one, Nat.add_zero] at hf42_2); have gm := b7 3 _ rfl; (try simp only [show (k39).sz = 6 from rfl, Nat.mul_one, Nat.add_zero] at gm); have hf42_3 := db 3; (try simp only [show (k39).sz = 6 from rfl, Nat.mul_one, Nat.add_zero] at hf42_3); have gn := b7 4 _ rfl; (try simp only [show (k39).sz = 6 from rfl, Nat.mul_one, Nat.add_zero] at gn); have hf42_4 := db 4; (try simp only [show (k39).sz = 6 from rfl, Nat.mul_one, Nat.add_zero] at hf42_4); have gp := b7 5 _ rfl; (try simp only [show (k39).sz = 6 from rfl, Nat.mul_one, Nat.add_zero] at gp); have hf42_5 := db 5; (try simp only [show (k39).sz = 6 from rfl, Nat.mul_one, Nat.add_zero] at hf42_5); clear er b7 db es) | ((with_reducible refine gate_store (t := 39) (p := 30) rfl ?_); refine store_event (t := 39) (p := 30) (v := ?vo_w43) (w1 := ((((((bo.setCell ⟨bn, (a2 : Int).toNat * 6, none⟩ (.int .i64 a3_0)).setCell ⟨bn, (a2 : Int).toNat * 6 + 1, none⟩ (.bool a3_1)).setCell ⟨bn, (a2 : Int).toNat * 6 + 2, none⟩ (.int .i64 a3_2)).setCell ⟨bn, (a2 : Int).toNat * 6 + 3, none⟩ (.int .i64 a3_3)).setCell ⟨bn, (a2 : Int).toNat * 6 + 4, none⟩ (.int .i64 a3_4)).setCell ⟨bn, (a2 : Int).toNat * 6 + 5, none⟩ (.int .i64 a3_5))) ?hg ?ho ?hn ?hr ?_; (case ho => rfl); (case hg => rfl); (case hn => rfl); (case hr => first | (go_simp; done) | (go_simp; rfl)); intro dX hw; have hg : bo.grownBy dX (some bn) := (by rw [hw]; exact HP42.2); have hp_ : Kd.R k39 39 dX w.heap.size (fun k_ => k_ ≠ bP ∧ k_ ≠ bQ) (.slice (some ⟨bn, 0, none⟩) bl.length b6) d7 := (by rw [hw, eO.out]; exact HP42.1); clear HP42; have et := Aside0.mk (blk_grown (g := dH) (o := .cells #[.slice A0_0 l0_0.length c0_0, .slice A0_1 l0_1.length c0_1] 33 (0, 0)) (nb bb) hg (Kd.R_ne bm.out bb.out (by decide))); have eu := Aside0.mk (blk_grown (g := bP) (o := .cells #[.int .i64 a1_0, .bool a1_1, .int .i64 a1_2, .int .i64 a1_3, .int .i64 a1_4, .int .i64 a1_5] 39 (0, 0)) (nb bc) hg (Kd.R_away bm.out (fun _ hk => hk.1))); have ev := Aside0.mk (blk_grown (g := bQ) (o := .cells #[.int .i64 a3_0, .bool a3_1, .int .i64 a3_2, .int .i64 a3_3, .int .i64 a3_4, .int .i64 a3_5] 39 (0, 0)) (nb bd) hg (Kd.R_away bm.out (fun _ hk => hk.2))); have ew := Aside0.mk (blk_grown (g := b8) (o := .cells #[.slice none 0 0, .slice none 0 0] 33 (0, 0)) (nb bf) hg (Kd.R_ne bm.out bf.out (by decide))); have ex := Aside0.mk (hp_); have ey := Aside0.mk (Kd.R_over' (v := (.slice (some ⟨bn, 0, none⟩) bl.length b6)) (nRo bu) (Kd.R_typed bm.out) (by decide) hg); have ez := Aside0.mk (blk_grown (g := dy) (o := .cells #[.slice (some ⟨bn, 0, none⟩) bl.length b6, .slice dA bz.length dB] 33 (0, 0)) (nb br) hg (Kd.R_ne bm.out br.out (by decide))); have eA := Aside0.mk ((by rw [hw]; exact below_set (below_set (below_set (below_set (below_set (below_set (HB.out) de.out) de.out) de.out) de.out) de.out) de.out : Below w.heap.size w dX)); clear bb bc bd bf bm bu br HB; have bb := et; have bc := eu; have bd := ev; have bf := ew; have bm := ex; have bu := ey; have br := ez; have HB := eA; clear et eu ev ew ex ey ez eA; clear hg hw hp_; obtain ⟨iF, iG⟩ := c2e br; obtain ⟨iH, iI⟩ := z2_ br; obtain ⟨iJ, iK⟩ := c2e bf; obtain ⟨iL, iM⟩ := z2_ bf))
     refine bodyPost_ret (results_ct rfl _ _ b8 33 #[.slice (some ⟨bn, 0, none⟩) bl.length b6, .slice dA bz.length dB] (0, 0) _ rfl (q2 bf) Try.underlying33 rfl (by kernel_rfl)) rfl ?_; exact ⟨_, _, er_, by (with_reducible repeat (first | apply Kd.R_alloc | apply Kd.R_drewN | apply Kd.R_drew)); exact Kd.R_mono (eR2_ (Kd.R_types bm.out bf.out (by decide))) (fun _ hk => trivial), by (with_reducible repeat (first | apply Kd.R_alloc | apply Kd.R_drewN | apply Kd.R_drew)); exact Kd.R_mono (eR2_ (Kd.R_types bu.out bf.out (by decide))) (fun _ hk => trivial), nbe HB⟩
    ·rw [if_neg c11] at H
     exact absurd H (by simp)
   ·rw [if_neg c10] at H
    exact absurd H (by simp)
  ·rw [if_neg c9] at H
   have c9b0 : (bg == 0) = false := beq_eq_false_iff_ne.mpr c9; have c9b1 : (bg != 0) = true := bne_iff_ne.mpr c9; simp only [Option.some.injEq, Prod.mk.injEq] at H; obtain ⟨rfl, rfl, rfl⟩ := H
   go_enter Try.func8, Try.ntmps8
   go_wp2_with (first | ((with_reducible refine gate_dst (N := 4) rfl ?_); refine bxe 4 #[.slice A0_0 l0_0.length c0_0, .slice A0_1 l0_1.length c0_1] 33 ?_; intro dH hg iN hbox hb; have bb := hbox; have d9 := nge HB hg; have ea := nge HB hg; replace HB := nbs HB hb; clear hb hbox hg) | ((with_reducible refine gate_dst (N := 5) rfl ?_); refine bxe 5 #[.int .i64 a1_0, .bool a1_1, .int .i64 a1_2, .int .i64 a1_3, .int .i64 a1_4, .int .i64 a1_5] 39 ?_; intro bP hg iO hbox hb; have bc := hbox; have eb := nge HB hg; have ec := nge HB hg; have di := nlt bb hg; have dj := ngt bb hg; replace bb := nblk bb hb; replace HB := nbs HB hb; clear hb hbox hg) | ((with_reducible refine gate_dst (N := 7) rfl ?_); refine bxe 7 #[.int .i64 a3_0, .bool a3_1, .int .i64 a3_2, .int .i64 a3_3, .int .i64 a3_4, .int .i64 a3_5] 39 ?_; intro bQ hg iP hbox hb; have bd := hbox; have ed := nge HB hg; have ee := nge HB hg; have dk := nlt bb hg; have dl := ngt bb hg; have dm := nlt bc hg; have dn := ngt bc hg; replace bb := nblk bb hb; replace bc := nblk bc hb; replace HB := nbs HB hb; clear hb hbox hg) | ((with_reducible refine gate_dst (N := 8) rfl ?_); refine bxe 8 #[.slice none 0 0, .slice none 0 0] 33 ?_; intro b8 hg iQ hbox hb; have bf := hbox; have ef := nge HB hg; have eg := nge HB hg; have dp := nlt bb hg; have dq := ngt bb hg; have dr := nlt bc hg; have dt := ngt bc hg; have du := nlt bd hg; have dv := ngt bd hg; replace bb := nblk bb hb; replace bc := nblk bc hb; replace bd := nblk bd hb; replace HB := nbs HB hb; clear hb hbox hg; have iR := di.out; have iS := dj.out; have iT := dk.out; have iU := dl.out; have iV := dp.out; have iW := dq.out; obtain ⟨iX, iY⟩ := c2e bb; obtain ⟨iZ, i0⟩ := z2_ bb; have i1 := dm.out; have i2 := dn.out; have i3 := dr.out; have i4 := dt.out; obtain ⟨i5, i6, i7, i8, i9, ja⟩ := c6e bc; obtain ⟨jb, jc, jd, je, jf, jg⟩ := z6_ bc; have jh := du.out; have ji := dv.out; obtain ⟨jj, jk, jl, jm, jn, jo⟩ := c6e bd; obtain ⟨jp, jq, jr, js, jt, ju⟩ := z6_ bd) | ((with_reducible refine gate_callee (f := 20) rfl ?_); refine goesM (some 16) rfl rfl Try.func20 (by kernel_rfl) rfl #[.agg #[.slice A0_0 l0_0.length c0_0, .slice A0_1 l0_1.length c0_1], .agg #[.int .i64 a1_0, .bool a1_1, .int .i64 a1_2, .int .i64 a1_3, .int .i64 a1_4, .int .i64 a1_5], .int .i64 a2, .agg #[.int .i64 a3_0, .bool a3_1, .int .i64 a3_2, .int .i64 a3_3, .int .i64 a3_4, .int .i64 a3_5]] rfl ?_; (with_reducible refine (impl_writeCode.calls k _ _ l0_0 _ _ l0_1 a1_0 a1_1 a1_2 a1_3 a1_4 a1_5 a2 a3_0 a3_1 a3_2 a3_3 a3_4 a3_5 bg _ ?side1 ?side2 ?side3 ?side4 A5.out).mono ?_); (case side1 => exact nCb bw HB); (case side2 => exact bx.out); (case side3 => exact nCb bA HB); (case side4 => exact bB.out); rintro e jv ⟨rfl, hb⟩; refine ⟨_, rfl, ?_⟩; replace bb := nblk bb hb; replace bc := nblk bc hb; replace bd := nblk bd hb; replace bf := nblk bf hb; replace HB := nbs HB hb; (try clear hb); obtain ⟨jw, jx⟩ := c2e bb; obtain ⟨jy, jz⟩ := z2_ bb) | ((with_reducible refine gate_callee (f := 21) rfl ?_); refine goesM (some 18) rfl rfl Try.func21 (by kernel_rfl) rfl #[.agg #[.slice A0_0 l0_0.length c0_0, .slice A0_1 l0_1.length c0_1]] rfl ?_; (with_reducible refine (impl_MemoryOk.calls k _ _ l0_0 _ _ l0_1 true _ ?side1 ?side2 ?side3 ?side4 A6.out).mono ?_); (case side1 => exact nCb bw HB); (case side2 => exact bx.out); (case side3 => exact nCb bA HB); (case side4 => exact bB.out); rintro e jA ⟨rfl, hb⟩; refine ⟨_, rfl, ?_⟩; replace bb := nblk bb hb; replace bc := nblk bc hb; replace bd := nblk bd hb; replace bf := nblk bf hb; replace HB := nbs HB hb; (try clear hb); obtain ⟨jB, jC⟩ := c2e bb; obtain ⟨jD, jE⟩ := z2_ bb) | ((with_reducible refine gate_callee (f := 22) rfl ?_); refine goesM (some 23) rfl rfl Try.func22 (by kernel_rfl) rfl #[.agg #[.slice A0_0 l0_0.length c0_0, .slice A0_1 l0_1.length c0_1]] rfl ?_; (with_reducible refine (impl_cloneMemory.calls _ _ l0_0 _ _ l0_1 bl bz _ ?side1 ?side2 ?side3 ?side4 A8.out).mono ?_); (case side1 => exact nCb bw HB); (case side2 => exact bx.out); (case side3 => exact nCb bA HB); (case side4 => exact bB.out); rintro e jF ⟨e9, ga, rfl, dw, dx, hb⟩; refine ⟨_, rfl, ?_⟩; have bm := Aside0.mk (Kd.R_lower (Kd.R_newB (Kd.R_newB dw (g := bP) (o := .cells #[.int .i64 a1_0, .bool a1_1, .int .i64 a1_2, .int .i64 a1_3, .int .i64 a1_4, .int .i64 a1_5] 39 (0, 0)) (nb bc)) (g := bQ) (o := .cells #[.int .i64 a3_0, .bool a3_1, .int .i64 a3_2, .int .i64 a3_3, .int .i64 a3_4, .int .i64 a3_5] 39 (0, 0)) (nb bd)) (bsz HB)); have bu := Aside0.mk (Kd.R_lower dx (bsz HB)); replace bb := nblk bb hb; replace bc := nblk bc hb; replace bd := nblk bd hb; replace bf := nblk bf hb; replace HB := nbs HB hb; (try clear hb); (try clear dw); (try clear dx)) | ((with_reducible refine gate_dst (N := 11) rfl ?_); refine bxe 11 #[.slice none 0 0, .slice none 0 0] 33 ?_; intro dy hg jG hbox hb; have br := hbox; have gc := nge HB hg; have gd := nge HB hg; have dI := nlt bb hg; have dS := ngt bb hg; have dJ := nlt bc hg; have dT := ngt bc hg; have dK := nlt bd hg; have dU := ngt bd hg; have dz := nlt bf hg; have dV := ngt bf hg; replace bm := nR bm hb; replace bu := nR bu hb; replace bb := nblk bb hb; replace bc := nblk bc hb; replace bd := nblk bd hb; replace bf := nblk bf hb; replace HB := nbs HB hb; clear hb hbox hg; obtain ⟨gq, gr, gs⟩ := Kd.R_slice bm.out; subst gs; have jH := dS.out; have jI := dI.out; have jJ := dT.out; have jK := dJ.out; have jL := dU.out; have jM := dK.out; have jN := dV.out; have jO := dz.out; obtain ⟨jP, jQ⟩ := c2e br; obtain ⟨jR, jS⟩ := z2_ br; obtain ⟨gt, gu, gv⟩ := Kd.R_slice bu.out; subst gv; obtain ⟨jT, jU⟩ := c2e bf; obtain ⟨jV, jW⟩ := z2_ bf))
   refine bodyPost_ret (results_ct rfl _ _ b8 33 #[.slice gq bl.length gr, .slice gt bz.length gu] (0, 0) _ rfl (p2 bf (k2_ dz.out (nb bf))) Try.underlying33 rfl (by kernel_rfl)) rfl ?_; exact ⟨_, _, er_, by (with_reducible repeat (first | apply Kd.R_alloc | apply Kd.R_drewN | apply Kd.R_drew)); exact Kd.R_mono (hR2_ (fun _ hk => hk.2) (hR2_ (fun _ hk => hk.1.2) (Kd.R_types (Kd.R_types bm.out br.out (by decide)) bf.out (by decide)))) (fun _ hk => trivial), by (with_reducible repeat (first | apply Kd.R_alloc | apply Kd.R_drewN | apply Kd.R_drew)); exact Kd.R_mono (hR2_ (fun _ hk => hk.2) (hR2_ (fun _ hk => hk.1.2) (Kd.R_types (Kd.R_types bu.out br.out (by decide)) bf.out (by decide)))) (fun _ hk => trivial), nbe HB⟩
 ·replace c7 := Bool.eq_false_iff.mpr c7
  subst c7; have H1 : (some (([] : List (S39)), ([] : List Bool), bg)) = some (r1, r2, r3) := by rw [if_neg (show ¬ (false = true) by decide)] at H; exact H
  clear H; have H := H1; clear H1; simp only [Option.some.injEq, Prod.mk.injEq] at H; obtain ⟨rfl, rfl, rfl⟩ := H
  go_enter Try.func8, Try.ntmps8
  go_wp2_with (first | ((with_reducible refine gate_dst (N := 4) rfl ?_); refine bxe 4 #[.slice A0_0 l0_0.length c0_0, .slice A0_1 l0_1.length c0_1] 33 ?_; intro dH hg jX hbox hb; have bb := hbox; have d9 := nge HB hg; have ea := nge HB hg; replace HB := nbs HB hb; clear hb hbox hg) | ((with_reducible refine gate_dst (N := 5) rfl ?_); refine bxe 5 #[.int .i64 a1_0, .bool a1_1, .int .i64 a1_2, .int .i64 a1_3, .int .i64 a1_4, .int .i64 a1_5] 39 ?_; intro bP hg jY hbox hb; have bc := hbox; have eb := nge HB hg; have ec := nge HB hg; have di := nlt bb hg; have dj := ngt bb hg; replace bb := nblk bb hb; replace HB := nbs HB hb; clear hb hbox hg) | ((with_reducible refine gate_dst (N := 7) rfl ?_); refine bxe 7 #[.int .i64 a3_0, .bool a3_1, .int .i64 a3_2, .int .i64 a3_3, .int .i64 a3_4, .int .i64 a3_5] 39 ?_; intro bQ hg jZ hbox hb; have bd := hbox; have ed := nge HB hg; have ee := nge HB hg; have dk := nlt bb hg; have dl := ngt bb hg; have dm := nlt bc hg; have dn := ngt bc hg; replace bb := nblk bb hb; replace bc := nblk bc hb; replace HB := nbs HB hb; clear hb hbox hg) | ((with_reducible refine gate_dst (N := 8) rfl ?_); refine bxe 8 #[.slice none 0 0, .slice none 0 0] 33 ?_; intro b8 hg j0 hbox hb; have bf := hbox; have ef := nge HB hg; have eg := nge HB hg; have dp := nlt bb hg; have dq := ngt bb hg; have dr := nlt bc hg; have dt := ngt bc hg; have du := nlt bd hg; have dv := ngt bd hg; replace bb := nblk bb hb; replace bc := nblk bc hb; replace bd := nblk bd hb; replace HB := nbs HB hb; clear hb hbox hg; have j1 := di.out; have j2 := dj.out; have j3 := dk.out; have j4 := dl.out; have j5 := dp.out; have j6 := dq.out; obtain ⟨j7, j8⟩ := c2e bb; obtain ⟨j9, ka⟩ := z2_ bb; have kb := dm.out; have kc := dn.out; have kd := dr.out; have ke := dt.out; obtain ⟨kf, kg, kh, ki, kj, kk⟩ := c6e bc; obtain ⟨kl, km, kn, ko, kp, kr⟩ := z6_ bc; have ks := du.out; have kt := dv.out; obtain ⟨ku, kv, kw, kx, ky, kz⟩ := c6e bd; obtain ⟨kA, kB, kC, kD, kE, kF⟩ := z6_ bd) | ((with_reducible refine gate_callee (f := 20) rfl ?_); refine goesM (some 16) rfl rfl Try.func20 (by kernel_rfl) rfl #[.agg #[.slice A0_0 l0_0.length c0_0, .slice A0_1 l0_1.length c0_1], .agg #[.int .i64 a1_0, .bool a1_1, .int .i64 a1_2, .int .i64 a1_3, .int .i64 a1_4, .int .i64 a1_5], .int .i64 a2, .agg #[.int .i64 a3_0, .bool a3_1, .int .i64 a3_2, .int .i64 a3_3, .int .i64 a3_4, .int .i64 a3_5]] rfl ?_; (with_reducible refine (impl_writeCode.calls k _ _ l0_0 _ _ l0_1 a1_0 a1_1 a1_2 a1_3 a1_4 a1_5 a2 a3_0 a3_1 a3_2 a3_3 a3_4 a3_5 bg _ ?side1 ?side2 ?side3 ?side4 A5.out).mono ?_); (case side1 => exact nCb bw HB); (case side2 => exact bx.out); (case side3 => exact nCb bA HB); (case side4 => exact bB.out); rintro e kG ⟨rfl, hb⟩; refine ⟨_, rfl, ?_⟩; replace bb := nblk bb hb; replace bc := nblk bc hb; replace bd := nblk bd hb; replace bf := nblk bf hb; replace HB := nbs HB hb; (try clear hb); obtain ⟨kH, kI⟩ := c2e bb; obtain ⟨kJ, kK⟩ := z2_ bb) | ((with_reducible refine gate_callee (f := 21) rfl ?_); refine goesM (some 18) rfl rfl Try.func21 (by kernel_rfl) rfl #[.agg #[.slice A0_0 l0_0.length c0_0, .slice A0_1 l0_1.length c0_1]] rfl ?_; (with_reducible refine (impl_MemoryOk.calls k _ _ l0_0 _ _ l0_1 false _ ?side1 ?side2 ?side3 ?side4 A6.out).mono ?_); (case side1 => exact nCb bw HB); (case side2 => exact bx.out); (case side3 => exact nCb bA HB); (case side4 => exact bB.out); rintro e kL ⟨rfl, hb⟩; refine ⟨_, rfl, ?_⟩; replace bb := nblk bb hb; replace bc := nblk bc hb; replace bd := nblk bd hb; replace bf := nblk bf hb; replace HB := nbs HB hb; (try clear hb); obtain ⟨kM, kN⟩ := c2e bf; obtain ⟨kO, kP⟩ := z2_ bf))
  refine bodyPost_ret (results_ct rfl _ _ b8 33 #[.slice none 0 0, .slice none 0 0] (0, 0) _ rfl (q2 bf) Try.underlying33 rfl (by kernel_rfl)) rfl ?_; exact ⟨_, _, er_, by first | exact Kd.R_nil _ _ _ _ _ | exact Kd.N_nil _ _ _ _ _ | exact Kd.V_nil _ _ _ _ _ | exact Kd.Q_nil _ _ _ _ _ | exact Kd.S_nil _ _ _ _ _, by first | exact Kd.R_nil _ _ _ _ _ | exact Kd.N_nil _ _ _ _ _ | exact Kd.V_nil _ _ _ _ _ | exact Kd.Q_nil _ _ _ _ _ | exact Kd.S_nil _ _ _ _ _, nbe HB⟩

/-! ### laws_eqKey: function 46 -/
def laws_eqKey.f (a0_0 : Int) (a0_1 : Int) (a0_2 : Int) (a0_3 : Int) (a1_0 : Int) (a1_1 : Int) (a1_2 : Int) (a1_3 : Int) : Option (Bool) := if a0_0 = a1_0 then (if a0_1 = a1_1 then (if a0_2 = a1_2 then (if a0_3 = a1_3 then (some true) else (some false)) else (some false)) else (some false)) else (some false)
set_option maxHeartbeats 8000000 in
set_option maxRecDepth 100000 in
theorem laws_eqKey.calls (a0_0 : Int) (a0_1 : Int) (a0_2 : Int) (a0_3 : Int) (a1_0 : Int) (a1_1 : Int) (a1_2 : Int) (a1_3 : Int) (r : Bool) (w : World) (h : laws_eqKey.f a0_0 a0_1 a0_2 a0_3 a1_0 a1_1 a1_2 a1_3 = some r) :
  Calls Try.prog 46 #[.agg #[.int .i64 a0_0, .int .i64 a0_1, .int .i64 a0_2, .int .i64 a0_3], .agg #[.int .i64 a1_0, .int .i64 a1_1, .int .i64 a1_2, .int .i64 a1_3]] w fun e w' => e = .returned (.bool r) ∧ Below w.heap.size w w' := by
 have hu37 := Try.underlying37; have HB := Aside0.mk (Below.refl w.heap.size w); have H : (if a0_0 = a1_0 then (if a0_1 = a1_1 then (if a0_2 = a1_2 then (if a0_3 = a1_3 then (some true) else (some false)) else (some false)) else (some false)) else (some false)) = some r := h; clear h
 by_cases c3 : a0_0 = a1_0
 ·rw [if_pos c3] at H
  have c3b0 : (a0_0 == a1_0) = true := beq_iff_eq.mpr c3; have c3b1 : (a0_0 != a1_0) = false := bne_eq_false_iff_eq.mpr c3; clear c3
  by_cases c4 : a0_1 = a1_1
  ·rw [if_pos c4] at H
   have c4b0 : (a0_1 == a1_1) = true := beq_iff_eq.mpr c4; have c4b1 : (a0_1 != a1_1) = false := bne_eq_false_iff_eq.mpr c4; clear c4
   by_cases c5 : a0_2 = a1_2
   ·rw [if_pos c5] at H
    have c5b0 : (a0_2 == a1_2) = true := beq_iff_eq.mpr c5; have c5b1 : (a0_2 != a1_2) = false := bne_eq_false_iff_eq.mpr c5; clear c5
    by_cases c6 : a0_3 = a1_3
    ·rw [if_pos c6] at H
     have c6b0 : (a0_3 == a1_3) = true := beq_iff_eq.mpr c6; have c6b1 : (a0_3 != a1_3) = false := bne_eq_false_iff_eq.mpr c6; clear c6; obtain rfl := Option.some.inj H
     go_enter Try.func46, Try.ntmps46
     go_wp2_with (first | ((with_reducible refine gate_dst (N := 2) rfl ?_); refine bxe 2 #[.int .i64 a0_0, .int .i64 a0_1, .int .i64 a0_2, .int .i64 a0_3] 37 ?_; intro dL hg w7 hbox hb; have bh := hbox; have dM := nge HB hg; have dN := nge HB hg; replace HB := nbs HB hb; clear hb hbox hg) | ((with_reducible refine gate_dst (N := 3) rfl ?_); refine bxe 3 #[.int .i64 a1_0, .int .i64 a1_1, .int .i64 a1_2, .int .i64 a1_3] 37 ?_; intro dO hg w8 hbox hb; have bv := hbox; have dP := nge HB hg; have dQ := nge HB hg; have bR := nlt bh hg; have bS := ngt bh hg; replace bh := nblk bh hb; replace HB := nbs HB hb; clear hb hbox hg; have gw := bR.out; have gx := bS.out; obtain ⟨gy, gz, kQ, kR⟩ := c4e bh; obtain ⟨gA, gB, kS, kT⟩ := z4_ bh; obtain ⟨gC, gD, kU, kV⟩ := c4e bv; obtain ⟨gE, gF, kW, kX⟩ := z4_ bv))
     go_ret
     exact ⟨er_, nbe HB⟩
    ·rw [if_neg c6] at H
     have c6b0 : (a0_3 == a1_3) = false := beq_eq_false_iff_ne.mpr c6; have c6b1 : (a0_3 != a1_3) = true := bne_iff_ne.mpr c6; obtain rfl := Option.some.inj H
     go_enter Try.func46, Try.ntmps46
     go_wp2_with (first | ((with_reducible refine gate_dst (N := 2) rfl ?_); refine bxe 2 #[.int .i64 a0_0, .int .i64 a0_1, .int .i64 a0_2, .int .i64 a0_3] 37 ?_; intro dL hg dY hbox hb; have bh := hbox; have dM := nge HB hg; have dN := nge HB hg; replace HB := nbs HB hb; clear hb hbox hg) | ((with_reducible refine gate_dst (N := 3) rfl ?_); refine bxe 3 #[.int .i64 a1_0, .int .i64 a1_1, .int .i64 a1_2, .int .i64 a1_3] 37 ?_; intro dO hg d8 hbox hb; have bv := hbox; have dP := nge HB hg; have dQ := nge HB hg; have bR := nlt bh hg; have bS := ngt bh hg; replace bh := nblk bh hb; replace HB := nbs HB hb; clear hb hbox hg; have gG := bR.out; have gH := bS.out; obtain ⟨gI, gJ, gK, gL⟩ := c4e bh; obtain ⟨gM, gN, gO, gP⟩ := z4_ bh; obtain ⟨gQ, gR, gS, gT⟩ := c4e bv; obtain ⟨gU, gV, gW, gX⟩ := z4_ bv))
     go_ret
     exact ⟨er_, nbe HB⟩
   ·rw [if_neg c5] at H
    have c5b0 : (a0_2 == a1_2) = false := beq_eq_false_iff_ne.mpr c5; have c5b1 : (a0_2 != a1_2) = true := bne_iff_ne.mpr c5; obtain rfl := Option.some.inj H
    go_enter Try.func46, Try.ntmps46
    go_wp2_with (first | ((with_reducible refine gate_dst (N := 2) rfl ?_); refine bxe 2 #[.int .i64 a0_0, .int .i64 a0_1, .int .i64 a0_2, .int .i64 a0_3] 37 ?_; intro dL hg gY hbox hb; have bh := hbox; have dM := nge HB hg; have dN := nge HB hg; replace HB := nbs HB hb; clear hb hbox hg) | ((with_reducible refine gate_dst (N := 3) rfl ?_); refine bxe 3 #[.int .i64 a1_0, .int .i64 a1_1, .int .i64 a1_2, .int .i64 a1_3] 37 ?_; intro dO hg gZ hbox hb; have bv := hbox; have dP := nge HB hg; have dQ := nge HB hg; have bR := nlt bh hg; have bS := ngt bh hg; replace bh := nblk bh hb; replace HB := nbs HB hb; clear hb hbox hg; have eT := bR.out; have eU := bS.out; obtain ⟨eV, eW, kY, kZ⟩ := c4e bh; obtain ⟨eX, eY, k0, k2⟩ := z4_ bh; obtain ⟨eB, eC, g0, g1⟩ := c4e bv; obtain ⟨eD, eE, g2, g3⟩ := z4_ bv))
    go_ret
    exact ⟨er_, nbe HB⟩
  ·rw [if_neg c4] at H
   have c4b0 : (a0_1 == a1_1) = false := beq_eq_false_iff_ne.mpr c4; have c4b1 : (a0_1 != a1_1) = true := bne_iff_ne.mpr c4; obtain rfl := Option.some.inj H
   go_enter Try.func46, Try.ntmps46
   go_wp2_with (first | ((with_reducible refine gate_dst (N := 2) rfl ?_); refine bxe 2 #[.int .i64 a0_0, .int .i64 a0_1, .int .i64 a0_2, .int .i64 a0_3] 37 ?_; intro dL hg k3 hbox hb; have bh := hbox; have dM := nge HB hg; have dN := nge HB hg; replace HB := nbs HB hb; clear hb hbox hg) | ((with_reducible refine gate_dst (N := 3) rfl ?_); refine bxe 3 #[.int .i64 a1_0, .int .i64 a1_1, .int .i64 a1_2, .int .i64 a1_3] 37 ?_; intro dO hg eF hbox hb; have bv := hbox; have dP := nge HB hg; have dQ := nge HB hg; have bR := nlt bh hg; have bS := ngt bh hg; replace bh := nblk bh hb; replace HB := nbs HB hb; clear hb hbox hg; have eZ := bR.out; have e0 := bS.out; obtain ⟨e1, e2, e3, e4⟩ := c4e bh; obtain ⟨e5, e6, e7, e8⟩ := z4_ bh; obtain ⟨g4, g5, k4, k5⟩ := c4e bv; obtain ⟨g6, g7, k6, k7⟩ := z4_ bv))
   go_ret
   exact ⟨er_, nbe HB⟩
 ·rw [if_neg c3] at H
  have c3b0 : (a0_0 == a1_0) = false := beq_eq_false_iff_ne.mpr c3; have c3b1 : (a0_0 != a1_0) = true := bne_iff_ne.mpr c3; obtain rfl := Option.some.inj H
  go_enter Try.func46, Try.ntmps46
  go_wp2_with (first | ((with_reducible refine gate_dst (N := 2) rfl ?_); refine bxe 2 #[.int .i64 a0_0, .int .i64 a0_1, .int .i64 a0_2, .int .i64 a0_3] 37 ?_; intro dL hg k8 hbox hb; have bh := hbox; have dM := nge HB hg; have dN := nge HB hg; replace HB := nbs HB hb; clear hb hbox hg) | ((with_reducible refine gate_dst (N := 3) rfl ?_); refine bxe 3 #[.int .i64 a1_0, .int .i64 a1_1, .int .i64 a1_2, .int .i64 a1_3] 37 ?_; intro dO hg el hbox hb; have bv := hbox; have dP := nge HB hg; have dQ := nge HB hg; have bR := nlt bh hg; have bS := ngt bh hg; replace bh := nblk bh hb; replace HB := nbs HB hb; clear hb hbox hg; have k9 := bR.out; have ma := bS.out; obtain ⟨mb, mc, md, mf⟩ := c4e bh; obtain ⟨mg, mh, mi, mj⟩ := z4_ bh; obtain ⟨ml, mm, mn, mo⟩ := c4e bv; obtain ⟨mq, mr, ms, mt⟩ := z4_ bv))
  go_ret
  exact ⟨er_, nbe HB⟩

/-! ### laws_eqWord: function 41 -/
def laws_eqWord.f (a0_0 : Int) (a0_1 : Bool) (a0_2 : Int) (a0_3 : Int) (a0_4 : Int) (a0_5 : Int) (a1_0 : Int) (a1_1 : Bool) (a1_2 : Int) (a1_3 : Int) (a1_4 : Int) (a1_5 : Int) : Option (Bool) := if a0_0 = a1_0 then (if (a0_1 != a1_1) = true then (some false) else ((laws_eqKey.f a0_2 a0_3 a0_4 a0_5 a1_2 a1_3 a1_4 a1_5).bind fun df => (if df = true then (some true) else (some false)))) else (some false)
set_option maxHeartbeats 8000000 in
set_option maxRecDepth 100000 in
theorem laws_eqWord.calls (a0_0 : Int) (a0_1 : Bool) (a0_2 : Int) (a0_3 : Int) (a0_4 : Int) (a0_5 : Int) (a1_0 : Int) (a1_1 : Bool) (a1_2 : Int) (a1_3 : Int) (a1_4 : Int) (a1_5 : Int) (r : Bool) (w : World) (h : laws_eqWord.f a0_0 a0_1 a0_2 a0_3 a0_4 a0_5 a1_0 a1_1 a1_2 a1_3 a1_4 a1_5 = some r) :
  Calls Try.prog 41 #[.agg #[.int .i64 a0_0, .bool a0_1, .int .i64 a0_2, .int .i64 a0_3, .int .i64 a0_4, .int .i64 a0_5], .agg #[.int .i64 a1_0, .bool a1_1, .int .i64 a1_2, .int .i64 a1_3, .int .i64 a1_4, .int .i64 a1_5]] w fun e w' => e = .returned (.bool r) ∧ Below w.heap.size w w' := by
 have hu39 := Try.underlying39; have hu37 := Try.underlying37; have HB := Aside0.mk (Below.refl w.heap.size w); have H : (if a0_0 = a1_0 then (if (a0_1 != a1_1) = true then (some false) else ((laws_eqKey.f a0_2 a0_3 a0_4 a0_5 a1_2 a1_3 a1_4 a1_5).bind fun df => (if df = true then (some true) else (some false)))) else (some false)) = some r := h; clear h
 by_cases c3 : a0_0 = a1_0
 ·rw [if_pos c3] at H
  have c3b0 : (a0_0 == a1_0) = true := beq_iff_eq.mpr c3; have c3b1 : (a0_0 != a1_0) = false := bne_eq_false_iff_eq.mpr c3; clear c3
  by_cases c4 : (a0_1 != a1_1) = true
  ·rw [if_pos c4] at H
   have c4b0 : (a0_1 != a1_1) = true := c4; (try (have c4b1 : decide (a0_1 = a1_1) = false := by simpa using c4)); (try (have c4b2 : (a0_1 == a1_1) = false := by simpa using c4)); (try (have c4b3 : ¬ (a0_1 = a1_1) := by simpa using c4)); clear c4; obtain rfl := Option.some.inj H
   go_enter Try.func41, Try.ntmps41
   go_wp2_with (first | ((with_reducible refine gate_dst (N := 2) rfl ?_); refine bxe 2 #[.int .i64 a0_0, .bool a0_1, .int .i64 a0_2, .int .i64 a0_3, .int .i64 a0_4, .int .i64 a0_5] 39 ?_; intro dZ hg w5 hbox hb; have bi := hbox; have d0 := nge HB hg; have d1 := nge HB hg; replace HB := nbs HB hb; clear hb hbox hg) | ((with_reducible refine gate_dst (N := 3) rfl ?_); refine bxe 3 #[.int .i64 a1_0, .bool a1_1, .int .i64 a1_2, .int .i64 a1_3, .int .i64 a1_4, .int .i64 a1_5] 39 ?_; intro d2 hg w6 hbox hb; have bt := hbox; have d3 := nge HB hg; have d4 := nge HB hg; have dc := nlt bi hg; have dd := ngt bi hg; replace bi := nblk bi hb; replace HB := nbs HB hb; clear hb hbox hg; have mu := dc.out; have mv := dd.out; obtain ⟨mw, mx, mz, mA, mB, mC⟩ := c6e bi; obtain ⟨mD, mE, mF, mG, mH, mI⟩ := z6_ bi; obtain ⟨mJ, mK, mL, mM, mN, mO⟩ := c6e bt; obtain ⟨mP, mQ, mR, mS, mT, mU⟩ := z6_ bt))
   go_ret
   exact ⟨er_, nbe HB⟩
  ·rw [if_neg c4] at H
   have c4b0 : (a0_1 != a1_1) = false := by simpa using c4
   (try (have c4b1 : decide (a0_1 = a1_1) = true := by simpa using c4)); (try (have c4b2 : (a0_1 == a1_1) = true := by simpa using c4)); clear c4; replace H := Option.bind_eq_some_iff.mp H; obtain ⟨df, A100, H⟩ := H; replace H : (if df = true then (some true) else (some false)) = some r := H; have A10 := Aside0.mk A100; clear A100
   by_cases c11 : df = true
   ·subst c11
    have H1 : (some true) = some r := by rw [if_pos rfl] at H; exact H
    clear H; have H := H1; clear H1; obtain rfl := Option.some.inj H
    go_enter Try.func41, Try.ntmps41
    go_wp2_with (first | ((with_reducible refine gate_dst (N := 2) rfl ?_); refine bxe 2 #[.int .i64 a0_0, .bool a0_1, .int .i64 a0_2, .int .i64 a0_3, .int .i64 a0_4, .int .i64 a0_5] 39 ?_; intro dZ hg dY hbox hb; have bi := hbox; have d0 := nge HB hg; have d1 := nge HB hg; replace HB := nbs HB hb; clear hb hbox hg) | ((with_reducible refine gate_dst (N := 3) rfl ?_); refine bxe 3 #[.int .i64 a1_0, .bool a1_1, .int .i64 a1_2, .int .i64 a1_3, .int .i64 a1_4, .int .i64 a1_5] 39 ?_; intro d2 hg d8 hbox hb; have bt := hbox; have d3 := nge HB hg; have d4 := nge HB hg; have dc := nlt bi hg; have dd := ngt bi hg; replace bi := nblk bi hb; replace HB := nbs HB hb; clear hb hbox hg; have gG := dc.out; have gH := dd.out; obtain ⟨gI, gJ, gK, gL, mV, mW⟩ := c6e bi; obtain ⟨gM, gN, gO, gP, mX, mY⟩ := z6_ bi; obtain ⟨gQ, gR, gS, gT, mZ, m0⟩ := c6e bt; obtain ⟨gU, gV, gW, gX, m2, m3⟩ := z6_ bt) | ((with_reducible refine gate_callee (f := 46) rfl ?_); refine goesM (some 19) rfl rfl Try.func46 (by kernel_rfl) rfl #[.agg #[.int .i64 a0_2, .int .i64 a0_3, .int .i64 a0_4, .int .i64 a0_5], .agg #[.int .i64 a1_2, .int .i64 a1_3, .int .i64 a1_4, .int .i64 a1_5]] rfl ?_; (with_reducible refine (laws_eqKey.calls a0_2 a0_3 a0_4 a0_5 a1_2 a1_3 a1_4 a1_5 true _ A10.out).mono ?_); rintro e gY ⟨rfl, hb⟩; refine ⟨_, rfl, ?_⟩; replace bi := nblk bi hb; replace bt := nblk bt hb; replace HB := nbs HB hb; (try clear hb)))
    go_ret
    exact ⟨er_, nbe HB⟩
   ·replace c11 := Bool.eq_false_iff.mpr c11
    subst c11; have H1 : (some false) = some r := by rw [if_neg (show ¬ (false = true) by decide)] at H; exact H
    clear H; have H := H1; clear H1; obtain rfl := Option.some.inj H
    go_enter Try.func41, Try.ntmps41
    go_wp2_with (first | ((with_reducible refine gate_dst (N := 2) rfl ?_); refine bxe 2 #[.int .i64 a0_0, .bool a0_1, .int .i64 a0_2, .int .i64 a0_3, .int .i64 a0_4, .int .i64 a0_5] 39 ?_; intro dZ hg gZ hbox hb; have bi := hbox; have d0 := nge HB hg; have d1 := nge HB hg; replace HB := nbs HB hb; clear hb hbox hg) | ((with_reducible refine gate_dst (N := 3) rfl ?_); refine bxe 3 #[.int .i64 a1_0, .bool a1_1, .int .i64 a1_2, .int .i64 a1_3, .int .i64 a1_4, .int .i64 a1_5] 39 ?_; intro d2 hg m4 hbox hb; have bt := hbox; have d3 := nge HB hg; have d4 := nge HB hg; have dc := nlt bi hg; have dd := ngt bi hg; replace bi := nblk bi hb; replace HB := nbs HB hb; clear hb hbox hg; have m5 := dc.out; have m6 := dd.out; obtain ⟨eB, eC, g0, g1, m7, m8⟩ := c6e bi; obtain ⟨eD, eE, g2, g3, m9, na⟩ := z6_ bi; obtain ⟨g8, g9, nc, nf, ng, nh⟩ := c6e bt; obtain ⟨ha, hc, ni, nj, nk, nl⟩ := z6_ bt) | ((with_reducible refine gate_callee (f := 46) rfl ?_); refine goesM (some 19) rfl rfl Try.func46 (by kernel_rfl) rfl #[.agg #[.int .i64 a0_2, .int .i64 a0_3, .int .i64 a0_4, .int .i64 a0_5], .agg #[.int .i64 a1_2, .int .i64 a1_3, .int .i64 a1_4, .int .i64 a1_5]] rfl ?_; (with_reducible refine (laws_eqKey.calls a0_2 a0_3 a0_4 a0_5 a1_2 a1_3 a1_4 a1_5 false _ A10.out).mono ?_); rintro e eF ⟨rfl, hb⟩; refine ⟨_, rfl, ?_⟩; replace bi := nblk bi hb; replace bt := nblk bt hb; replace HB := nbs HB hb; (try clear hb)))
    go_ret
    exact ⟨er_, nbe HB⟩
 ·rw [if_neg c3] at H
  have c3b0 : (a0_0 == a1_0) = false := beq_eq_false_iff_ne.mpr c3; have c3b1 : (a0_0 != a1_0) = true := bne_iff_ne.mpr c3; obtain rfl := Option.some.inj H
  go_enter Try.func41, Try.ntmps41
  go_wp2_with (first | ((with_reducible refine gate_dst (N := 2) rfl ?_); refine bxe 2 #[.int .i64 a0_0, .bool a0_1, .int .i64 a0_2, .int .i64 a0_3, .int .i64 a0_4, .int .i64 a0_5] 39 ?_; intro dZ hg hd hbox hb; have bi := hbox; have d0 := nge HB hg; have d1 := nge HB hg; replace HB := nbs HB hb; clear hb hbox hg) | ((with_reducible refine gate_dst (N := 3) rfl ?_); refine bxe 3 #[.int .i64 a1_0, .bool a1_1, .int .i64 a1_2, .int .i64 a1_3, .int .i64 a1_4, .int .i64 a1_5] 39 ?_; intro d2 hg nm hbox hb; have bt := hbox; have d3 := nge HB hg; have d4 := nge HB hg; have dc := nlt bi hg; have dd := ngt bi hg; replace bi := nblk bi hb; replace HB := nbs HB hb; clear hb hbox hg; have nn := dc.out; have np := dd.out; obtain ⟨eh, ei, nq, nr, ns, nt⟩ := c6e bi; obtain ⟨ej, ek, nu, nv, nw, nx⟩ := z6_ bi; obtain ⟨ny, nz, nA, nB, nC, nD⟩ := c6e bt; obtain ⟨nE, nF, nG, nH, nI, nJ⟩ := z6_ bt))
  go_ret
  exact ⟨er_, nbe HB⟩

/-! ### laws_eqWordS: function 23 -/
def laws_eqWordS.l0 : Nat → List (S39) → List (S39) → Int → Option (Bool)
 | 0, _, _, _ => none
 | k + 1, x0, x1, x5 => if x5 < (x0.length : Int) then (if 0 ≤ x5 then (if x5 < (x1.length : Int) then ((laws_eqWord.f ((rd_T39 x0 x5).f0) ((rd_T39 x0 x5).f1) ((rd_T39 x0 x5).f2.f0) ((rd_T39 x0 x5).f2.f1) ((rd_T39 x0 x5).f2.f2) ((rd_T39 x0 x5).f2.f3) ((rd_T39 x1 x5).f0) ((rd_T39 x1 x5).f1) ((rd_T39 x1 x5).f2.f0) ((rd_T39 x1 x5).f2.f1) ((rd_T39 x1 x5).f2.f2) ((rd_T39 x1 x5).f2.f3)).bind fun dR => (if dR = true then (laws_eqWordS.l0 k x0 x1 (wrap64 (x5 + 1))) else (some false))) else (none)) else (none)) else (some true)
def laws_eqWordS.f (k : Nat) (l0 : List (S39)) (l1 : List (S39)) : Option (Bool) := if (l0.length : Int) = (l1.length : Int) then (laws_eqWordS.l0 k l0 l1 0) else (some false)
theorem laws_eqWordS.mono_l : ∀ k, (∀ y0 y1 y2, LeO (laws_eqWordS.l0 k y0 y1 y2) (laws_eqWordS.l0 (k + 1) y0 y1 y2))
 | 0 => fun _ _ _ r h => by simp [laws_eqWordS.l0] at h
 | k + 1 => by
  have ih0 := laws_eqWordS.mono_l k
  ·intro y0 y1 y2
   unfold laws_eqWordS.l0
   repeat' first
   | (with_reducible exact ih0 _ _ _)
   | (with_reducible exact LeO.refl _)
   | (with_reducible exact LeO.none _)
   | (with_reducible refine LeO.ite ?_ ?_)
   | (with_reducible refine LeO.bind ?_ (fun _ => ?_))
   | exact ih0 _ _ _
   | exact LeO.none _
   | refine LeO.ite ?_ ?_
   | refine LeO.bind ?_ (fun _ => ?_)
theorem laws_eqWordS.mono : ∀ a0 a1 k, LeO (laws_eqWordS.f k a0 a1) (laws_eqWordS.f (k + 1) a0 a1) := by
 intro a0 a1 k; have ih0 := laws_eqWordS.mono_l k
 unfold laws_eqWordS.f
 repeat' first
   | (with_reducible exact ih0 _ _ _)
   | (with_reducible exact LeO.refl _)
   | (with_reducible exact LeO.none _)
   | (with_reducible refine LeO.ite ?_ ?_)
   | (with_reducible refine LeO.bind ?_ (fun _ => ?_))
   | exact ih0 _ _ _
   | exact LeO.none _
   | refine LeO.ite ?_ ?_
   | refine LeO.bind ?_ (fun _ => ?_)
def laws_eqWordS.T6 : Bool × List (List Nat × List Nat) := (true, [([], []), ([], []), ([0, 1], [0, 1]), ([2], [2]), ([], []), ([], []), ([4, 5], [4, 5]), ([6], [6]), ([3, 7], [3, 7]), ([8], [8])])
def laws_eqWordS.B6 : List Nat := [0, 0, 3, 7, 0, 0, 48, 112, 255, 511]
theorem laws_eqWordS.tab6 : rtab .any (opsOf Try.f23 6) = laws_eqWordS.T6 := by kernel_rfl
theorem laws_eqWordS.bits6 : waitsOk laws_eqWordS.T6.2 laws_eqWordS.B6 = true := by kernel_rfl
set_option maxHeartbeats 8000000 in
set_option maxRecDepth 100000 in
theorem laws_eqWordS.calls (k : Nat) (A0 : Option Addr) (c0 : Nat) (l0 : List (S39)) (A1 : Option Addr) (c1 : Nat) (l1 : List (S39)) (r : Bool) (w : World) (hr0 : Kd.C k39 w A0 l0.length l0) (hc0 : l0.length ≤ c0) (hr1 : Kd.C k39 w A1 l1.length l1) (hc1 : l1.length ≤ c1) (h : laws_eqWordS.f k l0 l1 = some r) :
  Calls Try.prog 23 #[.slice A0 l0.length c0, .slice A1 l1.length c1] w fun e w' => e = .returned (.bool r) ∧ Below w.heap.size w w' := by
 have hu39 := Try.underlying39; have dC := Aside0.mk hr0; have hf := Aside0.mk hc0; clear hr0 hc0; have dD := Aside0.mk hr1; have hh := Aside0.mk hc1; clear hr1 hc1; have HB := Aside0.mk (Below.refl w.heap.size w); have H : (if (l0.length : Int) = (l1.length : Int) then (laws_eqWordS.l0 k l0 l1 0) else (some false)) = some r := h; clear h
 by_cases c3 : (l0.length : Int) = (l1.length : Int)
 ·rw [if_pos c3] at H
  have c3b0 : ((l0.length : Int) == (l1.length : Int)) = true := beq_iff_eq.mpr c3; have c3b1 : ((l0.length : Int) != (l1.length : Int)) = false := bne_eq_false_iff_eq.mpr c3; have c3b2 : (l0.length == l1.length) = true := by first | simpa using c3 | (simp at c3 ⊢; omega)
  clear c3; have H' := Aside0.mk H; clear H
  go_enter Try.func23, Try.ntmps23
  go_wp2
  go_loopg [5] k (fun kq v5 w' => ∃ (ba : Int), v5 = .int .i64 ba ∧ Aside0 (laws_eqWordS.l0 kq l0 l1 ba = some r) ∧ Aside0 (kq ≤ k) ∧ Aside0 (Below w.heap.size w w'))
  case atStart => exact ⟨(0), (by first | rfl | (simp; done) | (simp [*]; done)), H', ⟨Nat.le_refl _⟩, ⟨nbe HB⟩⟩
  case round =>
   clear H'; try clear c1
   try clear c2
   try clear p2
   try clear c3
   try clear c3b0
   try clear c3b1
   try clear c3b2
   obtain ⟨ba, rfl, HA, dE, HB⟩ := hrel
   cases gk with
   | zero => exact absurd HA.out (by simp [laws_eqWordS.l0])
   | succ k1 =>
    have H := HA.out; clear HA; simp only [laws_eqWordS.l0] at H
    by_cases c4 : ba < (l0.length : Int)
    ·rw [if_pos c4] at H
     have c4b0 : decide (ba < (l0.length : Int)) = true := decide_eq_true c4; clear c4
     by_cases c5 : 0 ≤ ba
     ·rw [if_pos c5] at H
      have c5b0 : decide (0 ≤ ba) = true := decide_eq_true c5; clear c5
      by_cases c6 : ba < (l1.length : Int)
      ·rw [if_pos c6] at H
       have c6b0 : decide (ba < (l1.length : Int)) = true := decide_eq_true c6; clear c6; replace H := Option.bind_eq_some_iff.mp H; obtain ⟨dR, A70, H⟩ := H; replace H : (if dR = true then (laws_eqWordS.l0 k1 l0 l1 (wrap64 (ba + 1))) else (some false)) = some r := H; have A7 := Aside0.mk A70; clear A70
       by_cases c8 : dR = true
       ·subst c8
        have H1 : (laws_eqWordS.l0 k1 l0 l1 (wrap64 (ba + 1))) = some r := by rw [if_pos rfl] at H; exact H
        clear H; have H := H1; clear H1; have H' := Aside0.mk H; clear H
        try go_wp2
        replace HB := Aside0.mk (below_drew1 HB.out); have p278 : 0 ≤ (ba : Int) := of_decide_eq_true (by first | (with_reducible assumption) | assumption); have q278 : ba < (l0.length : Int) := of_decide_eq_true (by first | (with_reducible assumption) | assumption); obtain ⟨bp, e278, bC, bD, bE, bF, bG, bH⟩ := at_T39 dC.out ba p278 q278; have bT := bH; have bU := bG; have bV := bF; have bW := bE; have bX := bD; have bY := bC
        cases e278
        replace bC := (HB.out.cell (World.block_lt_of_cell? w _ bC)).trans bC; replace bD := (HB.out.cell (World.block_lt_of_cell? w _ bD)).trans bD; replace bE := (HB.out.cell (World.block_lt_of_cell? w _ bE)).trans bE; replace bF := (HB.out.cell (World.block_lt_of_cell? w _ bF)).trans bF; replace bG := (HB.out.cell (World.block_lt_of_cell? w _ bG)).trans bG; replace bH := (HB.out.cell (World.block_lt_of_cell? w _ bH)).trans bH; replace p278 := eq_true p278; replace q278 := eq_true q278; have p279 : 0 ≤ (ba : Int) := of_decide_eq_true (by first | (with_reducible assumption) | assumption); have q279 : ba < (l1.length : Int) := of_decide_eq_true (by first | (with_reducible assumption) | assumption); obtain ⟨bq, e279, bI, bJ, bK, bL, bM, bN⟩ := at_T39 dD.out ba p279 q279; have bZ := bN; have b0 := bM; have b1 := bL; have b2 := bK; have b3 := bJ; have b4 := bI
        cases e279
        replace bI := (HB.out.cell (World.block_lt_of_cell? w _ bI)).trans bI; replace bJ := (HB.out.cell (World.block_lt_of_cell? w _ bJ)).trans bJ; replace bK := (HB.out.cell (World.block_lt_of_cell? w _ bK)).trans bK; replace bL := (HB.out.cell (World.block_lt_of_cell? w _ bL)).trans bL; replace bM := (HB.out.cell (World.block_lt_of_cell? w _ bM)).trans bM; replace bN := (HB.out.cell (World.block_lt_of_cell? w _ bN)).trans bN; replace p279 := eq_true p279; replace q279 := eq_true q279; refine start_ (n := 10) (S := fun w' => w'.cell? (bp.add ((ba).toNat * 6)) = some (.int .i64 ((rd_T39 l0 ba).f0)) ∧ w'.cell? ⟨(bp.add ((ba).toNat * 6)).block, (bp.add ((ba).toNat * 6)).off + 1, none⟩ = some (.bool ((rd_T39 l0 ba).f1)) ∧ w'.cell? ⟨(bp.add ((ba).toNat * 6)).block, (bp.add ((ba).toNat * 6)).off + 2, none⟩ = some (.int .i64 ((rd_T39 l0 ba).f2.f0)) ∧ w'.cell? ⟨(bp.add ((ba).toNat * 6)).block, (bp.add ((ba).toNat * 6)).off + 3, none⟩ = some (.int .i64 ((rd_T39 l0 ba).f2.f1)) ∧ w'.cell? ⟨(bp.add ((ba).toNat * 6)).block, (bp.add ((ba).toNat * 6)).off + 4, none⟩ = some (.int .i64 ((rd_T39 l0 ba).f2.f2)) ∧ w'.cell? ⟨(bp.add ((ba).toNat * 6)).block, (bp.add ((ba).toNat * 6)).off + 5, none⟩ = some (.int .i64 ((rd_T39 l0 ba).f2.f3)) ∧ w'.cell? (bq.add ((ba).toNat * 6)) = some (.int .i64 ((rd_T39 l1 ba).f0)) ∧ w'.cell? ⟨(bq.add ((ba).toNat * 6)).block, (bq.add ((ba).toNat * 6)).off + 1, none⟩ = some (.bool ((rd_T39 l1 ba).f1)) ∧ w'.cell? ⟨(bq.add ((ba).toNat * 6)).block, (bq.add ((ba).toNat * 6)).off + 2, none⟩ = some (.int .i64 ((rd_T39 l1 ba).f2.f0)) ∧ w'.cell? ⟨(bq.add ((ba).toNat * 6)).block, (bq.add ((ba).toNat * 6)).off + 3, none⟩ = some (.int .i64 ((rd_T39 l1 ba).f2.f1)) ∧ w'.cell? ⟨(bq.add ((ba).toNat * 6)).block, (bq.add ((ba).toNat * 6)).off + 4, none⟩ = some (.int .i64 ((rd_T39 l1 ba).f2.f2)) ∧ w'.cell? ⟨(bq.add ((ba).toNat * 6)).block, (bq.add ((ba).toNat * 6)).off + 5, none⟩ = some (.int .i64 ((rd_T39 l1 ba).f2.f3))) (ds := []) #[false, false, false, false, false, false, false, false, false, false] (by kernel_rfl) rfl rfl ⟨((HB.out.cell (World.block_lt_of_cell? w _ bY)).trans bY), ((HB.out.cell (World.block_lt_of_cell? w _ bX)).trans bX), ((HB.out.cell (World.block_lt_of_cell? w _ bW)).trans bW), ((HB.out.cell (World.block_lt_of_cell? w _ bV)).trans bV), ((HB.out.cell (World.block_lt_of_cell? w _ bU)).trans bU), ((HB.out.cell (World.block_lt_of_cell? w _ bT)).trans bT), ((HB.out.cell (World.block_lt_of_cell? w _ b4)).trans b4), ((HB.out.cell (World.block_lt_of_cell? w _ b3)).trans b3), ((HB.out.cell (World.block_lt_of_cell? w _ b2)).trans b2), ((HB.out.cell (World.block_lt_of_cell? w _ b1)).trans b1), ((HB.out.cell (World.block_lt_of_cell? w _ b0)).trans b0), ((HB.out.cell (World.block_lt_of_cell? w _ bZ)).trans bZ)⟩ (fun hHeld => ?_); refine with_tabW laws_eqWordS.tab6 laws_eqWordS.bits6 (fun HT_ HW_ => ?_); generalize wr.drew = w9 at HB bC bD bE bF bG bH bI bJ bK bL bM bN hHeld ⊢; refine rP HT_.out 0 17 #[true, false, false, false, false, false, false, false, false, false] ?_; refine rP HT_.out 1 18 #[true, true, false, false, false, false, false, false, false, false] ?_; refine rP HT_.out 2 19 #[true, true, true, false, false, false, false, false, false, false] ?_; refine rP HT_.out 4 21 #[true, true, true, false, true, false, false, false, false, false] ?_; refine rP HT_.out 5 22 #[true, true, true, false, true, true, false, false, false, false] ?_; refine rP HT_.out 6 23 #[true, true, true, false, true, true, true, false, false, false] ?_; refine rT HT_.out HW_.out hHeld 3 20 #[true, true, true, true, true, true, true, false, false, false] ?_; refine rT HT_.out HW_.out hHeld 7 24 #[true, true, true, true, true, true, true, true, false, false] ?_; refine one_ (i := 8) (N := some 25) #[true, true, true, true, true, true, true, true, true, false] rfl rfl (one_of HT_.out (by kernel_rfl)) (by decide) (fun K hK => ?_); refine goesR Try.func41 (by kernel_rfl) rfl #[.agg #[.int .i64 ((rd_T39 l0 ba).f0), .bool ((rd_T39 l0 ba).f1), .int .i64 ((rd_T39 l0 ba).f2.f0), .int .i64 ((rd_T39 l0 ba).f2.f1), .int .i64 ((rd_T39 l0 ba).f2.f2), .int .i64 ((rd_T39 l0 ba).f2.f3)], .agg #[.int .i64 ((rd_T39 l1 ba).f0), .bool ((rd_T39 l1 ba).f1), .int .i64 ((rd_T39 l1 ba).f2.f0), .int .i64 ((rd_T39 l1 ba).f2.f1), .int .i64 ((rd_T39 l1 ba).f2.f2), .int .i64 ((rd_T39 l1 ba).f2.f3)]] (by rfl) rfl rfl ?_; (with_reducible refine (laws_eqWord.calls ((rd_T39 l0 ba).f0) ((rd_T39 l0 ba).f1) ((rd_T39 l0 ba).f2.f0) ((rd_T39 l0 ba).f2.f1) ((rd_T39 l0 ba).f2.f2) ((rd_T39 l0 ba).f2.f3) ((rd_T39 l1 ba).f0) ((rd_T39 l1 ba).f1) ((rd_T39 l1 ba).f2.f0) ((rd_T39 l1 ba).f2.f1) ((rd_T39 l1 ba).f2.f2) ((rd_T39 l1 ba).f2.f3) true _ A7.out).mono ?_); rintro e nK ⟨rfl, hb⟩; refine ⟨_, rfl, ?_⟩; replace HB := nbs HB hb; (try clear hb); refine hK.out _ _ ⟨((HB.out.cell (World.block_lt_of_cell? w _ bY)).trans bY), ((HB.out.cell (World.block_lt_of_cell? w _ bX)).trans bX), ((HB.out.cell (World.block_lt_of_cell? w _ bW)).trans bW), ((HB.out.cell (World.block_lt_of_cell? w _ bV)).trans bV), ((HB.out.cell (World.block_lt_of_cell? w _ bU)).trans bU), ((HB.out.cell (World.block_lt_of_cell? w _ bT)).trans bT), ((HB.out.cell (World.block_lt_of_cell? w _ b4)).trans b4), ((HB.out.cell (World.block_lt_of_cell? w _ b3)).trans b3), ((HB.out.cell (World.block_lt_of_cell? w _ b2)).trans b2), ((HB.out.cell (World.block_lt_of_cell? w _ b1)).trans b1), ((HB.out.cell (World.block_lt_of_cell? w _ b0)).trans b0), ((HB.out.cell (World.block_lt_of_cell? w _ bZ)).trans bZ)⟩ (fun hHeld => ?_); clear hK K; refine norm_ (a' := ?_) ?_ ?_; rotate_left
        ·show Act.put _ (some 25) _ = _
         simp only [Act.put, List.setIfInBounds_toArray, List.set_cons_zero, List.set_cons_succ, i64_w, i32_w]; rfl
        refine rP HT_.out 9 26 #[true, true, true, true, true, true, true, true, true, true] ?_; refine done_ (done_of HT_.out (by kernel_rfl)) ?_
        try go_wp2
        go_roundg k1
        case measure => have := dE.out; omega
        case rel => exact ⟨(wrap64 (ba + 1)), (by first | rfl | (simp; done) | (simp [*]; done)), H', ⟨by have := dE.out; omega⟩, ⟨nbe HB⟩⟩
       ·replace c8 := Bool.eq_false_iff.mpr c8
        subst c8; have H1 : (some false) = some r := by rw [if_neg (show ¬ (false = true) by decide)] at H; exact H
        clear H; have H := H1; clear H1; obtain rfl := Option.some.inj H
        try go_wp2
        replace HB := Aside0.mk (below_drew1 HB.out); have p278 : 0 ≤ (ba : Int) := of_decide_eq_true (by first | (with_reducible assumption) | assumption); have q278 : ba < (l0.length : Int) := of_decide_eq_true (by first | (with_reducible assumption) | assumption); obtain ⟨bp, e278, bC, bD, bE, bF, bG, bH⟩ := at_T39 dC.out ba p278 q278; have bT := bH; have bU := bG; have bV := bF; have bW := bE; have bX := bD; have bY := bC
        cases e278
        replace bC := (HB.out.cell (World.block_lt_of_cell? w _ bC)).trans bC; replace bD := (HB.out.cell (World.block_lt_of_cell? w _ bD)).trans bD; replace bE := (HB.out.cell (World.block_lt_of_cell? w _ bE)).trans bE; replace bF := (HB.out.cell (World.block_lt_of_cell? w _ bF)).trans bF; replace bG := (HB.out.cell (World.block_lt_of_cell? w _ bG)).trans bG; replace bH := (HB.out.cell (World.block_lt_of_cell? w _ bH)).trans bH; replace p278 := eq_true p278; replace q278 := eq_true q278; have p279 : 0 ≤ (ba : Int) := of_decide_eq_true (by first | (with_reducible assumption) | assumption); have q279 : ba < (l1.length : Int) := of_decide_eq_true (by first | (with_reducible assumption) | assumption); obtain ⟨bq, e279, bI, bJ, bK, bL, bM, bN⟩ := at_T39 dD.out ba p279 q279; have bZ := bN; have b0 := bM; have b1 := bL; have b2 := bK; have b3 := bJ; have b4 := bI
        cases e279
        replace bI := (HB.out.cell (World.block_lt_of_cell? w _ bI)).trans bI; replace bJ := (HB.out.cell (World.block_lt_of_cell? w _ bJ)).trans bJ; replace bK := (HB.out.cell (World.block_lt_of_cell? w _ bK)).trans bK; replace bL := (HB.out.cell (World.block_lt_of_cell? w _ bL)).trans bL; replace bM := (HB.out.cell (World.block_lt_of_cell? w _ bM)).trans bM; replace bN := (HB.out.cell (World.block_lt_of_cell? w _ bN)).trans bN; replace p279 := eq_true p279; replace q279 := eq_true q279; refine start_ (n := 10) (S := fun w' => w'.cell? (bp.add ((ba).toNat * 6)) = some (.int .i64 ((rd_T39 l0 ba).f0)) ∧ w'.cell? ⟨(bp.add ((ba).toNat * 6)).block, (bp.add ((ba).toNat * 6)).off + 1, none⟩ = some (.bool ((rd_T39 l0 ba).f1)) ∧ w'.cell? ⟨(bp.add ((ba).toNat * 6)).block, (bp.add ((ba).toNat * 6)).off + 2, none⟩ = some (.int .i64 ((rd_T39 l0 ba).f2.f0)) ∧ w'.cell? ⟨(bp.add ((ba).toNat * 6)).block, (bp.add ((ba).toNat * 6)).off + 3, none⟩ = some (.int .i64 ((rd_T39 l0 ba).f2.f1)) ∧ w'.cell? ⟨(bp.add ((ba).toNat * 6)).block, (bp.add ((ba).toNat * 6)).off + 4, none⟩ = some (.int .i64 ((rd_T39 l0 ba).f2.f2)) ∧ w'.cell? ⟨(bp.add ((ba).toNat * 6)).block, (bp.add ((ba).toNat * 6)).off + 5, none⟩ = some (.int .i64 ((rd_T39 l0 ba).f2.f3)) ∧ w'.cell? (bq.add ((ba).toNat * 6)) = some (.int .i64 ((rd_T39 l1 ba).f0)) ∧ w'.cell? ⟨(bq.add ((ba).toNat * 6)).block, (bq.add ((ba).toNat * 6)).off + 1, none⟩ = some (.bool ((rd_T39 l1 ba).f1)) ∧ w'.cell? ⟨(bq.add ((ba).toNat * 6)).block, (bq.add ((ba).toNat * 6)).off + 2, none⟩ = some (.int .i64 ((rd_T39 l1 ba).f2.f0)) ∧ w'.cell? ⟨(bq.add ((ba).toNat * 6)).block, (bq.add ((ba).toNat * 6)).off + 3, none⟩ = some (.int .i64 ((rd_T39 l1 ba).f2.f1)) ∧ w'.cell? ⟨(bq.add ((ba).toNat * 6)).block, (bq.add ((ba).toNat * 6)).off + 4, none⟩ = some (.int .i64 ((rd_T39 l1 ba).f2.f2)) ∧ w'.cell? ⟨(bq.add ((ba).toNat * 6)).block, (bq.add ((ba).toNat * 6)).off + 5, none⟩ = some (.int .i64 ((rd_T39 l1 ba).f2.f3))) (ds := []) #[false, false, false, false, false, false, false, false, false, false] (by kernel_rfl) rfl rfl ⟨((HB.out.cell (World.block_lt_of_cell? w _ bY)).trans bY), ((HB.out.cell (World.block_lt_of_cell? w _ bX)).trans bX), ((HB.out.cell (World.block_lt_of_cell? w _ bW)).trans bW), ((HB.out.cell (World.block_lt_of_cell? w _ bV)).trans bV), ((HB.out.cell (World.block_lt_of_cell? w _ bU)).trans bU), ((HB.out.cell (World.block_lt_of_cell? w _ bT)).trans bT), ((HB.out.cell (World.block_lt_of_cell? w _ b4)).trans b4), ((HB.out.cell (World.block_lt_of_cell? w _ b3)).trans b3), ((HB.out.cell (World.block_lt_of_cell? w _ b2)).trans b2), ((HB.out.cell (World.block_lt_of_cell? w _ b1)).trans b1), ((HB.out.cell (World.block_lt_of_cell? w _ b0)).trans b0), ((HB.out.cell (World.block_lt_of_cell? w _ bZ)).trans bZ)⟩ (fun hHeld => ?_); refine with_tabW laws_eqWordS.tab6 laws_eqWordS.bits6 (fun HT_ HW_ => ?_); generalize wr.drew = nL at HB bC bD bE bF bG bH bI bJ bK bL bM bN hHeld ⊢; refine rP HT_.out 0 17 #[true, false, false, false, false, false, false, false, false, false] ?_; refine rP HT_.out 1 18 #[true, true, false, false, false, false, false, false, false, false] ?_; refine rP HT_.out 2 19 #[true, true, true, false, false, false, false, false, false, false] ?_; refine rP HT_.out 4 21 #[true, true, true, false, true, false, false, false, false, false] ?_; refine rP HT_.out 5 22 #[true, true, true, false, true, true, false, false, false, false] ?_; refine rP HT_.out 6 23 #[true, true, true, false, true, true, true, false, false, false] ?_; refine rT HT_.out HW_.out hHeld 3 20 #[true, true, true, true, true, true, true, false, false, false] ?_; refine rT HT_.out HW_.out hHeld 7 24 #[true, true, true, true, true, true, true, true, false, false] ?_; refine one_ (i := 8) (N := some 25) #[true, true, true, true, true, true, true, true, true, false] rfl rfl (one_of HT_.out (by kernel_rfl)) (by decide) (fun K hK => ?_); refine goesR Try.func41 (by kernel_rfl) rfl #[.agg #[.int .i64 ((rd_T39 l0 ba).f0), .bool ((rd_T39 l0 ba).f1), .int .i64 ((rd_T39 l0 ba).f2.f0), .int .i64 ((rd_T39 l0 ba).f2.f1), .int .i64 ((rd_T39 l0 ba).f2.f2), .int .i64 ((rd_T39 l0 ba).f2.f3)], .agg #[.int .i64 ((rd_T39 l1 ba).f0), .bool ((rd_T39 l1 ba).f1), .int .i64 ((rd_T39 l1 ba).f2.f0), .int .i64 ((rd_T39 l1 ba).f2.f1), .int .i64 ((rd_T39 l1 ba).f2.f2), .int .i64 ((rd_T39 l1 ba).f2.f3)]] (by rfl) rfl rfl ?_; (with_reducible refine (laws_eqWord.calls ((rd_T39 l0 ba).f0) ((rd_T39 l0 ba).f1) ((rd_T39 l0 ba).f2.f0) ((rd_T39 l0 ba).f2.f1) ((rd_T39 l0 ba).f2.f2) ((rd_T39 l0 ba).f2.f3) ((rd_T39 l1 ba).f0) ((rd_T39 l1 ba).f1) ((rd_T39 l1 ba).f2.f0) ((rd_T39 l1 ba).f2.f1) ((rd_T39 l1 ba).f2.f2) ((rd_T39 l1 ba).f2.f3) false _ A7.out).mono ?_); rintro e dY ⟨rfl, hb⟩; refine ⟨_, rfl, ?_⟩; replace HB := nbs HB hb; (try clear hb); refine hK.out _ _ ⟨((HB.out.cell (World.block_lt_of_cell? w _ bY)).trans bY), ((HB.out.cell (World.block_lt_of_cell? w _ bX)).trans bX), ((HB.out.cell (World.block_lt_of_cell? w _ bW)).trans bW), ((HB.out.cell (World.block_lt_of_cell? w _ bV)).trans bV), ((HB.out.cell (World.block_lt_of_cell? w _ bU)).trans bU), ((HB.out.cell (World.block_lt_of_cell? w _ bT)).trans bT), ((HB.out.cell (World.block_lt_of_cell? w _ b4)).trans b4), ((HB.out.cell (World.block_lt_of_cell? w _ b3)).trans b3), ((HB.out.cell (World.block_lt_of_cell? w _ b2)).trans b2), ((HB.out.cell (World.block_lt_of_cell? w _ b1)).trans b1), ((HB.out.cell (World.block_lt_of_cell? w _ b0)).trans b0), ((HB.out.cell (World.block_lt_of_cell? w _ bZ)).trans bZ)⟩ (fun hHeld => ?_); clear hK K; refine norm_ (a' := ?_) ?_ ?_; rotate_left
        ·show Act.put _ (some 25) _ = _
         simp only [Act.put, List.setIfInBounds_toArray, List.set_cons_zero, List.set_cons_succ, i64_w, i32_w]; rfl
        refine rP HT_.out 9 26 #[true, true, true, true, true, true, true, true, true, true] ?_; refine done_ (done_of HT_.out (by kernel_rfl)) ?_
        try go_wp2
        go_ret
        exact ⟨er_, nbe HB⟩
      ·rw [if_neg c6] at H
       exact absurd H (by simp)
     ·rw [if_neg c5] at H
      exact absurd H (by simp)
    ·rw [if_neg c4] at H
     have c4b0 : decide (ba < (l0.length : Int)) = false := decide_eq_false c4; clear c4; obtain rfl := Option.some.inj H; go_wp2
     go_ret
     exact ⟨er_, nbe HB⟩
 ·rw [if_neg c3] at H
  have c3b0 : ((l0.length : Int) == (l1.length : Int)) = false := beq_eq_false_iff_ne.mpr c3; have c3b1 : ((l0.length : Int) != (l1.length : Int)) = true := bne_iff_ne.mpr c3; have c3b2 : (l0.length == l1.length) = false := by first | simpa using c3 | (simp at c3 ⊢; omega)
  obtain rfl := Option.some.inj H
  go_enter Try.func23, Try.ntmps23
  go_wp2
  go_ret
  exact ⟨er_, nbe HB⟩

/-! ### laws_eqBoolS: function 24 -/
def laws_eqBoolS.l0 : Nat → List Bool → List Bool → Int → Option (Bool)
 | 0, _, _, _ => none
 | k + 1, x0, x1, x5 => if x5 < (x0.length : Int) then (if 0 ≤ x5 then (if x5 < (x1.length : Int) then (if ((rdOf false x0 x5) != (rdOf false x1 x5)) = true then (some false) else (laws_eqBoolS.l0 k x0 x1 (wrap64 (x5 + 1)))) else (none)) else (none)) else (some true)
def laws_eqBoolS.f (k : Nat) (l0 : List Bool) (l1 : List Bool) : Option (Bool) := if (l0.length : Int) = (l1.length : Int) then (laws_eqBoolS.l0 k l0 l1 0) else (some false)
theorem laws_eqBoolS.mono_l : ∀ k, (∀ y0 y1 y2, LeO (laws_eqBoolS.l0 k y0 y1 y2) (laws_eqBoolS.l0 (k + 1) y0 y1 y2))
 | 0 => fun _ _ _ r h => by simp [laws_eqBoolS.l0] at h
 | k + 1 => by
  have ih0 := laws_eqBoolS.mono_l k
  ·intro y0 y1 y2
   unfold laws_eqBoolS.l0
   repeat' first
   | (with_reducible exact ih0 _ _ _)
   | (with_reducible exact LeO.refl _)
   | (with_reducible exact LeO.none _)
   | (with_reducible refine LeO.ite ?_ ?_)
   | (with_reducible refine LeO.bind ?_ (fun _ => ?_))
   | exact ih0 _ _ _
   | exact LeO.none _
   | refine LeO.ite ?_ ?_
   | refine LeO.bind ?_ (fun _ => ?_)
theorem laws_eqBoolS.mono : ∀ a0 a1 k, LeO (laws_eqBoolS.f k a0 a1) (laws_eqBoolS.f (k + 1) a0 a1) := by
 intro a0 a1 k; have ih0 := laws_eqBoolS.mono_l k
 unfold laws_eqBoolS.f
 repeat' first
   | (with_reducible exact ih0 _ _ _)
   | (with_reducible exact LeO.refl _)
   | (with_reducible exact LeO.none _)
   | (with_reducible refine LeO.ite ?_ ?_)
   | (with_reducible refine LeO.bind ?_ (fun _ => ?_))
   | exact ih0 _ _ _
   | exact LeO.none _
   | refine LeO.ite ?_ ?_
   | refine LeO.bind ?_ (fun _ => ?_)
set_option maxHeartbeats 8000000 in
set_option maxRecDepth 100000 in
theorem laws_eqBoolS.calls (k : Nat) (A0 : Option Addr) (c0 : Nat) (l0 : List Bool) (A1 : Option Addr) (c1 : Nat) (l1 : List Bool) (r : Bool) (w : World) (hr0 : Kd.C Kd.bool w A0 l0.length l0) (hc0 : l0.length ≤ c0) (hr1 : Kd.C Kd.bool w A1 l1.length l1) (hc1 : l1.length ≤ c1) (h : laws_eqBoolS.f k l0 l1 = some r) :
  Calls Try.prog 24 #[.slice A0 l0.length c0, .slice A1 l1.length c1] w fun e w' => e = .returned (.bool r) ∧ Drawn0 w w' := by
 have dC := Aside0.mk hr0; have hf := Aside0.mk hc0; clear hr0 hc0; have dD := Aside0.mk hr1; have hh := Aside0.mk hc1; clear hr1 hc1; have H : (if (l0.length : Int) = (l1.length : Int) then (laws_eqBoolS.l0 k l0 l1 0) else (some false)) = some r := h; clear h
 by_cases c3 : (l0.length : Int) = (l1.length : Int)
 ·rw [if_pos c3] at H
  have c3b0 : ((l0.length : Int) == (l1.length : Int)) = true := beq_iff_eq.mpr c3; have c3b1 : ((l0.length : Int) != (l1.length : Int)) = false := bne_eq_false_iff_eq.mpr c3; have c3b2 : (l0.length == l1.length) = true := by first | simpa using c3 | (simp at c3 ⊢; omega)
  clear c3; have H' := Aside0.mk H; clear H
  go_enter Try.func24, Try.ntmps24
  go_wp2
  repeat (go_quiet (fail); try go_wp2)
  go_loopg [5] k (fun kq v5 w' => ∃ (ba : Int), v5 = .int .i64 ba ∧ Aside0 (laws_eqBoolS.l0 kq l0 l1 ba = some r) ∧ Aside0 (kq ≤ k) ∧ Drawn0 w w')
  case atStart => exact ⟨(0), (by first | rfl | (simp; done) | (simp [*]; done)), H', ⟨Nat.le_refl _⟩, by repeat (first | exact Drawn0.refl _ | apply Drawn0.step)⟩
  case round =>
   clear H'; try clear c1
   try clear c2
   try clear p2
   try clear c3
   try clear c3b0
   try clear c3b1
   try clear c3b2
   obtain ⟨ba, rfl, HA, dE, ⟨m1, rfl⟩⟩ := hrel
   cases gk with
   | zero => exact absurd HA.out (by simp [laws_eqBoolS.l0])
   | succ k1 =>
    have H := HA.out; clear HA; simp only [laws_eqBoolS.l0] at H
    by_cases c4 : ba < (l0.length : Int)
    ·rw [if_pos c4] at H
     have c4b0 : decide (ba < (l0.length : Int)) = true := decide_eq_true c4; clear c4
     by_cases c5 : 0 ≤ ba
     ·rw [if_pos c5] at H
      have c5b0 : decide (0 ≤ ba) = true := decide_eq_true c5; clear c5
      by_cases c6 : ba < (l1.length : Int)
      ·rw [if_pos c6] at H
       have c6b0 : decide (ba < (l1.length : Int)) = true := decide_eq_true c6; clear c6
       by_cases c7 : ((rdOf false l0 ba) != (rdOf false l1 ba)) = true
       ·rw [if_pos c7] at H
        have c7b0 : ((rdOf false l0 ba) != (rdOf false l1 ba)) = true := c7; (try (have c7b1 : decide ((rdOf false l0 ba) = (rdOf false l1 ba)) = false := by simpa using c7)); (try (have c7b2 : ((rdOf false l0 ba) == (rdOf false l1 ba)) = false := by simpa using c7)); (try (have c7b3 : ¬ ((rdOf false l0 ba) = (rdOf false l1 ba)) := by simpa using c7)); clear c7; obtain rfl := Option.some.inj H; have p281 : 0 ≤ (ba : Int) := of_decide_eq_true (by first | (with_reducible assumption) | assumption); have q281 : ba < (l0.length : Int) := of_decide_eq_true (by first | (with_reducible assumption) | assumption); obtain ⟨hj, e281, hl⟩ := Kd.at_bool dC.out ba p281 q281
        cases e281
        replace p281 := eq_true p281; replace q281 := eq_true q281; have p282 : 0 ≤ (ba : Int) := of_decide_eq_true (by first | (with_reducible assumption) | assumption); have q282 : ba < (l1.length : Int) := of_decide_eq_true (by first | (with_reducible assumption) | assumption); obtain ⟨hm, e282, hp⟩ := Kd.at_bool dD.out ba p282 q282
        cases e282
        replace p282 := eq_true p282; replace q282 := eq_true q282; go_wp2
        repeat (go_quiet (fail); try go_wp2)
        go_ret
        exact ⟨by first | rfl | (simp; done) | (simp [*]; done), by repeat (first | exact Drawn0.refl _ | apply Drawn0.step)⟩
       ·rw [if_neg c7] at H
        have c7b0 : ((rdOf false l0 ba) != (rdOf false l1 ba)) = false := by simpa using c7
        (try (have c7b1 : decide ((rdOf false l0 ba) = (rdOf false l1 ba)) = true := by simpa using c7)); (try (have c7b2 : ((rdOf false l0 ba) == (rdOf false l1 ba)) = true := by simpa using c7)); clear c7; have H' := Aside0.mk H; clear H; have p281 : 0 ≤ (ba : Int) := of_decide_eq_true (by first | (with_reducible assumption) | assumption); have q281 : ba < (l0.length : Int) := of_decide_eq_true (by first | (with_reducible assumption) | assumption); obtain ⟨hj, e281, hl⟩ := Kd.at_bool dC.out ba p281 q281
        cases e281
        replace p281 := eq_true p281; replace q281 := eq_true q281; have p282 : 0 ≤ (ba : Int) := of_decide_eq_true (by first | (with_reducible assumption) | assumption); have q282 : ba < (l1.length : Int) := of_decide_eq_true (by first | (with_reducible assumption) | assumption); obtain ⟨hm, e282, hp⟩ := Kd.at_bool dD.out ba p282 q282
        cases e282
        replace p282 := eq_true p282; replace q282 := eq_true q282; go_wp2
        repeat (go_quiet (fail); try go_wp2)
        go_roundg k1
        case measure => have := dE.out; omega
        case rel => exact ⟨(wrap64 (ba + 1)), (by first | rfl | (simp; done) | (simp [*]; done)), H', ⟨by have := dE.out; omega⟩, by repeat (first | exact Drawn0.refl _ | apply Drawn0.step)⟩
      ·rw [if_neg c6] at H
       exact absurd H (by simp)
     ·rw [if_neg c5] at H
      exact absurd H (by simp)
    ·rw [if_neg c4] at H
     have c4b0 : decide (ba < (l0.length : Int)) = false := decide_eq_false c4; clear c4; obtain rfl := Option.some.inj H; go_wp2
     repeat (go_quiet (fail); try go_wp2)
     go_ret
     exact ⟨by first | rfl | (simp; done) | (simp [*]; done), by repeat (first | exact Drawn0.refl _ | apply Drawn0.step)⟩
 ·rw [if_neg c3] at H
  have c3b0 : ((l0.length : Int) == (l1.length : Int)) = false := beq_eq_false_iff_ne.mpr c3; have c3b1 : ((l0.length : Int) != (l1.length : Int)) = true := bne_iff_ne.mpr c3; have c3b2 : (l0.length == l1.length) = false := by first | simpa using c3 | (simp at c3 ⊢; omega)
  obtain rfl := Option.some.inj H
  go_enter Try.func24, Try.ntmps24
  go_wp2
  repeat (go_quiet (fail); try go_wp2)
  go_ret
  exact ⟨by first | rfl | (simp; done) | (simp [*]; done), by repeat (first | exact Drawn0.refl _ | apply Drawn0.step)⟩

/-! ### laws_eqMemory: function 9 -/
def laws_eqMemory.f (k : Nat) (l0_0 : List (S39)) (l0_1 : List Bool) (l1_0 : List (S39)) (l1_1 : List Bool) : Option (Bool) := (laws_eqWordS.f k l0_0 l1_0).bind fun dg => (if dg = true then ((laws_eqBoolS.f k l0_1 l1_1).bind fun bO => (if bO = true then (some true) else (some false))) else (some false))
theorem laws_eqMemory.mono : ∀ a0 a1 a2 a3 k, LeO (laws_eqMemory.f k a0 a1 a2 a3) (laws_eqMemory.f (k + 1) a0 a1 a2 a3) := by
 intro a0 a1 a2 a3 k
 unfold laws_eqMemory.f
 repeat' first
   | (with_reducible exact laws_eqBoolS.mono _ _ _)
   | (with_reducible exact laws_eqWordS.mono _ _ _)
   | (with_reducible exact LeO.refl _)
   | (with_reducible exact LeO.none _)
   | (with_reducible refine LeO.ite ?_ ?_)
   | (with_reducible refine LeO.bind ?_ (fun _ => ?_))
   | exact laws_eqBoolS.mono _ _ _
   | exact laws_eqWordS.mono _ _ _
   | exact LeO.none _
   | refine LeO.ite ?_ ?_
   | refine LeO.bind ?_ (fun _ => ?_)
set_option maxHeartbeats 8000000 in
set_option maxRecDepth 100000 in
theorem laws_eqMemory.calls (k : Nat) (A0_0 : Option Addr) (c0_0 : Nat) (l0_0 : List (S39)) (A0_1 : Option Addr) (c0_1 : Nat) (l0_1 : List Bool) (A1_0 : Option Addr) (c1_0 : Nat) (l1_0 : List (S39)) (A1_1 : Option Addr) (c1_1 : Nat) (l1_1 : List Bool) (r : Bool) (w : World) (hr0_0 : Kd.C k39 w A0_0 l0_0.length l0_0) (hc0_0 : l0_0.length ≤ c0_0) (hr0_1 : Kd.C Kd.bool w A0_1 l0_1.length l0_1) (hc0_1 : l0_1.length ≤ c0_1) (hr1_0 : Kd.C k39 w A1_0 l1_0.length l1_0) (hc1_0 : l1_0.length ≤ c1_0) (hr1_1 : Kd.C Kd.bool w A1_1 l1_1.length l1_1) (hc1_1 : l1_1.length ≤ c1_1) (h : laws_eqMemory.f k l0_0 l0_1 l1_0 l1_1 = some r) :
  Calls Try.prog 9 #[.agg #[.slice A0_0 l0_0.length c0_0, .slice A0_1 l0_1.length c0_1], .agg #[.slice A1_0 l1_0.length c1_0, .slice A1_1 l1_1.length c1_1]] w fun e w' => e = .returned (.bool r) ∧ Below w.heap.size w w' := by
 have hu33 := Try.underlying33; have bw := Aside0.mk hr0_0; have bx := Aside0.mk hc0_0; clear hr0_0 hc0_0; have bA := Aside0.mk hr0_1; have bB := Aside0.mk hc0_1; clear hr0_1 hc0_1; have d5 := Aside0.mk hr1_0; have d6 := Aside0.mk hc1_0; clear hr1_0 hc1_0; have eG := Aside0.mk hr1_1; have eH := Aside0.mk hc1_1; clear hr1_1 hc1_1; have HB := Aside0.mk (Below.refl w.heap.size w); have H : ((laws_eqWordS.f k l0_0 l1_0).bind fun dg => (if dg = true then ((laws_eqBoolS.f k l0_1 l1_1).bind fun bO => (if bO = true then (some true) else (some false))) else (some false))) = some r := h; clear h; replace H := Option.bind_eq_some_iff.mp H; obtain ⟨dg, A30, H⟩ := H; replace H : (if dg = true then ((laws_eqBoolS.f k l0_1 l1_1).bind fun bO => (if bO = true then (some true) else (some false))) else (some false)) = some r := H; have A3 := Aside0.mk A30; clear A30
 by_cases c4 : dg = true
 ·subst c4
  have H1 : ((laws_eqBoolS.f k l0_1 l1_1).bind fun bO => (if bO = true then (some true) else (some false))) = some r := by rw [if_pos rfl] at H; exact H
  clear H; have H := H1; clear H1; replace H := Option.bind_eq_some_iff.mp H; obtain ⟨bO, A50, H⟩ := H; replace H : (if bO = true then (some true) else (some false)) = some r := H; have A5 := Aside0.mk A50; clear A50
  by_cases c6 : bO = true
  ·subst c6
   have H1 : (some true) = some r := by rw [if_pos rfl] at H; exact H
   clear H; have H := H1; clear H1; obtain rfl := Option.some.inj H
   go_enter Try.func9, Try.ntmps9
   go_wp2_with (first | ((with_reducible refine gate_dst (N := 2) rfl ?_); refine bxe 2 #[.slice A0_0 l0_0.length c0_0, .slice A0_1 l0_1.length c0_1] 33 ?_; intro eI hg w7 hbox hb; have bj := hbox; have eJ := nge HB hg; have eK := nge HB hg; replace HB := nbs HB hb; clear hb hbox hg) | ((with_reducible refine gate_dst (N := 3) rfl ?_); refine bxe 3 #[.slice A1_0 l1_0.length c1_0, .slice A1_1 l1_1.length c1_1] 33 ?_; intro eL hg w8 hbox hb; have bs := hbox; have eM := nge HB hg; have eN := nge HB hg; have dF := nlt bj hg; have dG := ngt bj hg; replace bj := nblk bj hb; replace HB := nbs HB hb; clear hb hbox hg; have gw := dF.out; have gx := dG.out; obtain ⟨gy, gz⟩ := c2e bj; obtain ⟨gA, gB⟩ := z2_ bj; obtain ⟨gC, gD⟩ := c2e bs; obtain ⟨gE, gF⟩ := z2_ bs) | ((with_reducible refine gate_callee (f := 23) rfl ?_); refine goesM (some 9) rfl rfl Try.func23 (by kernel_rfl) rfl #[.slice A0_0 l0_0.length c0_0, .slice A1_0 l1_0.length c1_0] rfl ?_; (with_reducible refine (laws_eqWordS.calls k _ _ l0_0 _ _ l1_0 true _ ?side1 ?side2 ?side3 ?side4 A3.out).mono ?_); (case side1 => exact nCb bw HB); (case side2 => exact bx.out); (case side3 => exact nCb d5 HB); (case side4 => exact d6.out); rintro e dY ⟨rfl, hb⟩; refine ⟨_, rfl, ?_⟩; replace bj := nblk bj hb; replace bs := nblk bs hb; replace HB := nbs HB hb; (try clear hb); obtain ⟨nM, nN⟩ := c2e bj; obtain ⟨nO, nP⟩ := z2_ bj; obtain ⟨nQ, nS⟩ := c2e bs; obtain ⟨nT, nU⟩ := z2_ bs) | ((with_reducible refine gate_callee (f := 24) rfl ?_); refine goesM (some 15) rfl rfl Try.func24 (by kernel_rfl) rfl #[.slice A0_1 l0_1.length c0_1, .slice A1_1 l1_1.length c1_1] rfl ?_; (with_reducible refine (laws_eqBoolS.calls k _ _ l0_1 _ _ l1_1 true _ ?side1 ?side2 ?side3 ?side4 A5.out).mono ?_); (case side1 => exact nCb bA HB); (case side2 => exact bB.out); (case side3 => exact nCb eG HB); (case side4 => exact eH.out); rintro e w' ⟨rfl, ⟨nd, rfl⟩⟩; refine ⟨_, rfl, ?_⟩))
   go_ret
   exact ⟨er_, nbe HB⟩
  ·replace c6 := Bool.eq_false_iff.mpr c6
   subst c6; have H1 : (some false) = some r := by rw [if_neg (show ¬ (false = true) by decide)] at H; exact H
   clear H; have H := H1; clear H1; obtain rfl := Option.some.inj H
   go_enter Try.func9, Try.ntmps9
   go_wp2_with (first | ((with_reducible refine gate_dst (N := 2) rfl ?_); refine bxe 2 #[.slice A0_0 l0_0.length c0_0, .slice A0_1 l0_1.length c0_1] 33 ?_; intro eI hg eP hbox hb; have bj := hbox; have eJ := nge HB hg; have eK := nge HB hg; replace HB := nbs HB hb; clear hb hbox hg) | ((with_reducible refine gate_dst (N := 3) rfl ?_); refine bxe 3 #[.slice A1_0 l1_0.length c1_0, .slice A1_1 l1_1.length c1_1] 33 ?_; intro eL hg eQ hbox hb; have bs := hbox; have eM := nge HB hg; have eN := nge HB hg; have dF := nlt bj hg; have dG := ngt bj hg; replace bj := nblk bj hb; replace HB := nbs HB hb; clear hb hbox hg; have eR := dF.out; have eS := dG.out; obtain ⟨nV, nW⟩ := c2e bj; obtain ⟨nX, nY⟩ := z2_ bj; obtain ⟨nZ, n0⟩ := c2e bs; obtain ⟨n1, n2⟩ := z2_ bs) | ((with_reducible refine gate_callee (f := 23) rfl ?_); refine goesM (some 9) rfl rfl Try.func23 (by kernel_rfl) rfl #[.slice A0_0 l0_0.length c0_0, .slice A1_0 l1_0.length c1_0] rfl ?_; (with_reducible refine (laws_eqWordS.calls k _ _ l0_0 _ _ l1_0 true _ ?side1 ?side2 ?side3 ?side4 A3.out).mono ?_); (case side1 => exact nCb bw HB); (case side2 => exact bx.out); (case side3 => exact nCb d5 HB); (case side4 => exact d6.out); rintro e n3 ⟨rfl, hb⟩; refine ⟨_, rfl, ?_⟩; replace bj := nblk bj hb; replace bs := nblk bs hb; replace HB := nbs HB hb; (try clear hb); obtain ⟨eB, eC⟩ := c2e bj; obtain ⟨eD, eE⟩ := z2_ bj; obtain ⟨g8, g9⟩ := c2e bs; obtain ⟨ha, hc⟩ := z2_ bs) | ((with_reducible refine gate_callee (f := 24) rfl ?_); refine goesM (some 15) rfl rfl Try.func24 (by kernel_rfl) rfl #[.slice A0_1 l0_1.length c0_1, .slice A1_1 l1_1.length c1_1] rfl ?_; (with_reducible refine (laws_eqBoolS.calls k _ _ l0_1 _ _ l1_1 false _ ?side1 ?side2 ?side3 ?side4 A5.out).mono ?_); (case side1 => exact nCb bA HB); (case side2 => exact bB.out); (case side3 => exact nCb eG HB); (case side4 => exact eH.out); rintro e w' ⟨rfl, ⟨nd, rfl⟩⟩; refine ⟨_, rfl, ?_⟩))
   go_ret
   exact ⟨er_, nbe HB⟩
 ·replace c4 := Bool.eq_false_iff.mpr c4
  subst c4; have H1 : (some false) = some r := by rw [if_neg (show ¬ (false = true) by decide)] at H; exact H
  clear H; have H := H1; clear H1; obtain rfl := Option.some.inj H
  go_enter Try.func9, Try.ntmps9
  go_wp2_with (first | ((with_reducible refine gate_dst (N := 2) rfl ?_); refine bxe 2 #[.slice A0_0 l0_0.length c0_0, .slice A0_1 l0_1.length c0_1] 33 ?_; intro eI hg eF hbox hb; have bj := hbox; have eJ := nge HB hg; have eK := nge HB hg; replace HB := nbs HB hb; clear hb hbox hg) | ((with_reducible refine gate_dst (N := 3) rfl ?_); refine bxe 3 #[.slice A1_0 l1_0.length c1_0, .slice A1_1 l1_1.length c1_1] 33 ?_; intro eL hg hd hbox hb; have bs := hbox; have eM := nge HB hg; have eN := nge HB hg; have dF := nlt bj hg; have dG := ngt bj hg; replace bj := nblk bj hb; replace HB := nbs HB hb; clear hb hbox hg; have n4 := dF.out; have n5 := dG.out; obtain ⟨g4, g5⟩ := c2e bj; obtain ⟨g6, g7⟩ := z2_ bj; obtain ⟨eh, ei⟩ := c2e bs; obtain ⟨ej, ek⟩ := z2_ bs) | ((with_reducible refine gate_callee (f := 23) rfl ?_); refine goesM (some 9) rfl rfl Try.func23 (by kernel_rfl) rfl #[.slice A0_0 l0_0.length c0_0, .slice A1_0 l1_0.length c1_0] rfl ?_; (with_reducible refine (laws_eqWordS.calls k _ _ l0_0 _ _ l1_0 false _ ?side1 ?side2 ?side3 ?side4 A3.out).mono ?_); (case side1 => exact nCb bw HB); (case side2 => exact bx.out); (case side3 => exact nCb d5 HB); (case side4 => exact d6.out); rintro e el ⟨rfl, hb⟩; refine ⟨_, rfl, ?_⟩; replace bj := nblk bj hb; replace bs := nblk bs hb; replace HB := nbs HB hb; (try clear hb)))
  go_ret
  exact ⟨er_, nbe HB⟩

end Go.Proofs.Ytbpalnplcgmjjaa.PFnExactWrite
