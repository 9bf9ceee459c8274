/- The law's walk. -/
import Derived.Test.YtpcladboobfkhaaPFnWorkx1
import Derived.Test.YtpcladboobfkhaaPFnWorkx3
import Derived.Test.YtpcladboobfkhaaPFnWorkx33
import Derived.Test.YtpcladboobfkhaaPFnWorkx50
import Derived.Test.YtpcladboobfkhaaPFnWorkx53
import Derived.Test.YtpcladboobfkhaaPFnWorkx54
namespace Go.Proofs.Ytpcladboobfkhaa.PFnWork
open Go.Proofs.Ytpcladboobfkhaa.Pure hiding stM
open Go.RowKit Go.Proofs.YtpcladboobfkhaaW.PrintWords Go.Proofs.YtpcladboobfkhaaW.PrintLast Go.Proofs.YtpcladboobfkhaaW.PrintMore Go.Proofs.YtpcladboobfkhaaW.Mine
attribute [local go_sem] dsc dhs dha ddr ddrN ddz ddc nn2 nn3 nn4 nn5 nn6 nn7 nn8 nn9
attribute [local go_sem] max2_int min2_int max_two min_two max_three min_three max_four min_four
set_option linter.unusedVariables false
set_option linter.unusedSimpArgs false
def laws_FnWork.T5 : Bool × List (List Nat × List Nat) := (true, [([], []), ([], []), ([], []), ([], []), ([], []), ([], []), ([1, 2, 3, 4, 5], [1, 2, 3, 4, 5]), ([0, 6], [0, 6])])
def laws_FnWork.B5 : List Nat := [0, 0, 0, 0, 0, 0, 62, 127]
theorem laws_FnWork.tab5 : rtab .any (opsOf Try.f3 5) = laws_FnWork.T5 := by kernel_rfl
theorem laws_FnWork.bits5 : waitsOk laws_FnWork.T5.2 laws_FnWork.B5 = true := by kernel_rfl
theorem s4 {A : Option Addr} {c : Nat} {l : List Int} {w : World} {r : Bool} (hr : Kd.C (Kd.int .u8) w A l.length l) (hc : l.length ≤ c) (h : decide ((l.length : Int) > 1048576) = r) : Calls Try.prog 4 #[.slice A l.length c] w fun e w' => e = .returned (.bool r) ∧ Drawn0 w w' :=
  laws_big.calls A c l r w hr hc (by unfold laws_big.f; rw [h])
theorem lit4 {P : Program} {ops : Array Oper} {rest : List Oper} {o : Oper} {a : Act} {W : World} {Q : Exit → Act → World → Prop} {n1 x1 y1 z1 s1 n2 x2 y2 z2 s2 n3 x3 y3 z3 s3 n4 x4 y4 z4 s4 : Int} {b1 b2 b3 b4 : Bool}
    (h : ∀ g cap (xs : List S29) w1, Aside0 (xs = [⟨n1, b1, ⟨x1, y1, z1, s1⟩⟩, ⟨n2, b2, ⟨x2, y2, z2, s2⟩⟩, ⟨n3, b3, ⟨x3, y3, z3, s3⟩⟩, ⟨n4, b4, ⟨x4, y4, z4, s4⟩⟩]) → RG k29 29 w1 g cap xs → W.heap.size ≤ g → 4 ≤ xs.length ∧ xs.length ≤ 4 → Below W.heap.size W w1 → ((∀ g j, g < W.heap.size → w1.cell? ⟨g, j, none⟩ = W.cell? ⟨g, j, none⟩) ∧ (∀ g j, g < W.heap.size → w1.frozen? ⟨g, j, none⟩ = W.frozen? ⟨g, j, none⟩) ∧ (∀ g : Nat, g < W.heap.size → dhp w1 g = dhp W g)) → wpList P ops Q rest (a.put o.dst (.slice (some ⟨g, 0, none⟩) xs.length cap)) w1)
    (N : Tmp) (hd : o.dst = some N := by rfl) (hgd : o.guard = none := by rfl) (hrun : (execOp a.eval o).run P W = .ok (.value (.slice (some ⟨W.heap.size, 0, none⟩) 4 4)) (W.alloc (.cells #[.int .i64 n1, .bool b1, .int .i64 x1, .int .i64 y1, .int .i64 z1, .int .i64 s1, .int .i64 n2, .bool b2, .int .i64 x2, .int .i64 y2, .int .i64 z2, .int .i64 s2, .int .i64 n3, .bool b3, .int .i64 x3, .int .i64 y3, .int .i64 z3, .int .i64 s3, .int .i64 n4, .bool b4, .int .i64 x4, .int .i64 y4, .int .i64 z4, .int .i64 s4] 29 (0, 0))) := by first | (go_simp; done) | (go_simp; rfl)) : wpList P ops Q (o :: rest) a W := by
  refine Kd.R_lit k29 (w0 := W) W.heap.size 29 hgd hd (xs := [⟨n1, b1, ⟨x1, y1, z1, s1⟩⟩, ⟨n2, b2, ⟨x2, y2, z2, s2⟩⟩, ⟨n3, b3, ⟨x3, y3, z3, s3⟩⟩, ⟨n4, b4, ⟨x4, y4, z4, s4⟩⟩]) (inner := [.int .i64 n1, .bool b1, .int .i64 x1, .int .i64 y1, .int .i64 z1, .int .i64 s1, .int .i64 n2, .bool b2, .int .i64 x2, .int .i64 y2, .int .i64 z2, .int .i64 s2, .int .i64 n3, .bool b3, .int .i64 x3, .int .i64 y3, .int .i64 z3, .int .i64 s3, .int .i64 n4, .bool b4, .int .i64 x4, .int .i64 y4, .int .i64 z4, .int .i64 s4]) (ok := fun _ => True) (okp := fun _ => True) hrun (Reps.c6 (k29_mkM _ _ _ (⟨n1, b1, ⟨x1, y1, z1, s1⟩⟩ : S29)) (Reps.c6 (k29_mkM _ _ _ (⟨n2, b2, ⟨x2, y2, z2, s2⟩⟩ : S29)) (Reps.c6 (k29_mkM _ _ _ (⟨n3, b3, ⟨x3, y3, z3, s3⟩⟩ : S29)) (Reps.c6 (k29_mkM _ _ _ (⟨n4, b4, ⟨x4, y4, z4, s4⟩⟩ : S29)) (Reps.none _ _))))) (fun _ hk => hk) trivial (Below.refl _ _) (Nat.le_refl _) (by simp) ?_
  intro v w1 hR hb _ _
  obtain ⟨g, cap, rfl, g0, _, _, r⟩ := RG.of rfl hR (by simp)
  exact h g cap _ w1 ⟨rfl⟩ r g0 ⟨by simp, by simp⟩ hb ⟨fun g j h => hb.cell h, fun g j h => by unfold World.frozen?; rw [hb.block g h], fun g h => hb.block g h⟩
theorem s9 {gl cl : Nat} {L : List S25} {n x y z s q0 q1 q2 q3 q4 tr : Int} {b : Bool} {w : World} (hr : RG k25 25 w gl cl L) (h : Aside0 (impl_Fetch.f (0 + 20) L n b x y z s = some (q0, q1, q2, q3, q4, tr))) : Calls Try.prog 9 #[.slice (some ⟨gl, 0, none⟩) L.length cl, .agg #[.int .i64 n, .bool b, .int .i64 x, .int .i64 y, .int .i64 z, .int .i64 s]] w fun e w' => e = .returned (.tuple #[.agg #[.int .i64 q0, .int .i64 q1, .int .i64 q2, .int .i64 q3, .int .i64 q4], .int .i64 tr]) ∧ Below w.heap.size w w' := impl_Fetch.calls (h := h.out) (hr0 := hr.C.1) (hc0 := hr.C.2)
theorem s10f {gl cl : Nat} {L : List S25} {n x y z s q0 q1 q2 q3 q4 tr : Int} {b : Bool} {w : World} (hr : RG k25 25 w gl cl L) (h : Aside0 (spec_Fetch.f (0 + 20) L n b x y z s = some (q0, q1, q2, q3, q4, tr))) : Calls Try.prog 10 #[.slice (some ⟨gl, 0, none⟩) L.length cl, .agg #[.int .i64 n, .bool b, .int .i64 x, .int .i64 y, .int .i64 z, .int .i64 s]] w fun e w' => e = .returned (.tuple #[.agg #[.int .i64 q0, .int .i64 q1, .int .i64 q2, .int .i64 q3, .int .i64 q4], .int .i64 tr]) ∧ Below w.heap.size w w' := spec_Fetch.calls (h := h.out) (hr0 := hr.C.1) (hc0 := hr.C.2)
theorem s11 (x : S29) {w : World} : Calls Try.prog 11 #[.agg #[.int .i64 x.f0, .bool x.f1, .int .i64 x.f2.f0, .int .i64 x.f2.f1, .int .i64 x.f2.f2, .int .i64 x.f2.f3]] w fun e w' => e = .returned (.bool (wOkT x)) ∧ Below w.heap.size w w' := spec_WordOk.calls (w := w) (h := spec_WordOk_eq 0 ..)
theorem s12 {g cap : Nat} {xs : List S29} {n b t p s : Int} {i : Bool} {w : World} (hr : RG k29 29 w g cap xs) (hl : xs.length ≤ 4) (hu : Aside0 (underM i b t p s xs = true)) : Calls Try.prog 12 #[.agg #[.int .i64 n, .bool i, .int .i64 b, .int .i64 t, .int .i64 p, .int .i64 s], .slice (some ⟨g, 0, none⟩) xs.length cap] w fun e w' => e = .returned (.bool true) ∧ Below w.heap.size w w' := impl_Unders.calls (h := (impl_Unders_eq (xs.length + 10) n i b t p s xs (by omega) (Nat.le_refl _)).trans (congrArg some hu.out)) (hr1 := hr.C.1) (hc1 := hr.C.2)
theorem tk_step (xs : List S29) (i : Nat) (h : i < xs.length) (h1 : (xs.take i).all wOkT = true) (h2 : wOkT (rd_T29 xs i) = true) : (xs.take (i + 1)).all wOkT = true := by
  rw [List.take_succ_eq_append_getElem h, List.all_append, h1, List.all_cons, List.all_nil, Bool.and_true, Bool.true_and]
  unfold rd_T29 at h2; rw [List.getD_eq_getElem?_getD, show ((i : Int)).toNat = i from rfl, List.getElem?_eq_getElem h] at h2; exact h2
theorem bxf33 {W : World} {b : Nat} {cs : Array Value} {t : TypeId} (h : dhp W b = some (.cells cs t (0, 0))) : (∀ j, W.cell? ⟨b, j, none⟩ = cs[j]?) ∧ (∀ j, W.frozen? ⟨b, j, none⟩ = false) ∧ b < W.heap.size := ⟨fun j => blk_cell h j, fun j => blk_frozen h j, blk_lt h⟩
attribute [local go_sem high] eqA25 eqA33
set_option maxHeartbeats 8000000 in
set_option maxRecDepth 100000 in
theorem laws_FnWork.safe {A : Option Addr} {c : Nat} {l : List Int} {w : World} (hr : Kd.C (Kd.int .u8) w A l.length l) (hc : l.length ≤ c) (hl : l.length ≤ maxLen) :
    Calls Try.prog 3 #[.slice A l.length c] w fun e w' => e = .returned (.bool true) ∧ Below w.heap.size w w' := by
 have hu29 := Try.underlying29; have hu25 := Try.underlying25; have hu33 := Try.underlying33; have hu27 := Try.underlying27
 have hr0 := hr; replace hr := Aside0.mk hr; clear hr0
 by_cases hb : (l.length : Int) > 1048576
 · replace hb := Aside0.mk (decide_eq_true hb)
   go_enter Try.func3, Try.ntmps3
   go_wp2_with (first
    | (go_at_call 4; (with_reducible refine (s4 hr.out hc hb.out).mono ?_); rintro e w' ⟨rfl, ⟨nd_, rfl⟩⟩))
   go_ret
   exact ⟨rfl, dBe⟩
 replace hb := Aside0.mk (decide_eq_false hb)
 go_enter Try.func3, Try.ntmps3
 go_wp2_with (first
  | (go_at_call 4; (with_reducible refine (s4 hr.out hc hb.out).mono ?_); rintro e w' ⟨rfl, ⟨nd_, rfl⟩⟩)
  | (go_at_call 5; (with_reducible refine dmv (spec_DrawWork.safe (Kd.C_below hr.out dBe) hc hl) ?_); rintro _ x1 ⟨_, _, _, _, _, rfl, ⟨p0, p1, p2, p3, p4, rfl⟩, ⟨a0, a1, a2, a3, a4, a5, rfl⟩, ⟨b0, b1, b2, b3, b4, b5, rfl⟩, ⟨c0, c1, c2, c3, c4, c5, rfl⟩, ⟨d0, d1, d2, d3, d4, d5, rfl⟩⟩ hb1 hd; have hx := hb1.size; simp only [World.heap_drewN] at hx; obtain ⟨⟨f0, f1, f2, f3, f4, f5, f6, f7, f8, f9, f10, f11, f12, f13, f14, f15, f16, f17, f18, f19, f20, f21⟩, e1, e2, gv⟩ := work_total 0 p0 p1 p2 p3 p4 a0 a1 a2 a3 a4 a5 b0 b1 b2 b3 b4 b5 c0 c1 c2 c3 c4 c5 d0 d1 d2 d3 d4 d5; replace e1 := Aside0.mk e1; replace e2 := Aside0.mk e2; replace gv := Aside0.mk gv)
  | (go_at_call 6; (with_reducible refine dmn (impl_Work.calls (h := e1.out) (w := _)) ?_); intro x2 hb1 hd; have y1 := dz5 (n := x1.heap.size) hb1.size)
  | ((with_reducible refine gate_store (t := 33) (p := 8) rfl ?_); refine drowx 33 ?_; intro wr_ hx_ hc_; have zw : x2.heap.size + 1 ≤ wr_.heap.size := (by have hq := hc_.2.2.2.1; simp at hq; omega)))
 refine dst 0 none [] (ml [0, 8]) laws_FnWork.tab5 laws_FnWork.bits5 (fun HT_ HW_ hH => ?_)
 refine dT HT_.out HW_.out hH 1 34 (ml [0, 1, 1, 6]) ?_
 refine dT HT_.out HW_.out hH 2 35 (ml [0, 1, 2, 5]) ?_
 refine dT HT_.out HW_.out hH 3 36 (ml [0, 1, 3, 4]) ?_
 refine dT HT_.out HW_.out hH 4 37 (ml [0, 1, 4, 3]) ?_
 refine dT HT_.out HW_.out hH 5 38 (ml [0, 1, 5, 2]) ?_
 refine dTr Try.underlying33 HT_.out HW_.out hH 0 33 (ml [6, 2]) ?_
 refine dC HT_.out 6 (some 39) (ml [7, 1]) Try.func7 #[.agg #[.int .i64 p0, .int .i64 p1, .int .i64 p2, .int .i64 p3, .int .i64 p4], .agg #[.int .i64 a0, .bool a1, .int .i64 a2, .int .i64 a3, .int .i64 a4, .int .i64 a5], .agg #[.int .i64 b0, .bool b1, .int .i64 b2, .int .i64 b3, .int .i64 b4, .int .i64 b5], .agg #[.int .i64 c0, .bool c1, .int .i64 c2, .int .i64 c3, .int .i64 c4, .int .i64 c5], .agg #[.int .i64 d0, .bool d1, .int .i64 d2, .int .i64 d3, .int .i64 d4, .int .i64 d5]] ?_
 (with_reducible refine dmn (spec_Work.calls (h := e2.out) (w := _)) ?_); intro x3 hb1 hd; have y1 := dz5 (n := x1.heap.size) hb1.size; have y2 := dz1 (n := x2.heap.size) hb1.size
 refine ⟨_, rfl, dSB hH, fun hH => dN ?_⟩
 refine rP HT_.out 7 40 (ml [8]) ?_
 refine done_ (done_of HT_.out (by kernel_rfl)) ?_
 go_wp2_with (first
  | (go_at_call 8; (with_reducible refine dmv (spec_DrawFetch.safe (Kd.C_below hr.out dBe) hc hl) ?_); rintro _ x4 ⟨gl, cl, L, n, b, x, y, z, s, rfl, lL, rl, gl0⟩ hb1 hd; have y1 := dz5 (n := x1.heap.size) hb1.size; have y2 := dz1 (n := x2.heap.size) hb1.size; have vl := dz1 (n := gl) rl.lt; obtain ⟨q0, q1, q2, q3, q4, tr, hf⟩ : ∃ q0 q1 q2 q3 q4 tr, fetchM L n b x y z s = (q0, q1, q2, q3, q4, tr) := ⟨_, _, _, _, _, _, rfl⟩; have e3 := Aside0.mk ((impl_Fetch_eq 0 L n b x y z s (by omega)).trans (congrArg some hf)); have e4 := Aside0.mk ((spec_Fetch_eq 0 L n b x y z s (by omega)).trans (congrArg some hf)); rcases Decidable.em (tr = 0) with h0 | h0; subst h0; clear hf; rotate_left; have hz := fetch_zero L n b x y z s (by rw [hf]; exact h0); rw [hf] at hz; dsimp only at hz; obtain ⟨rfl, rfl, rfl, rfl, rfl⟩ := hz; have t0 : (tr == 0) = false := beq_eq_false_iff_ne.mpr h0; have t1 : (tr != 0) = true := bne_iff_ne.mpr h0; clear hf h0)
  | (go_at_call 9; (with_reducible refine dmn (s9 dRG e3) ?_); intro x5 hb1 hd; have y1 := dz5 (n := x1.heap.size) hb1.size; have y2 := dz1 (n := x2.heap.size) hb1.size; have vl := dz1 (n := gl) hb1.size; have y4 := dz1 (n := x4.heap.size) hb1.size)
  | (go_at_call 10; (with_reducible refine dmn (s10f dRG e4) ?_); intro x6 hb1 hd; have y1 := dz5 (n := x1.heap.size) hb1.size; have y2 := dz1 (n := x2.heap.size) hb1.size; have vl := dz1 (n := gl) hb1.size; have y4 := dz1 (n := x4.heap.size) hb1.size; have y5 := dz1 (n := x5.heap.size) hb1.size)
  | ((with_reducible refine gate_dst (N := 79) rfl ?_); refine lit4 ?_ 79; intro g4 cap4 xs x7 hxs r4 g40 l4 hb1 hd; have y1 := dz5 (n := x1.heap.size) hb1.size; have y2 := dz1 (n := x2.heap.size) hb1.size; have v4 := dz1 (n := g4) r4.lt))
 all_goals
  go_loopw [16] (fun v16 w' => ∃ i : Nat, v16 = .int .i64 i ∧ i ≤ xs.length ∧ (xs.take i).all wOkT = true ∧ RG k29 29 w' g4 cap4 xs ∧ dhp w' x2.heap.size = some (.cells #[.int .i64 f0, .int .i64 f1, .int .i64 f2, .bool f3, .int .i64 f4, .int .i64 f5, .int .i64 f6, .int .i64 f7, .int .i64 f8, .bool f9, .int .i64 f10, .int .i64 f11, .int .i64 f12, .int .i64 f13, .int .i64 f14, .int .i64 f15, .bool f16, .int .i64 f17, .int .i64 f18, .int .i64 f19, .int .i64 f20, .int .i64 f21] 33 (0, 0)) ∧ Below w.heap.size w w') (fun v16 _ => (5 - (intOf v16).toNat))
  · exact ⟨0, rfl, by omega, rfl, dRG, (by go_simp), dBe⟩
  · obtain ⟨i, rfl, hi4, hall, r4, c0, hB⟩ := hrel
    have q0 := bxf33 c0
    have z1 := dz1 (n := x2.heap.size) q0.2.2; have v4 := dz1 (n := g4) r4.lt
    replace hall := Aside0.mk hall
    by_cases hlt : (i : Int) < xs.length
    · have hb1 : decide ((i : Int) < xs.length) = true := decide_eq_true hlt
      have ix := dix (i := (i : Int)) (n := xs.length) (by omega) (by omega); have e1 := r4.w6 i (by omega) (by omega); simp only [Int.toNat_natCast] at e1
      rcases hok : wOkT (rd_T29 xs i) with _ | _
      · replace hok := Aside0.mk hok
        go_wp2_with (first
         | (go_at_call 11; (with_reducible refine dmn (s11 (rd_T29 xs i)) ?_); intro x8 hb8 hd; have z1 := dz1 (n := x2.heap.size) hb8.size; have v4 := dz1 (n := g4) hb8.size; rw [hok.out]))
        go_ret
        exact ⟨rfl, dBe⟩
      · replace hok := Aside0.mk hok
        go_wp2_with (first
         | (go_at_call 11; (with_reducible refine dmn (s11 (rd_T29 xs i)) ?_); intro x8 hb8 hd; have z1 := dz1 (n := x2.heap.size) hb8.size; have v4 := dz1 (n := g4) hb8.size; rw [hok.out]))
        go_roundw
        · exact ⟨i + 1, by go_num, by omega, tk_step xs i (by omega) hall.out hok.out, dRG, (by show dhp _ _ = _; go_simp), dBe⟩
        · simp [intOf]; omega
    · have hb0 : decide ((i : Int) < xs.length) = false := decide_eq_false hlt
      have hA : xs.all wOkT = true := (by rw [List.take_of_length_le (by omega)] at hall; exact hall.out)
      have gv' := gv.out (by rw [← hxs.out]; exact hA)
      rw [← hxs.out] at gv'
      obtain ⟨⟨_, u1⟩, ⟨_, u2⟩, ⟨_, u3⟩, u4⟩ := gv'
      replace u1 := Aside0.mk u1; replace u2 := Aside0.mk u2; replace u3 := Aside0.mk u3
      clear e1 e2 gv
      have h0 : f0 = 0 ∨ (f0 ≠ 0 ∧ f1 = -1 ∧ f14 = -1 ∧ f21 = -1) := (by rcases Decidable.em (f0 = 0) with h | h; exact Or.inl h; rcases u4 with h' | h'; exact absurd h' h; exact Or.inr ⟨h, h'⟩)
      clear u4
      rcases h0 with h0 | ⟨h0, rfl, rfl, rfl⟩
      rotate_left
      have t9 : (f0 == 0) = false := beq_eq_false_iff_ne.mpr h0
      rotate_left
      subst h0
      all_goals
       go_wp2_with (first
        | (go_at_call 12; (with_reducible refine dmn (s12 dRG l4.2 u1) ?_); intro x9 hb9 hd; have z1 := dz1 (n := x2.heap.size) hb9.size; have v4 := dz1 (n := g4) hb9.size)
        | (go_at_call 12; (with_reducible refine dmn (s12 dRG l4.2 u2) ?_); intro x10 hb10 hd; have z1 := dz1 (n := x2.heap.size) hb10.size; have v4 := dz1 (n := g4) hb10.size)
        | (go_at_call 12; (with_reducible refine dmn (s12 dRG l4.2 u3) ?_); intro x11 hb11 hd; have z1 := dz1 (n := x2.heap.size) hb11.size; have v4 := dz1 (n := g4) hb11.size))
       go_ret
       exact ⟨rfl, dBe⟩
def laws_FnWork.f (k : Nat) (l0 : List Int) : Option Bool := if l0.length ≤ maxLen then some true else none
theorem laws_FnWork.calls (k : Nat) (A0 : Option Addr) (c0 : Nat) (l0 : List Int) (r : Bool) (w : World) (hr0 : Kd.C (Kd.int .u8) w A0 l0.length l0) (hc0 : l0.length ≤ c0) (h : laws_FnWork.f k l0 = some r) :
  Calls Try.prog 3 #[.slice A0 l0.length c0] w fun e w' => e = .returned (.bool r) ∧ Below w.heap.size w w' := by
 unfold laws_FnWork.f at h
 by_cases hl : l0.length ≤ maxLen
 · rw [if_pos hl] at h; obtain rfl := Option.some.inj h; exact laws_FnWork.safe hr0 hc0 hl
 · rw [if_neg hl] at h; cases h
end Go.Proofs.Ytpcladboobfkhaa.PFnWork
