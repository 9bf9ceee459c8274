-- Written by a program of this session (wip/patch.py turns a copy of the kit's print): the functions that the law reaches, and their walks.
import Derived.Test.YteamcnoabglobaaDoorPFnExactCodeTextx0
import Derived.Test.YteamcnoabglobaaDoorPFnExactCodeTextx2
import Derived.Test.YteamcnoabglobaaDoorCFnExactCodeText
namespace Go.Proofs.YteamcnoabglobaaDoor.PFnExactCodeText
open Go.RowKit Go.Proofs.YteamcnoabglobaaDoorW.PrintWords Go.Proofs.YteamcnoabglobaaDoorW.PrintLast Go.Proofs.YteamcnoabglobaaDoorW.PrintMore Go.Proofs.YteamcnoabglobaaDoorW.Mine
attribute [local go_sem] max2_int min2_int max_two min_two max_three min_three max_four min_four   -- for this text's walks alone
set_option linter.unusedVariables false
set_option linter.unusedSimpArgs false

/-! ### laws_toInsS: function 10 -/
def laws_toInsS.l0 : Nat → List (S23) → List (S25) → Int → Option ((List (S25)))
  | 0, _, _, _ => none
  | k + 1, x0, x3, x4 => if x4 < (x0.length : Int) then (if 0 ≤ x4 then ((laws_toIns.f ((rd_T23 x0 x4).f0) ((rd_T23 x0 x4).f1) ((rd_T23 x0 x4).f2) ((rd_T23 x0 x4).f3) ((rd_T23 x0 x4).f4)).bind fun bu => (if x4 < (x3.length : Int) then (laws_toInsS.l0 k x0 (x3.set (x4 : Int).toNat (⟨bu.1, bu.2.1, bu.2.2.1, bu.2.2.2.1, bu.2.2.2.2⟩ : S25)) (wrap64 (x4 + 1))) else (none))) else (none)) else (some x3)
def laws_toInsS.f (k : Nat) (l0 : List (S23)) : Option ((List (S25))) := if 0 ≤ (l0.length : Int) then (if ((l0.length : Int) : Int).toNat ≤ 7036874417766 then (laws_toInsS.l0 k l0 (List.replicate ((l0.length : Int) : Int).toNat z25) 0) else (none)) else (none)
theorem laws_toInsS.mono_l : ∀ k, (∀ y0 y1 y2, LeO (laws_toInsS.l0 k y0 y1 y2) (laws_toInsS.l0 (k + 1) y0 y1 y2))
  | 0 => fun _ _ _ r h => by simp [laws_toInsS.l0] at h
  | k + 1 => by
    have ih0 := laws_toInsS.mono_l k
    · intro y0 y1 y2
      unfold laws_toInsS.l0
      repeat' first
      | (with_reducible exact ih0 _ _ _)
      | (with_reducible exact LeO.refl _)
      | (with_reducible exact LeO.none _)
      | (with_reducible refine LeO.ite ?_ ?_)
      | (with_reducible refine LeO.bind ?_ (fun _ => ?_))
      | exact ih0 _ _ _
      | exact LeO.none _
      | refine LeO.ite ?_ ?_
      | refine LeO.bind ?_ (fun _ => ?_)
theorem laws_toInsS.mono : ∀ a0 k, LeO (laws_toInsS.f k a0) (laws_toInsS.f (k + 1) a0) := by
  intro a0 k; have ih0 := laws_toInsS.mono_l k
  unfold laws_toInsS.f
  repeat' first
      | (with_reducible exact ih0 _ _ _)
      | (with_reducible exact LeO.refl _)
      | (with_reducible exact LeO.none _)
      | (with_reducible refine LeO.ite ?_ ?_)
      | (with_reducible refine LeO.bind ?_ (fun _ => ?_))
      | exact ih0 _ _ _
      | exact LeO.none _
      | refine LeO.ite ?_ ?_
      | refine LeO.bind ?_ (fun _ => ?_)
set_option maxHeartbeats 8000000 in
set_option maxRecDepth 100000 in
theorem laws_toInsS.calls (k : Nat) (A0 : Option Addr) (c0 : Nat) (l0 : List (S23)) (r : List (S25)) (w : World) (hr0 : Kd.C k23 w A0 l0.length l0) (hc0 : l0.length ≤ c0) (h : laws_toInsS.f k l0 = some r) :
    Calls Tryd.prog 10 #[.slice A0 l0.length c0] w fun e w' => ∃ v0_ : Value, e = .returned (v0_) ∧ Kd.R k25 25 w' w.heap.size (fun _ => True) v0_ r ∧ Below w.heap.size w w' := by
  have hu23 := Tryd.underlying23; have hu25 := Tryd.underlying25; have bo := Aside0.mk hr0; have bD := Aside0.mk hc0; clear hr0 hc0; have HB := Aside0.mk (Below.refl w.heap.size w); have H : (if 0 ≤ (l0.length : Int) then (if ((l0.length : Int) : Int).toNat ≤ 7036874417766 then (laws_toInsS.l0 k l0 (List.replicate ((l0.length : Int) : Int).toNat z25) 0) else (none)) else (none)) = some r := h; clear h
  by_cases c2 : 0 ≤ (l0.length : Int)
  · rw [if_pos c2] at H
    have c2b0 := eq_true c2; have c2b1 : decide (0 ≤ (l0.length : Int)) = true := decide_eq_true c2; clear c2
    by_cases c3 : ((l0.length : Int) : Int).toNat ≤ 7036874417766
    · rw [if_pos c3] at H
      have c3b0 := eq_true c3; have c3b1 : decide (((l0.length : Int) : Int).toNat ≤ 7036874417766) = true := decide_eq_true c3; clear c3; obtain ⟨bR, bv⟩ : ∃ y_ : List (S25), y_ = (List.replicate ((l0.length : Int) : Int).toNat z25) := ⟨_, rfl⟩; replace H : (laws_toInsS.l0 k l0 bR 0) = some r := by first | (rw [bv]; with_reducible exact H) | (have H2_ := (Option.bind_some _ _).symm.trans H; rw [bv]; with_reducible exact H2_) | (have H2_ := (Option.bind_some _ _).symm.trans H; with_reducible exact H2_) | with_reducible exact H | (rw [bv]; exact H) | exact H
      have bS := Aside0.mk bv; clear bv; have H' := Aside0.mk H; clear H
      go_enter Tryd.func10, Tryd.ntmps10
      go_wp2_with (first | ((with_reducible refine gate_dst (N := 7) rfl ?_); refine Kd.R_make k25 _ 25 rfl (N := 7) rfl 31 _ _ rfl (l0.length : Int) rfl rfl Tryd.underlying31 (.agg #[(.int .i64 0), (.int .i64 0), (.int .i64 0), (.int .i64 0), (.int .i64 0)]) 40 info25 rfl (by decide) (by omega) z25 (ok := fun _ => True) (okp := fun _ => True) (k25_mkM _ _ _ z25 ) (fun _ hk => hk) trivial (of_decide_eq_true (by first | (with_reducible assumption) | assumption)) (Nat.le_trans (Nat.mul_le_mul_right _ (of_decide_eq_true (by first | (with_reducible assumption) | assumption) : (l0.length : Int).toNat ≤ 7036874417766)) (by omega)) (Below.refl _ _) (Nat.le_refl _) ?_; intro b0 w4 bw hb hg_ hnew_; clear hg_ hnew_; (first | rw [← bS.out] at bw | (simp only [Int.reduceToNat] at bw; rw [← bS.out] at bw)); have b1 := Aside0.mk (Kd.R_lower bw (bsz HB)); replace HB := nbs HB hb; clear hb bw))
      go_loopg [4] k (fun kq v4 w' => ∃ (bc : List (S25)) (ba : Int), v4 = .int .i64 ba ∧ Aside0 (laws_toInsS.l0 kq l0 bc ba = some r) ∧ Aside0 (kq ≤ k) ∧ Aside0 (Kd.R k25 25 w' w.heap.size (fun _ => True) b0 bc) ∧ Aside0 (Below w.heap.size w w'))
      case atStart => exact ⟨(bR), (0), (by first | rfl | (simp; done) | (simp [*]; done)), H', ⟨Nat.le_refl _⟩, ⟨by (with_reducible repeat (first | apply Kd.R_alloc | apply Kd.R_drewN | apply Kd.R_drew)); exact b1.out⟩, ⟨nbe HB⟩⟩
      case round =>
        clear H'; try clear c1
        try clear c2
        try clear c2b0
        try clear c2b1
        try clear p2
        try clear c3
        try clear c3b0
        try clear c3b1
        obtain ⟨bc, ba, rfl, HA, bx, bh, HB⟩ := hrel
        cases gk with
        | zero => exact absurd HA.out (by simp [laws_toInsS.l0])
        | succ k1 =>
          have H := HA.out; clear HA; simp only [laws_toInsS.l0] at H
          by_cases c6 : ba < (l0.length : Int)
          · rw [if_pos c6] at H
            have c6b0 : decide (ba < (l0.length : Int)) = true := decide_eq_true c6; clear c6
            by_cases c7 : 0 ≤ ba
            · rw [if_pos c7] at H
              have c7b0 : decide (0 ≤ ba) = true := decide_eq_true c7; clear c7; replace H := Option.bind_eq_some_iff.mp H; obtain ⟨⟨bi, bj, bk, bl, bm⟩, A80, H⟩ := H; replace H : (if ba < (bc.length : Int) then (laws_toInsS.l0 k1 l0 (bc.set (ba : Int).toNat (⟨bi, bj, bk, bl, bm⟩ : S25)) (wrap64 (ba + 1))) else (none)) = some r := H; have A8 := Aside0.mk A80; clear A80
              by_cases c9 : ba < (bc.length : Int)
              · rw [if_pos c9] at H
                have c9b0 : decide (ba < (bc.length : Int)) = true := decide_eq_true c9; clear c9; obtain ⟨bE, bz⟩ : ∃ y_ : List (S25), y_ = (bc.set (ba : Int).toNat (⟨bi, bj, bk, bl, bm⟩ : S25)) := ⟨_, rfl⟩; replace H : (laws_toInsS.l0 k1 l0 bE (wrap64 (ba + 1))) = some r := by first | (rw [bz]; with_reducible exact H) | (have H2_ := (Option.bind_some _ _).symm.trans H; rw [bz]; with_reducible exact H2_) | (have H2_ := (Option.bind_some _ _).symm.trans H; with_reducible exact H2_) | with_reducible exact H | (rw [bz]; exact H) | exact H
                have b2 := Aside0.mk bz; clear bz; have H' := Aside0.mk H; clear H; have p147 : 0 ≤ (ba : Int) := of_decide_eq_true (by first | (with_reducible assumption) | assumption); have q147 : ba < (l0.length : Int) := of_decide_eq_true (by first | (with_reducible assumption) | assumption); obtain ⟨dd, e147, bF, bG, bH, bI, bJ⟩ := at_T23 bo.out ba p147 q147
                cases e147
                replace bF := (HB.out.cell (World.block_lt_of_cell? w _ bF)).trans bF; replace bG := (HB.out.cell (World.block_lt_of_cell? w _ bG)).trans bG; replace bH := (HB.out.cell (World.block_lt_of_cell? w _ bH)).trans bH; replace bI := (HB.out.cell (World.block_lt_of_cell? w _ bI)).trans bI; replace bJ := (HB.out.cell (World.block_lt_of_cell? w _ bJ)).trans bJ; replace p147 := eq_true p147; replace q147 := eq_true q147
                go_wp2_with (first | ((with_reducible refine gate_callee (f := 6) rfl ?_); refine goesM (some 20) rfl rfl Tryd.func6 (by kernel_rfl) rfl #[.agg #[.int .i64 ((rd_T23 l0 ba).f0), .int .i64 ((rd_T23 l0 ba).f1), .int .i64 ((rd_T23 l0 ba).f2), .int .i64 ((rd_T23 l0 ba).f3), .int .i64 ((rd_T23 l0 ba).f4)]] rfl ?_; (with_reducible refine (laws_toIns.calls ((rd_T23 l0 ba).f0) ((rd_T23 l0 ba).f1) ((rd_T23 l0 ba).f2) ((rd_T23 l0 ba).f3) ((rd_T23 l0 ba).f4) bi bj bk bl bm _ A8.out).mono ?_); rintro e bf ⟨rfl, hb⟩; refine ⟨_, rfl, ?_⟩; replace bh := nR bh hb; replace HB := nbs HB hb; (try clear hb); have p10 : 0 ≤ (ba : Int) := of_decide_eq_true (by first | (with_reducible assumption) | assumption); have q10 : (ba : Int) < ((bc.length : Int) : Int) := of_decide_eq_true (by first | (with_reducible assumption) | assumption); obtain ⟨bd, bT, bU, bV, gl10, cl10, HG10⟩ := Kd.R_form bh.out (by omega); (first | cases bU | (injection bU with ea_ en_ ec_; (first | subst ea_ | (injection ea_ with ea_; subst ea_)); subst ec_; clear en_)); have bA := Aside0.mk bV; have de := Aside0.mk HG10; clear bV gl10 HG10; obtain ⟨df, b3, bW, bp, bq⟩ := Kd.R_elem bh.out z25 (ba : Int) p10 q10; obtain rfl := k25_openM bW; have dg : bf.cell? ⟨bd, (ba : Int).toNat * 5, none⟩ = some (.int .i64 ((rd_T25 bc ba).f0)) := bp 0 _ rfl; have dh : bf.cell? ⟨bd, (ba : Int).toNat * 5 + 1, none⟩ = some (.int .i64 ((rd_T25 bc ba).f1)) := bp 1 _ rfl; have di : bf.cell? ⟨bd, (ba : Int).toNat * 5 + 2, none⟩ = some (.int .i64 ((rd_T25 bc ba).f2)) := bp 2 _ rfl; have dj : bf.cell? ⟨bd, (ba : Int).toNat * 5 + 3, none⟩ = some (.int .i64 ((rd_T25 bc ba).f3)) := bp 3 _ rfl; have dk : bf.cell? ⟨bd, (ba : Int).toNat * 5 + 4, none⟩ = some (.int .i64 ((rd_T25 bc ba).f4)) := bp 4 _ rfl; have hf10_0 : bf.frozen? ⟨bd, (ba : Int).toNat * 5, none⟩ = false := bq 0; have hf10_1 : bf.frozen? ⟨bd, (ba : Int).toNat * 5 + 1, none⟩ = false := bq 1; have hf10_2 : bf.frozen? ⟨bd, (ba : Int).toNat * 5 + 2, none⟩ = false := bq 2; have hf10_3 : bf.frozen? ⟨bd, (ba : Int).toNat * 5 + 3, none⟩ = false := bq 3; have hf10_4 : bf.frozen? ⟨bd, (ba : Int).toNat * 5 + 4, none⟩ = false := bq 4; clear b3 bp bq bW; replace p10 := eq_true p10; replace q10 := eq_true q10; have bX := Aside0.mk (show Kd.R k25 25 bf w.heap.size (fun _ => True) (.slice (some ⟨bd, 0, none⟩) bc.length bT) bc from (nRo bh)); obtain ⟨dl, bY, bZ, bn, br⟩ := Kd.R_elem bX.out z25 (ba : Int) (of_decide_eq_true (by first | (with_reducible assumption) | assumption)) (by have h_ : (ba : Int) < ((bc.length : Int) : Int) := of_decide_eq_true (by first | (with_reducible assumption) | assumption); first | exact h_ | (have e_ := (Kd.R_reads' bh.out).1; omega) | simpa using h_); obtain rfl := k25_openM bZ; have HP12 := Kd.R_seg bX.out (ba : Int) (of_decide_eq_true (by first | (with_reducible assumption) | assumption)) (by have h_ : (ba : Int) < ((bc.length : Int) : Int) := of_decide_eq_true (by first | (with_reducible assumption) | assumption); first | exact h_ | (have e_ := (Kd.R_reads' bh.out).1; omega) | simpa using h_) (seg := [.int .i64 bi, .int .i64 bj, .int .i64 bk, .int .i64 bl, .int .i64 bm]) (j := 0) bY bn (show 5 ≤ 5 from by decide) (x' := (⟨bi, bj, bk, bl, bm⟩ : S25)) (k25_mkM _ _ _ (⟨bi, bj, bk, bl, bm⟩ : S25) ) (fun _ hk => hk); have b4 := bn 0 _ rfl; (try simp only [show (k25).sz = 5 from rfl, Nat.mul_one, Nat.add_zero] at b4); have hf12_0 := br 0; (try simp only [show (k25).sz = 5 from rfl, Nat.mul_one, Nat.add_zero] at hf12_0); have b5 := bn 1 _ rfl; (try simp only [show (k25).sz = 5 from rfl, Nat.mul_one, Nat.add_zero] at b5); have hf12_1 := br 1; (try simp only [show (k25).sz = 5 from rfl, Nat.mul_one, Nat.add_zero] at hf12_1); have b6 := bn 2 _ rfl; (try simp only [show (k25).sz = 5 from rfl, Nat.mul_one, Nat.add_zero] at b6); have hf12_2 := br 2; (try simp only [show (k25).sz = 5 from rfl, Nat.mul_one, Nat.add_zero] at hf12_2); have b7 := bn 3 _ rfl; (try simp only [show (k25).sz = 5 from rfl, Nat.mul_one, Nat.add_zero] at b7); have hf12_3 := br 3; (try simp only [show (k25).sz = 5 from rfl, Nat.mul_one, Nat.add_zero] at hf12_3); have b8 := bn 4 _ rfl; (try simp only [show (k25).sz = 5 from rfl, Nat.mul_one, Nat.add_zero] at b8); have hf12_4 := br 4; (try simp only [show (k25).sz = 5 from rfl, Nat.mul_one, Nat.add_zero] at hf12_4); clear bY bn br bZ) | ((with_reducible refine gate_store (t := 25) (p := 21) rfl ?_); refine store_event (t := 25) (p := 21) (v := ?vo_w13) (w1 := (((((bf.setCell ⟨bd, (ba : Int).toNat * 5, none⟩ (.int .i64 bi)).setCell ⟨bd, (ba : Int).toNat * 5 + 1, none⟩ (.int .i64 bj)).setCell ⟨bd, (ba : Int).toNat * 5 + 2, none⟩ (.int .i64 bk)).setCell ⟨bd, (ba : Int).toNat * 5 + 3, none⟩ (.int .i64 bl)).setCell ⟨bd, (ba : Int).toNat * 5 + 4, none⟩ (.int .i64 bm))) ?hg ?ho ?hn ?hr ?_; (case ho => rfl); (case hg => rfl); (case hn => rfl); (case hr => first | (go_simp; done) | (go_simp; rfl)); intro bK hw; have hg : bf.grownBy bK (some bd) := (by rw [hw]; exact HP12.2); have hp_ : Kd.R k25 25 bK w.heap.size (fun _ => True) (.slice (some ⟨bd, 0, none⟩) bc.length bT) bE := (by rw [hw, b2.out]; exact HP12.1); clear HP12; replace bh := Aside0.mk (hp_); replace HB := Aside0.mk ((by rw [hw]; exact below_set (below_set (below_set (below_set (below_set (HB.out) bA.out) bA.out) bA.out) bA.out) bA.out : Below w.heap.size w bK)); clear hg hw hp_))
                go_roundg k1
                case measure => have := bx.out; omega
                case rel => exact ⟨(bE), (wrap64 (ba + 1)), (by first | rfl | (simp; done) | (simp [*]; done)), H', ⟨by have := bx.out; omega⟩, ⟨by (with_reducible repeat (first | apply Kd.R_alloc | apply Kd.R_drewN | apply Kd.R_drew)); exact bh.out⟩, ⟨nbe HB⟩⟩
              · rw [if_neg c9] at H
                exact absurd H (by simp)
            · rw [if_neg c7] at H
              exact absurd H (by simp)
          · rw [if_neg c6] at H
            have c6b0 : decide (ba < (l0.length : Int)) = false := decide_eq_false c6; clear c6; obtain rfl := Option.some.inj H; go_wp2
            go_ret
            exact ⟨_, er_, by (with_reducible repeat (first | apply Kd.R_alloc | apply Kd.R_drewN | apply Kd.R_drew)); exact bh.out, nbe HB⟩
    · rw [if_neg c3] at H
      exact absurd H (by simp)
  · rw [if_neg c2] at H
    exact absurd H (by simp)

/-! ### impl_formOf: function 19 -/
mutual
def impl_formOf.j0 : Nat → Int → Bool → Option (ByteArray × Bool)
  | 0, _, _ => none
  | k + 1, x4, x7 => if x7 = true then (some ((⟨#[82, 65, 66]⟩ : ByteArray), true)) else (if x4 = 3 then (impl_formOf.j1 k x4 (x4 == 3)) else (if x4 = 9 then (impl_formOf.j1 k x4 (x4 == 9)) else (impl_formOf.j1 k x4 (x4 == 12))))
def impl_formOf.j1 : Nat → Int → Bool → Option (ByteArray × Bool)
  | 0, _, _ => none
  | k + 1, x4, b9 => if b9 = true then (some ((⟨#[82, 65]⟩ : ByteArray), true)) else (if x4 = 6 then (some ((⟨#[82, 65, 66, 78]⟩ : ByteArray), true)) else (if x4 = 10 then (some ((⟨#[82, 65, 78]⟩ : ByteArray), true)) else (if x4 = 11 then (some ((⟨#[65, 66, 78]⟩ : ByteArray), true)) else (if x4 = 13 then (some ((⟨#[65, 78]⟩ : ByteArray), true)) else (if x4 = 14 then (some ((⟨#[65]⟩ : ByteArray), true)) else (if x4 = 15 then (some ((⟨#[]⟩ : ByteArray), true)) else (some ((⟨#[]⟩ : ByteArray), false))))))))
end
def impl_formOf.f (k : Nat) (a0 : Int) : Option (ByteArray × Bool) := if a0 = 1 then (some ((⟨#[82, 78]⟩ : ByteArray), true)) else (if a0 = 2 then (impl_formOf.j0 k a0 (a0 == 2)) else (if a0 = 4 then (impl_formOf.j0 k a0 (a0 == 4)) else (if a0 = 5 then (impl_formOf.j0 k a0 (a0 == 5)) else (if a0 = 7 then (impl_formOf.j0 k a0 (a0 == 7)) else (impl_formOf.j0 k a0 (a0 == 8))))))
theorem impl_formOf.mono_l : ∀ k, (∀ y0 y1, LeO (impl_formOf.j0 k y0 y1) (impl_formOf.j0 (k + 1) y0 y1)) ∧ (∀ y0 y1, LeO (impl_formOf.j1 k y0 y1) (impl_formOf.j1 (k + 1) y0 y1))
  | 0 => ⟨fun _ _ r h => by simp [impl_formOf.j0] at h, fun _ _ r h => by simp [impl_formOf.j1] at h⟩
  | k + 1 => by
    obtain ⟨ih0, ih1⟩ := impl_formOf.mono_l k; refine ⟨?_, ?_⟩
    · intro y0 y1
      unfold impl_formOf.j0
      repeat' first
      | (with_reducible exact ih0 _ _)
      | (with_reducible exact ih1 _ _)
      | (with_reducible exact LeO.refl _)
      | (with_reducible exact LeO.none _)
      | (with_reducible refine LeO.ite ?_ ?_)
      | (with_reducible refine LeO.bind ?_ (fun _ => ?_))
      | exact ih0 _ _
      | exact ih1 _ _
      | exact LeO.none _
      | refine LeO.ite ?_ ?_
      | refine LeO.bind ?_ (fun _ => ?_)
    · intro y0 y1
      unfold impl_formOf.j1
      repeat' first
      | (with_reducible exact ih0 _ _)
      | (with_reducible exact ih1 _ _)
      | (with_reducible exact LeO.refl _)
      | (with_reducible exact LeO.none _)
      | (with_reducible refine LeO.ite ?_ ?_)
      | (with_reducible refine LeO.bind ?_ (fun _ => ?_))
      | exact ih0 _ _
      | exact ih1 _ _
      | exact LeO.none _
      | refine LeO.ite ?_ ?_
      | refine LeO.bind ?_ (fun _ => ?_)
theorem impl_formOf.mono : ∀ a0 k, LeO (impl_formOf.f k a0) (impl_formOf.f (k + 1) a0) := by
  intro a0 k; obtain ⟨ih0, ih1⟩ := impl_formOf.mono_l k
  unfold impl_formOf.f
  repeat' first
      | (with_reducible exact ih0 _ _)
      | (with_reducible exact ih1 _ _)
      | (with_reducible exact LeO.refl _)
      | (with_reducible exact LeO.none _)
      | (with_reducible refine LeO.ite ?_ ?_)
      | (with_reducible refine LeO.bind ?_ (fun _ => ?_))
      | exact ih0 _ _
      | exact ih1 _ _
      | exact LeO.none _
      | refine LeO.ite ?_ ?_
      | refine LeO.bind ?_ (fun _ => ?_)
set_option maxHeartbeats 8000000 in
set_option maxRecDepth 100000 in
theorem impl_formOf.calls (k : Nat) (a0 : Int) (r1 : ByteArray) (r2 : Bool) (w : World) (h : impl_formOf.f k a0 = some (r1, r2)) :
    Calls Tryd.prog 19 #[.int .i64 a0] w fun e w' => e = .returned (.tuple #[.string r1, .bool r2]) ∧ Drawn0 w w' := by
  have H : (if a0 = 1 then (some ((⟨#[82, 78]⟩ : ByteArray), true)) else (if a0 = 2 then (impl_formOf.j0 k a0 (a0 == 2)) else (if a0 = 4 then (impl_formOf.j0 k a0 (a0 == 4)) else (if a0 = 5 then (impl_formOf.j0 k a0 (a0 == 5)) else (if a0 = 7 then (impl_formOf.j0 k a0 (a0 == 7)) else (impl_formOf.j0 k a0 (a0 == 8))))))) = some (r1, r2) := h; clear h
  by_cases c2 : a0 = 1
  · rw [if_pos c2] at H
    have c2b0 : (a0 == 1) = true := beq_iff_eq.mpr c2; have c2b1 : (a0 != 1) = false := bne_eq_false_iff_eq.mpr c2; clear c2; simp only [Option.some.injEq, Prod.mk.injEq] at H; obtain ⟨rfl, rfl⟩ := H
    go_enter Tryd.func19, Tryd.ntmps19
    go_wp2
    go_ret2
    exact ⟨by first | rfl | (simp; done) | (simp [*]; done), by repeat (first | exact Drawn0.refl _ | apply Drawn0.step)⟩
  · rw [if_neg c2] at H
    have c2b0 : (a0 == 1) = false := beq_eq_false_iff_ne.mpr c2; have c2b1 : (a0 != 1) = true := bne_iff_ne.mpr c2; have bL := Aside0.mk H; clear H
    go_enter Tryd.func19, Tryd.ntmps19
    go_upto_if 7 with (fail)
    go_cut [7] (fun v7 wc => ∃ (kq : Nat) (bB : Bool), v7 = .bool bB ∧ Aside0 (impl_formOf.j0 kq a0 bB = some (r1, r2)) ∧ Aside0 (kq ≤ k) ∧ Drawn0 w wc)
    case first =>
      have H := bL.out; clear bL
      by_cases c4 : a0 = 2
      · rw [if_pos c4] at H
        have c4b0 : (a0 == 2) = true := beq_iff_eq.mpr c4; have c4b1 : (a0 != 2) = false := bne_eq_false_iff_eq.mpr c4; clear c4; (first | rw [c4b0] | (simp only [i64_w, i32_w]; rw [c4b0]) | skip); have H' := Aside0.mk H; clear H; go_wp2
        go_meet
        case rel => exact ⟨_, ((a0 == 2)), (by first | rfl | (simp; done) | (simp [*]; done)), H', ⟨by first | omega | exact Nat.le_refl _⟩, by repeat (first | exact Drawn0.refl _ | apply Drawn0.step)⟩
      · rw [if_neg c4] at H
        have c4b0 : (a0 == 2) = false := beq_eq_false_iff_ne.mpr c4; have c4b1 : (a0 != 2) = true := bne_iff_ne.mpr c4; (first | rw [c4b0] | (simp only [i64_w, i32_w]; rw [c4b0]) | skip)
        by_cases c5 : a0 = 4
        · rw [if_pos c5] at H
          have c5b0 : (a0 == 4) = true := beq_iff_eq.mpr c5; have c5b1 : (a0 != 4) = false := bne_eq_false_iff_eq.mpr c5; clear c5; have H' := Aside0.mk H; clear H; go_wp2
          go_meet
          case rel => exact ⟨_, ((a0 == 4)), (by first | rfl | (simp; done) | (simp [*]; done)), H', ⟨by first | omega | exact Nat.le_refl _⟩, by repeat (first | exact Drawn0.refl _ | apply Drawn0.step)⟩
        · rw [if_neg c5] at H
          have c5b0 : (a0 == 4) = false := beq_eq_false_iff_ne.mpr c5; have c5b1 : (a0 != 4) = true := bne_iff_ne.mpr c5
          by_cases c6 : a0 = 5
          · rw [if_pos c6] at H
            have c6b0 : (a0 == 5) = true := beq_iff_eq.mpr c6; have c6b1 : (a0 != 5) = false := bne_eq_false_iff_eq.mpr c6; clear c6; have H' := Aside0.mk H; clear H; go_wp2
            go_meet
            case rel => exact ⟨_, ((a0 == 5)), (by first | rfl | (simp; done) | (simp [*]; done)), H', ⟨by first | omega | exact Nat.le_refl _⟩, by repeat (first | exact Drawn0.refl _ | apply Drawn0.step)⟩
          · rw [if_neg c6] at H
            have c6b0 : (a0 == 5) = false := beq_eq_false_iff_ne.mpr c6; have c6b1 : (a0 != 5) = true := bne_iff_ne.mpr c6
            by_cases c7 : a0 = 7
            · rw [if_pos c7] at H
              have c7b0 : (a0 == 7) = true := beq_iff_eq.mpr c7; have c7b1 : (a0 != 7) = false := bne_eq_false_iff_eq.mpr c7; clear c7; have H' := Aside0.mk H; clear H; go_wp2
              go_meet
              case rel => exact ⟨_, ((a0 == 7)), (by first | rfl | (simp; done) | (simp [*]; done)), H', ⟨by first | omega | exact Nat.le_refl _⟩, by repeat (first | exact Drawn0.refl _ | apply Drawn0.step)⟩
            · rw [if_neg c7] at H
              have c7b0 : (a0 == 7) = false := beq_eq_false_iff_ne.mpr c7; have c7b1 : (a0 != 7) = true := bne_iff_ne.mpr c7; have H' := Aside0.mk H; clear H; go_wp2
              go_meet
              case rel => exact ⟨_, ((a0 == 8)), (by first | rfl | (simp; done) | (simp [*]; done)), H', ⟨by first | omega | exact Nat.le_refl _⟩, by repeat (first | exact Drawn0.refl _ | apply Drawn0.step)⟩
    case rest =>
      clear bL; try clear c1
      try clear c2
      try clear c2b0
      try clear c2b1
      try clear p2
      try clear c4
      try clear c4b0
      try clear c4b1
      try clear c5
      try clear c5b0
      try clear c5b1
      try clear c6
      try clear c6b0
      try clear c6b1
      try clear c7
      try clear c7b0
      try clear c7b1
      obtain ⟨kq, bB, rfl, HA, bM, ⟨mc2, rfl⟩⟩ := hcut
      cases kq with
      | zero => exact absurd HA.out (by simp [impl_formOf.j0])
      | succ kj2 =>
        have H := HA.out; clear HA; simp only [impl_formOf.j0] at H
        by_cases c8 : bB = true
        · subst c8
          have H1 : (some ((⟨#[82, 65, 66]⟩ : ByteArray), true)) = some (r1, r2) := by rw [if_pos rfl] at H; exact H
          clear H; have H := H1; clear H1; simp only [Option.some.injEq, Prod.mk.injEq] at H; obtain ⟨rfl, rfl⟩ := H; go_wp2
          go_ret2
          exact ⟨by first | rfl | (simp; done) | (simp [*]; done), by repeat (first | exact Drawn0.refl _ | apply Drawn0.step)⟩
        · replace c8 := Bool.eq_false_iff.mpr c8
          subst c8; have H1 : (if a0 = 3 then (impl_formOf.j1 kj2 a0 (a0 == 3)) else (if a0 = 9 then (impl_formOf.j1 kj2 a0 (a0 == 9)) else (impl_formOf.j1 kj2 a0 (a0 == 12)))) = some (r1, r2) := by rw [if_neg (show ¬ (false = true) by decide)] at H; exact H
          clear H; have H := H1; clear H1; have bN := Aside0.mk H; clear H
          go_upto_if 13 with (fail)
          go_cut [13] (fun da wc => ∃ (kq : Nat) (bC : Bool), da = .bool bC ∧ Aside0 (impl_formOf.j1 kq a0 bC = some (r1, r2)) ∧ Aside0 (kq ≤ kj2) ∧ Drawn0 w wc)
          case first =>
            have H := bN.out; clear bN
            by_cases c10 : a0 = 3
            · rw [if_pos c10] at H
              have c10b0 : (a0 == 3) = true := beq_iff_eq.mpr c10; have c10b1 : (a0 != 3) = false := bne_eq_false_iff_eq.mpr c10; clear c10; (first | rw [c10b0] | (simp only [i64_w, i32_w]; rw [c10b0]) | skip); have H' := Aside0.mk H; clear H; go_wp2
              go_meet
              case rel => exact ⟨_, ((a0 == 3)), (by first | rfl | (simp; done) | (simp [*]; done)), H', ⟨by have := bM.out; first | omega | exact Nat.le_refl _⟩, by repeat (first | exact Drawn0.refl _ | apply Drawn0.step)⟩
            · rw [if_neg c10] at H
              have c10b0 : (a0 == 3) = false := beq_eq_false_iff_ne.mpr c10; have c10b1 : (a0 != 3) = true := bne_iff_ne.mpr c10; (first | rw [c10b0] | (simp only [i64_w, i32_w]; rw [c10b0]) | skip)
              by_cases c11 : a0 = 9
              · rw [if_pos c11] at H
                have c11b0 : (a0 == 9) = true := beq_iff_eq.mpr c11; have c11b1 : (a0 != 9) = false := bne_eq_false_iff_eq.mpr c11; clear c11; have H' := Aside0.mk H; clear H; go_wp2
                go_meet
                case rel => exact ⟨_, ((a0 == 9)), (by first | rfl | (simp; done) | (simp [*]; done)), H', ⟨by have := bM.out; first | omega | exact Nat.le_refl _⟩, by repeat (first | exact Drawn0.refl _ | apply Drawn0.step)⟩
              · rw [if_neg c11] at H
                have c11b0 : (a0 == 9) = false := beq_eq_false_iff_ne.mpr c11; have c11b1 : (a0 != 9) = true := bne_iff_ne.mpr c11; have H' := Aside0.mk H; clear H; go_wp2
                go_meet
                case rel => exact ⟨_, ((a0 == 12)), (by first | rfl | (simp; done) | (simp [*]; done)), H', ⟨by have := bM.out; first | omega | exact Nat.le_refl _⟩, by repeat (first | exact Drawn0.refl _ | apply Drawn0.step)⟩
          case rest =>
            clear bN; try clear c1
            try clear c2
            try clear c2b0
            try clear c2b1
            try clear p2
            try clear c4
            try clear c4b0
            try clear c4b1
            try clear c5
            try clear c5b0
            try clear c5b1
            try clear c6
            try clear c6b0
            try clear c6b1
            try clear c7
            try clear c7b0
            try clear c7b1
            try clear c8
            try clear c10
            try clear c10b0
            try clear c10b1
            try clear c11
            try clear c11b0
            try clear c11b1
            try clear p2
            obtain ⟨kq, bC, rfl, HA, dm, ⟨mc8, rfl⟩⟩ := hcut
            cases kq with
            | zero => exact absurd HA.out (by simp [impl_formOf.j1])
            | succ kj8 =>
              have H := HA.out; clear HA; simp only [impl_formOf.j1] at H
              by_cases c12 : bC = true
              · subst c12
                have H1 : (some ((⟨#[82, 65]⟩ : ByteArray), true)) = some (r1, r2) := by rw [if_pos rfl] at H; exact H
                clear H; have H := H1; clear H1; simp only [Option.some.injEq, Prod.mk.injEq] at H; obtain ⟨rfl, rfl⟩ := H; go_wp2
                go_ret2
                exact ⟨by first | rfl | (simp; done) | (simp [*]; done), by repeat (first | exact Drawn0.refl _ | apply Drawn0.step)⟩
              · replace c12 := Bool.eq_false_iff.mpr c12
                subst c12; have H1 : (if a0 = 6 then (some ((⟨#[82, 65, 66, 78]⟩ : ByteArray), true)) else (if a0 = 10 then (some ((⟨#[82, 65, 78]⟩ : ByteArray), true)) else (if a0 = 11 then (some ((⟨#[65, 66, 78]⟩ : ByteArray), true)) else (if a0 = 13 then (some ((⟨#[65, 78]⟩ : ByteArray), true)) else (if a0 = 14 then (some ((⟨#[65]⟩ : ByteArray), true)) else (if a0 = 15 then (some ((⟨#[]⟩ : ByteArray), true)) else (some ((⟨#[]⟩ : ByteArray), false)))))))) = some (r1, r2) := by rw [if_neg (show ¬ (false = true) by decide)] at H; exact H
                clear H; have H := H1; clear H1
                by_cases c13 : a0 = 6
                · rw [if_pos c13] at H
                  have c13b0 : (a0 == 6) = true := beq_iff_eq.mpr c13; have c13b1 : (a0 != 6) = false := bne_eq_false_iff_eq.mpr c13; clear c13; simp only [Option.some.injEq, Prod.mk.injEq] at H; obtain ⟨rfl, rfl⟩ := H; go_wp2
                  go_ret2
                  exact ⟨by first | rfl | (simp; done) | (simp [*]; done), by repeat (first | exact Drawn0.refl _ | apply Drawn0.step)⟩
                · rw [if_neg c13] at H
                  have c13b0 : (a0 == 6) = false := beq_eq_false_iff_ne.mpr c13; have c13b1 : (a0 != 6) = true := bne_iff_ne.mpr c13
                  by_cases c14 : a0 = 10
                  · rw [if_pos c14] at H
                    have c14b0 : (a0 == 10) = true := beq_iff_eq.mpr c14; have c14b1 : (a0 != 10) = false := bne_eq_false_iff_eq.mpr c14; clear c14; simp only [Option.some.injEq, Prod.mk.injEq] at H; obtain ⟨rfl, rfl⟩ := H; go_wp2
                    go_ret2
                    exact ⟨by first | rfl | (simp; done) | (simp [*]; done), by repeat (first | exact Drawn0.refl _ | apply Drawn0.step)⟩
                  · rw [if_neg c14] at H
                    have c14b0 : (a0 == 10) = false := beq_eq_false_iff_ne.mpr c14; have c14b1 : (a0 != 10) = true := bne_iff_ne.mpr c14
                    by_cases c15 : a0 = 11
                    · rw [if_pos c15] at H
                      have c15b0 : (a0 == 11) = true := beq_iff_eq.mpr c15; have c15b1 : (a0 != 11) = false := bne_eq_false_iff_eq.mpr c15; clear c15; simp only [Option.some.injEq, Prod.mk.injEq] at H; obtain ⟨rfl, rfl⟩ := H; go_wp2
                      go_ret2
                      exact ⟨by first | rfl | (simp; done) | (simp [*]; done), by repeat (first | exact Drawn0.refl _ | apply Drawn0.step)⟩
                    · rw [if_neg c15] at H
                      have c15b0 : (a0 == 11) = false := beq_eq_false_iff_ne.mpr c15; have c15b1 : (a0 != 11) = true := bne_iff_ne.mpr c15
                      by_cases c16 : a0 = 13
                      · rw [if_pos c16] at H
                        have c16b0 : (a0 == 13) = true := beq_iff_eq.mpr c16; have c16b1 : (a0 != 13) = false := bne_eq_false_iff_eq.mpr c16; clear c16; simp only [Option.some.injEq, Prod.mk.injEq] at H; obtain ⟨rfl, rfl⟩ := H; go_wp2
                        go_ret2
                        exact ⟨by first | rfl | (simp; done) | (simp [*]; done), by repeat (first | exact Drawn0.refl _ | apply Drawn0.step)⟩
                      · rw [if_neg c16] at H
                        have c16b0 : (a0 == 13) = false := beq_eq_false_iff_ne.mpr c16; have c16b1 : (a0 != 13) = true := bne_iff_ne.mpr c16
                        by_cases c17 : a0 = 14
                        · rw [if_pos c17] at H
                          have c17b0 : (a0 == 14) = true := beq_iff_eq.mpr c17; have c17b1 : (a0 != 14) = false := bne_eq_false_iff_eq.mpr c17; clear c17; simp only [Option.some.injEq, Prod.mk.injEq] at H; obtain ⟨rfl, rfl⟩ := H; go_wp2
                          go_ret2
                          exact ⟨by first | rfl | (simp; done) | (simp [*]; done), by repeat (first | exact Drawn0.refl _ | apply Drawn0.step)⟩
                        · rw [if_neg c17] at H
                          have c17b0 : (a0 == 14) = false := beq_eq_false_iff_ne.mpr c17; have c17b1 : (a0 != 14) = true := bne_iff_ne.mpr c17
                          by_cases c18 : a0 = 15
                          · rw [if_pos c18] at H
                            have c18b0 : (a0 == 15) = true := beq_iff_eq.mpr c18; have c18b1 : (a0 != 15) = false := bne_eq_false_iff_eq.mpr c18; clear c18; simp only [Option.some.injEq, Prod.mk.injEq] at H; obtain ⟨rfl, rfl⟩ := H; go_wp2
                            go_ret2
                            exact ⟨by first | rfl | (simp; done) | (simp [*]; done), by repeat (first | exact Drawn0.refl _ | apply Drawn0.step)⟩
                          · rw [if_neg c18] at H
                            have c18b0 : (a0 == 15) = false := beq_eq_false_iff_ne.mpr c18; have c18b1 : (a0 != 15) = true := bne_iff_ne.mpr c18; simp only [Option.some.injEq, Prod.mk.injEq] at H; obtain ⟨rfl, rfl⟩ := H; go_wp2
                            go_ret2
                            exact ⟨by first | rfl | (simp; done) | (simp [*]; done), by repeat (first | exact Drawn0.refl _ | apply Drawn0.step)⟩

/-! ### impl_partOf: function 21 -/
def impl_partOf.f (a0_0 : Int) (a0_1 : Int) (a0_2 : Int) (a0_3 : Int) (a0_4 : Int) (a1 : Int) : Option (Int) := if a1 = 82 then (some a0_1) else (if a1 = 65 then (some a0_2) else (if a1 = 66 then (some a0_3) else (some a0_4)))
set_option maxHeartbeats 8000000 in
set_option maxRecDepth 100000 in
theorem impl_partOf.calls (a0_0 : Int) (a0_1 : Int) (a0_2 : Int) (a0_3 : Int) (a0_4 : Int) (a1 : Int) (r : Int) (w : World) (h : impl_partOf.f a0_0 a0_1 a0_2 a0_3 a0_4 a1 = some r) :
    Calls Tryd.prog 21 #[.agg #[.int .i64 a0_0, .int .i64 a0_1, .int .i64 a0_2, .int .i64 a0_3, .int .i64 a0_4], .int .u8 a1] w fun e w' => e = .returned (.int .i64 r) ∧ Below w.heap.size w w' := by
  have hu25 := Tryd.underlying25; have HB := Aside0.mk (Below.refl w.heap.size w); have H : (if a1 = 82 then (some a0_1) else (if a1 = 65 then (some a0_2) else (if a1 = 66 then (some a0_3) else (some a0_4)))) = some r := h; clear h
  by_cases c3 : a1 = 82
  · rw [if_pos c3] at H
    have c3b0 : (a1 == 82) = true := beq_iff_eq.mpr c3; have c3b1 : (a1 != 82) = false := bne_eq_false_iff_eq.mpr c3; clear c3; obtain rfl := Option.some.inj H
    go_enter Tryd.func21, Tryd.ntmps21
    go_wp2_with (first | ((with_reducible refine gate_dst (N := 2) rfl ?_); refine bxe 2 #[.int .i64 a0_0, .int .i64 a0_1, .int .i64 a0_2, .int .i64 a0_3, .int .i64 a0_4] 25 ?_; intro bO hg w4 hbox hb; have bg := hbox; have bP := nge HB hg; have bQ := nge HB hg; replace HB := nbs HB hb; clear hb hbox hg; obtain ⟨dn, dp, dq, dr, ds⟩ := c5e bg; obtain ⟨dt, du, dv, dw, dx⟩ := z5_ bg))
    go_ret
    exact ⟨er_, nbe HB⟩
  · rw [if_neg c3] at H
    have c3b0 : (a1 == 82) = false := beq_eq_false_iff_ne.mpr c3; have c3b1 : (a1 != 82) = true := bne_iff_ne.mpr c3
    by_cases c6 : a1 = 65
    · rw [if_pos c6] at H
      have c6b0 : (a1 == 65) = true := beq_iff_eq.mpr c6; have c6b1 : (a1 != 65) = false := bne_eq_false_iff_eq.mpr c6; clear c6; obtain rfl := Option.some.inj H
      go_enter Tryd.func21, Tryd.ntmps21
      go_wp2_with (first | ((with_reducible refine gate_dst (N := 2) rfl ?_); refine bxe 2 #[.int .i64 a0_0, .int .i64 a0_1, .int .i64 a0_2, .int .i64 a0_3, .int .i64 a0_4] 25 ?_; intro bO hg w7 hbox hb; have bg := hbox; have bP := nge HB hg; have bQ := nge HB hg; replace HB := nbs HB hb; clear hb hbox hg; obtain ⟨dy, dz, dA, dB, dC⟩ := c5e bg; obtain ⟨dD, dE, dF, dG, dH⟩ := z5_ bg))
      go_ret
      exact ⟨er_, nbe HB⟩
    · rw [if_neg c6] at H
      have c6b0 : (a1 == 65) = false := beq_eq_false_iff_ne.mpr c6; have c6b1 : (a1 != 65) = true := bne_iff_ne.mpr c6
      by_cases c9 : a1 = 66
      · rw [if_pos c9] at H
        have c9b0 : (a1 == 66) = true := beq_iff_eq.mpr c9; have c9b1 : (a1 != 66) = false := bne_eq_false_iff_eq.mpr c9; clear c9; obtain rfl := Option.some.inj H
        go_enter Tryd.func21, Tryd.ntmps21
        go_wp2_with (first | ((with_reducible refine gate_dst (N := 2) rfl ?_); refine bxe 2 #[.int .i64 a0_0, .int .i64 a0_1, .int .i64 a0_2, .int .i64 a0_3, .int .i64 a0_4] 25 ?_; intro bO hg dI hbox hb; have bg := hbox; have bP := nge HB hg; have bQ := nge HB hg; replace HB := nbs HB hb; clear hb hbox hg; obtain ⟨dJ, dK, dL, dM, dN⟩ := c5e bg; obtain ⟨dO, dP, dQ, dR, dS⟩ := z5_ bg))
        go_ret
        exact ⟨er_, nbe HB⟩
      · rw [if_neg c9] at H
        have c9b0 : (a1 == 66) = false := beq_eq_false_iff_ne.mpr c9; have c9b1 : (a1 != 66) = true := bne_iff_ne.mpr c9; obtain rfl := Option.some.inj H
        go_enter Tryd.func21, Tryd.ntmps21
        go_wp2_with (first | ((with_reducible refine gate_dst (N := 2) rfl ?_); refine bxe 2 #[.int .i64 a0_0, .int .i64 a0_1, .int .i64 a0_2, .int .i64 a0_3, .int .i64 a0_4] 25 ?_; intro bO hg dT hbox hb; have bg := hbox; have bP := nge HB hg; have bQ := nge HB hg; replace HB := nbs HB hb; clear hb hbox hg; obtain ⟨dU, dV, dW, dX, dY⟩ := c5e bg; obtain ⟨dZ, d0, d1, d2, d3⟩ := z5_ bg))
        go_ret
        exact ⟨er_, nbe HB⟩

/-! ### slices_Index_byte_byte: function 35 -/
def slices_Index_byte_byte.l0 : Nat → List Int → Int → Int → Int → Option (Int)
  | 0, _, _, _, _ => none
  | k + 1, x0, x1, x7, x8 => if x8 < x7 then (if 0 ≤ x8 then (if x8 < (x0.length : Int) then (if x1 = (rd x0 x8) then (some x8) else (slices_Index_byte_byte.l0 k x0 x1 x7 (wrap64 (x8 + 1)))) else (none)) else (none)) else (some (-1))
def slices_Index_byte_byte.f (k : Nat) (l0 : List Int) (a1 : Int) : Option (Int) := slices_Index_byte_byte.l0 k l0 a1 (l0.length : Int) 0
theorem slices_Index_byte_byte.mono_l : ∀ k, (∀ y0 y1 y2 y3, LeO (slices_Index_byte_byte.l0 k y0 y1 y2 y3) (slices_Index_byte_byte.l0 (k + 1) y0 y1 y2 y3))
  | 0 => fun _ _ _ _ r h => by simp [slices_Index_byte_byte.l0] at h
  | k + 1 => by
    have ih0 := slices_Index_byte_byte.mono_l k
    · intro y0 y1 y2 y3
      unfold slices_Index_byte_byte.l0
      repeat' first
      | (with_reducible exact ih0 _ _ _ _)
      | (with_reducible exact LeO.refl _)
      | (with_reducible exact LeO.none _)
      | (with_reducible refine LeO.ite ?_ ?_)
      | (with_reducible refine LeO.bind ?_ (fun _ => ?_))
      | exact ih0 _ _ _ _
      | exact LeO.none _
      | refine LeO.ite ?_ ?_
      | refine LeO.bind ?_ (fun _ => ?_)
theorem slices_Index_byte_byte.mono : ∀ a0 a1 k, LeO (slices_Index_byte_byte.f k a0 a1) (slices_Index_byte_byte.f (k + 1) a0 a1) := by
  intro a0 a1 k; have ih0 := slices_Index_byte_byte.mono_l k
  unfold slices_Index_byte_byte.f
  repeat' first
      | (with_reducible exact ih0 _ _ _ _)
      | (with_reducible exact LeO.refl _)
      | (with_reducible exact LeO.none _)
      | (with_reducible refine LeO.ite ?_ ?_)
      | (with_reducible refine LeO.bind ?_ (fun _ => ?_))
      | exact ih0 _ _ _ _
      | exact LeO.none _
      | refine LeO.ite ?_ ?_
      | refine LeO.bind ?_ (fun _ => ?_)
set_option maxHeartbeats 8000000 in
set_option maxRecDepth 100000 in
theorem slices_Index_byte_byte.calls (k : Nat) (A0 : Option Addr) (c0 : Nat) (l0 : List Int) (a1 : Int) (r : Int) (w : World) (hr0 : Kd.C (Kd.int .u8) w A0 l0.length l0) (hc0 : l0.length ≤ c0) (h : slices_Index_byte_byte.f k l0 a1 = some r) :
    Calls Tryd.prog 35 #[.slice A0 l0.length c0, .int .u8 a1] w fun e w' => e = .returned (.int .i64 r) ∧ Drawn0 w w' := by
  have bo := Aside0.mk hr0; have bD := Aside0.mk hc0; clear hr0 hc0; have H : (slices_Index_byte_byte.l0 k l0 a1 (l0.length : Int) 0) = some r := h; clear h; have H' := Aside0.mk H; clear H
  go_enter Tryd.func35, Tryd.ntmps35
  go_wp2
  go_loopg [8] k (fun kq v8 w' => ∃ (bb : Int), v8 = .int .i64 bb ∧ Aside0 (slices_Index_byte_byte.l0 kq l0 a1 (l0.length : Int) bb = some r) ∧ Aside0 (kq ≤ k) ∧ Drawn0 w w')
  case atStart => exact ⟨(0), (by first | rfl | (simp; done) | (simp [*]; done)), H', ⟨Nat.le_refl _⟩, by repeat (first | exact Drawn0.refl _ | apply Drawn0.step)⟩
  case round =>
    clear H'; try clear p2
    obtain ⟨bb, rfl, HA, bx, ⟨m1, rfl⟩⟩ := hrel
    cases gk with
    | zero => exact absurd HA.out (by simp [slices_Index_byte_byte.l0])
    | succ k1 =>
      have H := HA.out; clear HA; simp only [slices_Index_byte_byte.l0] at H
      by_cases c3 : bb < (l0.length : Int)
      · rw [if_pos c3] at H
        have c3b0 : decide (bb < (l0.length : Int)) = true := decide_eq_true c3; clear c3
        by_cases c4 : 0 ≤ bb
        · rw [if_pos c4] at H
          have c4b0 : decide (0 ≤ bb) = true := decide_eq_true c4; clear c4
          by_cases c5 : bb < (l0.length : Int)
          · rw [if_pos c5] at H
            have c5b0 : decide (bb < (l0.length : Int)) = true := decide_eq_true c5; clear c5
            by_cases c6 : a1 = (rd l0 bb)
            · rw [if_pos c6] at H
              have c6b0 : (a1 == (rd l0 bb)) = true := beq_iff_eq.mpr c6; have c6b1 : (a1 != (rd l0 bb)) = false := bne_eq_false_iff_eq.mpr c6; clear c6; obtain rfl := Option.some.inj H; have p155 : 0 ≤ (bb : Int) := of_decide_eq_true (by first | (with_reducible assumption) | assumption); have q155 : bb < (l0.length : Int) := of_decide_eq_true (by first | (with_reducible assumption) | assumption); obtain ⟨db, e155, dc⟩ := Kd.at_int bo.out bb p155 q155
              cases e155
              replace p155 := eq_true p155; replace q155 := eq_true q155; go_wp2
              go_ret
              exact ⟨by first | rfl | (simp; done) | (simp [*]; done), by repeat (first | exact Drawn0.refl _ | apply Drawn0.step)⟩
            · rw [if_neg c6] at H
              have c6b0 : (a1 == (rd l0 bb)) = false := beq_eq_false_iff_ne.mpr c6; have c6b1 : (a1 != (rd l0 bb)) = true := bne_iff_ne.mpr c6; have H' := Aside0.mk H; clear H; have p155 : 0 ≤ (bb : Int) := of_decide_eq_true (by first | (with_reducible assumption) | assumption); have q155 : bb < (l0.length : Int) := of_decide_eq_true (by first | (with_reducible assumption) | assumption); obtain ⟨db, e155, dc⟩ := Kd.at_int bo.out bb p155 q155
              cases e155
              replace p155 := eq_true p155; replace q155 := eq_true q155; go_wp2
              go_roundg k1
              case measure => have := bx.out; omega
              case rel => exact ⟨(wrap64 (bb + 1)), (by first | rfl | (simp; done) | (simp [*]; done)), H', ⟨by have := bx.out; omega⟩, by repeat (first | exact Drawn0.refl _ | apply Drawn0.step)⟩
          · rw [if_neg c5] at H
            exact absurd H (by simp)
        · rw [if_neg c4] at H
          exact absurd H (by simp)
      · rw [if_neg c3] at H
        have c3b0 : decide (bb < (l0.length : Int)) = false := decide_eq_false c3; clear c3; obtain rfl := Option.some.inj H; go_wp2
        go_ret
        exact ⟨by first | rfl | (simp; done) | (simp [*]; done), by repeat (first | exact Drawn0.refl _ | apply Drawn0.step)⟩

/-! ### slices_Contains_byte_byte: function 32 -/
def slices_Contains_byte_byte.f (k : Nat) (l0 : List Int) (a1 : Int) : Option (Bool) := (slices_Index_byte_byte.f k l0 a1).bind fun bs => (some (decide (bs ≥ 0)))
theorem slices_Contains_byte_byte.mono : ∀ a0 a1 k, LeO (slices_Contains_byte_byte.f k a0 a1) (slices_Contains_byte_byte.f (k + 1) a0 a1) := by
  intro a0 a1 k
  unfold slices_Contains_byte_byte.f
  repeat' first
      | (with_reducible exact slices_Index_byte_byte.mono _ _ _)
      | (with_reducible exact LeO.refl _)
      | (with_reducible exact LeO.none _)
      | (with_reducible refine LeO.ite ?_ ?_)
      | (with_reducible refine LeO.bind ?_ (fun _ => ?_))
      | exact slices_Index_byte_byte.mono _ _ _
      | exact LeO.none _
      | refine LeO.ite ?_ ?_
      | refine LeO.bind ?_ (fun _ => ?_)
set_option maxHeartbeats 8000000 in
set_option maxRecDepth 100000 in
theorem slices_Contains_byte_byte.calls (k : Nat) (A0 : Option Addr) (c0 : Nat) (l0 : List Int) (a1 : Int) (r : Bool) (w : World) (hr0 : Kd.C (Kd.int .u8) w A0 l0.length l0) (hc0 : l0.length ≤ c0) (h : slices_Contains_byte_byte.f k l0 a1 = some r) :
    Calls Tryd.prog 32 #[.slice A0 l0.length c0, .int .u8 a1] w fun e w' => e = .returned (.bool r) ∧ Drawn0 w w' := by
  have bo := Aside0.mk hr0; have bD := Aside0.mk hc0; clear hr0 hc0; have H : ((slices_Index_byte_byte.f k l0 a1).bind fun bs => (some (decide (bs ≥ 0)))) = some r := h; clear h; replace H := Option.bind_eq_some_iff.mp H; obtain ⟨bs, A30, H⟩ := H; replace H : (some (decide (bs ≥ 0))) = some r := H; have A3 := Aside0.mk A30; clear A30; obtain rfl := Option.some.inj H
  go_enter Tryd.func32, Tryd.ntmps32
  go_wp2_with (first | ((with_reducible refine gate_callee (f := 35) rfl ?_); refine goesM (some 7) rfl rfl Tryd.func35 (by kernel_rfl) rfl #[.slice A0 l0.length c0, .int .u8 a1] rfl ?_; (with_reducible refine (slices_Index_byte_byte.calls k _ _ l0 a1 bs _ ?side1 ?side2 A3.out).mono ?_); (case side1 => exact nC bo); (case side2 => exact bD.out); rintro e w' ⟨rfl, ⟨nd, rfl⟩⟩; refine ⟨_, rfl, ?_⟩))
  go_ret
  exact ⟨by first | rfl | (simp; done) | (simp [*]; done), by repeat (first | exact Drawn0.refl _ | apply Drawn0.step)⟩

/-! ### impl_hasPart: function 27 -/
theorem impl_hasPart.reads (W : World) (s : ByteArray) (g : Nat) (hg : g = W.heap.size) (hs : s.size ≤ 9223372036854775807) : Kd.C (Kd.int .u8) (Lib.bytesWorld W 5 s) (some ⟨g, 0, none⟩) s.size (bytesOf s) := by
  subst hg; obtain ⟨h1, h2, h3⟩ := bytes_reads W 5 s hs; refine ⟨h1, h2, fun hp => ?_⟩; obtain ⟨ad, e, hc⟩ := h3 hp; refine ⟨ad, e, fun j p hj => ⟨[.int .u8 p], rfl, rfl, fun i u hu => ?_⟩⟩
  have hi : i = 0 := by
    cases i with
    | zero => rfl
    | succ i => simp at hu
  subst hi; obtain rfl : Value.int .u8 p = u := by simpa using hu
  have hjl : j < s.size := by
    rw [← h1]; exact (List.getElem?_eq_some_iff.1 hj).1
  have h4 := hc j hjl; rw [List.getD_eq_getElem?_getD, hj] at h4; have h5 : j * (Kd.int .u8).sz + 0 = j := Nat.mul_one j; rw [h5]; exact h4
def impl_hasPart.f (k : Nat) (a0_0 : Int) (a0_1 : Int) (a0_2 : Int) (a0_3 : Int) (a0_4 : Int) (a1 : Int) : Option (Bool) := (impl_formOf.f k a0_0).bind fun bt => (if bt.1.size ≤ 9223372036854775807 then slices_Contains_byte_byte.f k (bytesOf bt.1) a1 else none)
theorem impl_hasPart.mono : ∀ a0 a1 a2 a3 a4 a5 k, LeO (impl_hasPart.f k a0 a1 a2 a3 a4 a5) (impl_hasPart.f (k + 1) a0 a1 a2 a3 a4 a5) := by
  intro a0 a1 a2 a3 a4 a5 k
  unfold impl_hasPart.f
  refine LeO.bind ?_ (fun _ => ?_)
  · first | exact impl_formOf.mono _ _ | exact LeO.refl _
  · refine LeO.ite ?_ ?_
    · first | exact slices_Contains_byte_byte.mono _ _ _ | exact LeO.refl _
    · exact LeO.none _
set_option maxHeartbeats 8000000 in
set_option maxRecDepth 100000 in
theorem impl_hasPart.calls (k : Nat) (a0_0 : Int) (a0_1 : Int) (a0_2 : Int) (a0_3 : Int) (a0_4 : Int) (a1 : Int) (r : Bool) (w : World) (h : impl_hasPart.f k a0_0 a0_1 a0_2 a0_3 a0_4 a1 = some r) :
  Calls Tryd.prog 27 #[.agg #[.int .i64 a0_0, .int .i64 a0_1, .int .i64 a0_2, .int .i64 a0_3, .int .i64 a0_4], .int .u8 a1] w fun e w' => e = .returned (.bool r) ∧ Below w.heap.size w w' := by
 obtain ⟨⟨s, b⟩, A80, H⟩ := Option.bind_eq_some_iff.mp h; have A8 := Aside0.mk A80; clear A80 h; replace H : (if s.size ≤ 9223372036854775807 then slices_Contains_byte_byte.f k (bytesOf s) a1 else none) = some r := H
 by_cases hs : s.size ≤ 9223372036854775807
 · rw [if_pos hs] at H
   have HC : Aside0 (∀ (W : World) (ad : Option Addr) (c : Nat), Kd.C (Kd.int .u8) W ad s.size (bytesOf s) → s.size ≤ c → Calls Tryd.prog 32 #[.slice ad s.size c, .int .u8 a1] W fun e w' => e = .returned (.bool r) ∧ Drawn0 W w') := by
     refine ⟨fun W ad c h1 h2 => ?_⟩; rw [← bytesOf_length s] at h1 h2 ⊢; exact slices_Contains_byte_byte.calls k ad c (bytesOf s) a1 r W h1 h2 H
   clear H; have HS := Aside0.mk hs; clear hs; have kb := fun (W : World) => print_bytes (P := Tryd.prog) 9 42 5 Tryd.underlying9 Tryd.underlying42 Tryd.underlying5 s W
   have HB := Aside0.mk (Below.refl w.heap.size w)
   go_enter Tryd.func27, Tryd.ntmps27
   go_wp2_with (first | (go_at_call 19; refine (impl_formOf.calls k a0_0 s b _ A8.out).mono ?_; rintro e w' ⟨rfl, ⟨nd, rfl⟩⟩) | (go_at_call 32; refine (HC.out _ _ _ ?hrd (grownCap_ge _ _ _ _)).mono ?_; (case hrd => exact impl_hasPart.reads _ s _ (by simp) HS.out); rintro e w' ⟨rfl, ⟨nd2, rfl⟩⟩))
   go_ret
   refine ⟨rfl, ?_⟩; exact pw_below_drewN (bytes_below (pw_below_drewN (below_alloc HB.out _) _) (below_size (pw_below_drewN (below_alloc HB.out _) _)) _ _) _
 · rw [if_neg hs] at H
   exact absurd H (by simp)

/-! ### impl_in: function 28 -/
def impl_in.f (a0 : Int) (a1 : Int) (a2 : Int) : Option (Bool) := if a0 ≥ a1 then (some (decide (a0 ≤ a2))) else (some false)
set_option maxHeartbeats 8000000 in
set_option maxRecDepth 100000 in
theorem impl_in.calls (a0 : Int) (a1 : Int) (a2 : Int) (r : Bool) (w : World) (h : impl_in.f a0 a1 a2 = some r) :
    Calls Tryd.prog 28 #[.int .i64 a0, .int .i64 a1, .int .i64 a2] w fun e w' => e = .returned (.bool r) ∧ Drawn0 w w' := by
  have H : (if a0 ≥ a1 then (some (decide (a0 ≤ a2))) else (some false)) = some r := h; clear h
  by_cases c4 : a0 ≥ a1
  · rw [if_pos c4] at H
    have c4b0 : decide (a1 ≤ a0) = true := decide_eq_true c4; clear c4; obtain rfl := Option.some.inj H
    go_enter Tryd.func28, Tryd.ntmps28
    go_wp2
    go_ret
    exact ⟨by first | rfl | (simp; done) | (simp [*]; done), by repeat (first | exact Drawn0.refl _ | apply Drawn0.step)⟩
  · rw [if_neg c4] at H
    have c4b0 : decide (a1 ≤ a0) = false := decide_eq_false c4; clear c4; obtain rfl := Option.some.inj H
    go_enter Tryd.func28, Tryd.ntmps28
    go_wp2
    go_ret
    exact ⟨by first | rfl | (simp; done) | (simp [*]; done), by repeat (first | exact Drawn0.refl _ | apply Drawn0.step)⟩

end Go.Proofs.YteamcnoabglobaaDoor.PFnExactCodeText
