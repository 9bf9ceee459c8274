-- Written by a program of this session (wip/patch.py turns a copy of the kit's print): the functions that the law reaches, and their walks.
import Derived.Test.YtlmcikjjeidnfaaGreatDoorPFnTextsx0
import Derived.Test.YtlmcikjjeidnfaaGreatDoorCFnTexts
namespace Go.Proofs.YtlmcikjjeidnfaaGreatDoor.PFnTexts
open Go.RowKit Go.Proofs.YtlmcikjjeidnfaaGreatDoorW.PrintWords Go.Proofs.YtlmcikjjeidnfaaGreatDoorW.PrintLast Go.Proofs.YtlmcikjjeidnfaaGreatDoorW.PrintMore Go.Proofs.YtlmcikjjeidnfaaGreatDoorW.Mine
attribute [local go_sem] max2_int min2_int max_two min_two max_three min_three max_four min_four   -- for this text's walks alone
set_option linter.unusedVariables false
set_option linter.unusedSimpArgs false

/-! ### laws_big: function 4 -/
def laws_big.f (l0 : List Int) : Option (Bool) := some (decide ((l0.length : Int) > 1048576))
set_option maxHeartbeats 8000000 in
set_option maxRecDepth 100000 in
theorem laws_big.calls (A0 : Option Addr) (c0 : Nat) (l0 : List Int) (r : Bool) (w : World) (hr0 : Kd.C (Kd.int .u8) w A0 l0.length l0) (hc0 : l0.length ≤ c0) (h : laws_big.f l0 = some r) :
  Calls Tryz.prog 4 #[.slice A0 l0.length c0] w fun e w' => e = .returned (.bool r) ∧ Drawn0 w w' := by
 have df := Aside0.mk hr0; have eh := Aside0.mk hc0; clear hr0 hc0; have H : (some (decide ((l0.length : Int) > 1048576))) = some r := h; clear h; obtain rfl := Option.some.inj H
 go_enter Tryz.func4, Tryz.ntmps4
 go_wp2
 go_ret
 exact ⟨by first | rfl | (simp; done) | (simp [*]; done), by repeat (first | exact Drawn0.refl _ | apply Drawn0.step)⟩

/-- A state of type 74 at block g of W; what its slices lead to came in by w0. -/
def IsS74 (w0 W : World) (g : Nat) (f0 : List Int) (f1 : Int) (f2 : Int) : Prop := ∃ A0 c0, W.heap[g]? = some (.cells #[.slice A0 f0.length c0, .int .i64 f1, .int .i64 f2] 74 (0, 0)) ∧ w0.heap.size ≤ g ∧ Kd.C (Kd.int .u8) w0 A0 f0.length f0
theorem IsS74.grown {w0 W : World} {g : Nat} {f0 : List Int} {f1 : Int} {f2 : Int} {W1 : World} {row : Option Nat} (h : IsS74 w0 W g f0 f1 f2) (hw : W.grownBy W1 row) (hne : some g ≠ row) : IsS74 w0 W1 g f0 f1 f2 := by
 obtain ⟨A0, c0, hb, hg, hr0⟩ := h; exact ⟨A0, c0, blk_grown hb hw hne, hg, hr0⟩
theorem IsS74.own_neN {w0 W : World} {g : Nat} {f0 : List Int} {f1 : Int} {f2 : Int} {α : Type} {d : Kd α} {e : Nat} {base : Nat} {ok : Nat → Prop} {v : Value} {xs : List α} (h : IsS74 w0 W g f0 f1 f2) (ho : Kd.N d e W base ok v xs) (ht : e ≠ 74) : some g ≠ v.ownBlock := by
 obtain ⟨A0, c0, hb, hg, hr0⟩ := h; exact Kd.N_ne ho hb ht
theorem IsS74.fresh {w0 W : World} {g : Nat} {f0 : List Int} {f1 : Int} {f2 : Int} (h : IsS74 w0 W g f0 f1 f2) : ∀ k, W.heap.size ≤ k → k ≠ g := by
 obtain ⟨A0, c0, hb, hg, hr0⟩ := h; exact Kd.freshB hb
theorem IsS74.kept {w0 W : World} {g : Nat} {f0 : List Int} {f1 : Int} {f2 : Int} {W1 : World} {S : Nat → Prop} (h : IsS74 w0 W g f0 f1 f2) (hk : Kept W W1 S) (hne : ¬ S g) : IsS74 w0 W1 g f0 f1 f2 := by
 obtain ⟨A0, c0, hb, hg, hr0⟩ := h; exact ⟨A0, c0, blk_kept hb hk hne, hg, hr0⟩
theorem IsS74.below {w0 W : World} {g : Nat} {f0 : List Int} {f1 : Int} {f2 : Int} {W1 : World} (h : IsS74 w0 W g f0 f1 f2) (hw : Below W.heap.size W W1) : IsS74 w0 W1 g f0 f1 f2 := h.grown (grown_of_below hw none) (by simp)
theorem IsS74.alloc {w0 W : World} {g : Nat} {f0 : List Int} {f1 : Int} {f2 : Int} (h : IsS74 w0 W g f0 f1 f2) (o : Obj) : IsS74 w0 (W.alloc o) g f0 f1 f2 := h.below (below_alloc (Below.refl _ _) o)
theorem IsS74.drewN {w0 W : World} {g : Nat} {f0 : List Int} {f1 : Int} {f2 : Int} (h : IsS74 w0 W g f0 f1 f2) (m : Nat) : IsS74 w0 (W.drewN m) g f0 f1 f2 := h
theorem IsS74.drew {w0 W : World} {g : Nat} {f0 : List Int} {f1 : Int} {f2 : Int} (h : IsS74 w0 W g f0 f1 f2) : IsS74 w0 W.drew g f0 f1 f2 := h
theorem IsS74.at_ {w0 W : World} {g : Nat} {f0 : List Int} {f1 : Int} {f2 : Int} {w' : World} {m : Nat} (hq : W.drewN m = w') (h : IsS74 w0 W g f0 f1 f2) : IsS74 w0 w' g f0 f1 f2 := by subst hq; exact IsS74.drewN h m
theorem IsS74.apart {w0 W : World} {g : Nat} {f0 : List Int} {f1 : Int} {f2 : Int} {α : Type} {d : Kd α} {e : Nat} {base : Nat} {ok : Nat → Prop} {v : Value} {xs : List α} (h : IsS74 w0 W g f0 f1 f2) (ho : d.R e W base ok v xs) (ht : ∀ q, q ∈ e :: d.E → q ≠ 74) : d.R e W base (fun k => ok k ∧ k ≠ g) v xs := by
 obtain ⟨A0, c0, hb, hg, hr0⟩ := h; exact Kd.R_types ho hb ht
theorem IsS74.own_ne {w0 W : World} {g : Nat} {f0 : List Int} {f1 : Int} {f2 : Int} {α : Type} {d : Kd α} {e : Nat} {base : Nat} {ok : Nat → Prop} {v : Value} {xs : List α} (h : IsS74 w0 W g f0 f1 f2) (ho : d.R e W base ok v xs) (ht : e ≠ 74) : some g ≠ v.ownBlock := by
 obtain ⟨A0, c0, hb, hg, hr0⟩ := h; exact Kd.R_ne ho hb ht
theorem IsS74.apartQ {w0 W : World} {g : Nat} {f0 : List Int} {f1 : Int} {f2 : Int} {α : Type} {d : Kd α} {e : Nat} {base : Nat} {ok : Nat → Prop} {v : Value} {xs : List α} (h : IsS74 w0 W g f0 f1 f2) (ho : d.Q e W base ok v xs) (ht : ∀ q, q ∈ e :: d.E → q ≠ 74) : d.Q e W base (fun k => ok k ∧ k ≠ g) v xs := by
 obtain ⟨A0, c0, hb, hg, hr0⟩ := h; exact Kd.Q_types ho hb ht
theorem IsS74.own_neQ {w0 W : World} {g : Nat} {f0 : List Int} {f1 : Int} {f2 : Int} {α : Type} {d : Kd α} {e : Nat} {base : Nat} {ok : Nat → Prop} {v : Value} {xs : List α} (h : IsS74 w0 W g f0 f1 f2) (ho : d.Q e W base ok v xs) (ht : e ≠ 74) : some g ≠ v.ownBlock := by
 obtain ⟨A0, c0, hb, hg, hr0⟩ := h; exact Kd.Q_ne ho hb ht
theorem IsS74.apartS {w0 W : World} {g : Nat} {f0 : List Int} {f1 : Int} {f2 : Int} {α : Type} {d : Kd α} {e : Nat} {base : Nat} {ok : Nat → Prop} {v : Value} {xs : List α} (h : IsS74 w0 W g f0 f1 f2) (ho : d.S e W base ok v xs) (ht : ∀ q, q ∈ e :: d.E → q ≠ 74) : d.S e W base (fun k => ok k ∧ k ≠ g) v xs := by
 obtain ⟨A0, c0, hb, hg, hr0⟩ := h; exact Kd.S_types ho hb ht
theorem IsS74.own_neS {w0 W : World} {g : Nat} {f0 : List Int} {f1 : Int} {f2 : Int} {α : Type} {d : Kd α} {e : Nat} {base : Nat} {ok : Nat → Prop} {v : Value} {xs : List α} (h : IsS74 w0 W g f0 f1 f2) (ho : d.S e W base ok v xs) (ht : e ≠ 74) : some g ≠ v.ownBlock := by
 obtain ⟨A0, c0, hb, hg, hr0⟩ := h; exact Kd.S_ne ho hb ht
theorem IsS74.lt {w0 W : World} {g : Nat} {f0 : List Int} {f1 : Int} {f2 : Int} (h : IsS74 w0 W g f0 f1 f2) : g < W.heap.size := by
 obtain ⟨A0, c0, hb, hg, hr0⟩ := h; exact blk_lt hb
theorem IsS74.ge {w0 W : World} {g : Nat} {f0 : List Int} {f1 : Int} {f2 : Int} (h : IsS74 w0 W g f0 f1 f2) : w0.heap.size ≤ g := by
 obtain ⟨A0, c0, hb, hg, hr0⟩ := h; exact hg
theorem IsS74.ne_blk {w0 W : World} {g : Nat} {f0 : List Int} {f1 : Int} {f2 : Int} {a : Nat} {cs : Array Value} {t : TypeId} {fr : Nat × Nat} (h : IsS74 w0 W g f0 f1 f2) (hb2 : W.heap[a]? = some (.cells cs t fr)) (ht : t ≠ 74) : g ≠ a := by
 obtain ⟨A0, c0, hb, hg, hr0⟩ := h; rintro rfl; rw [hb] at hb2
 injection hb2 with hb2
 injection hb2 with _ ht2
 exact ht ht2.symm
theorem IsS74.far {w0 W : World} {g : Nat} {f0 : List Int} {f1 : Int} {f2 : Int} {p : Addr} (h : IsS74 w0 W g f0 f1 f2) (hne : g ≠ p.block) (u : Value) : IsS74 w0 (W.setCell p u) g f0 f1 f2 := by
 obtain ⟨A0, c0, hb, hg, hr0⟩ := h; exact ⟨A0, c0, blk_far hb hne u, hg, hr0⟩
theorem cellS74_0 {W : World} {g : Nat} {A0 : Option Addr} {c0 : Nat} {f0 : List Int} {f1 : Int} {f2 : Int} (h : W.heap[g]? = some (.cells #[.slice A0 f0.length c0, .int .i64 f1, .int .i64 f2] 74 (0, 0))) : W.cell? ⟨g, 0, none⟩ = some (.slice A0 f0.length c0) := (blk_cell h 0).trans rfl
theorem cellS74_1 {W : World} {g : Nat} {A0 : Option Addr} {c0 : Nat} {f0 : List Int} {f1 : Int} {f2 : Int} (h : W.heap[g]? = some (.cells #[.slice A0 f0.length c0, .int .i64 f1, .int .i64 f2] 74 (0, 0))) : W.cell? ⟨g, 1, none⟩ = some (.int .i64 f1) := (blk_cell h 1).trans rfl
theorem IsS74.set_1 {w0 W : World} {g : Nat} {f0 : List Int} {f1 : Int} {f2 : Int} (h : IsS74 w0 W g f0 f1 f2) (x : Int) : IsS74 w0 (W.setCell ⟨g, 1, none⟩ (.int .i64 x)) g f0 x f2 := by
 obtain ⟨A0, c0, hb, hg, hr0⟩ := h; exact ⟨A0, c0, by simpa using blk_set hb 1 (.int .i64 x), hg, hr0⟩
theorem cellS74_2 {W : World} {g : Nat} {A0 : Option Addr} {c0 : Nat} {f0 : List Int} {f1 : Int} {f2 : Int} (h : W.heap[g]? = some (.cells #[.slice A0 f0.length c0, .int .i64 f1, .int .i64 f2] 74 (0, 0))) : W.cell? ⟨g, 2, none⟩ = some (.int .i64 f2) := (blk_cell h 2).trans rfl
theorem IsS74.set_2 {w0 W : World} {g : Nat} {f0 : List Int} {f1 : Int} {f2 : Int} (h : IsS74 w0 W g f0 f1 f2) (x : Int) : IsS74 w0 (W.setCell ⟨g, 2, none⟩ (.int .i64 x)) g f0 f1 x := by
 obtain ⟨A0, c0, hb, hg, hr0⟩ := h; exact ⟨A0, c0, by simpa using blk_set hb 2 (.int .i64 x), hg, hr0⟩
theorem IsS74.new (w0 W : World) (A0 : Option Addr) (c0 : Nat) (f0 : List Int) (f1 : Int) (f2 : Int) (hB : Below w0.heap.size w0 W) (hr0 : Kd.C (Kd.int .u8) w0 A0 f0.length f0) : IsS74 w0 (W.alloc (.cells #[.slice A0 f0.length c0, .int .i64 f1, .int .i64 f2] 74)) W.heap.size f0 f1 f2 := ⟨A0, c0, by simpa using heap_alloc_new W _, hB.size, hr0⟩

theorem IsS74.n {w0 W : World} {g : Nat} {f0 : List Int} {f1 : Int} {f2 : Int} (h : IsS74 w0 W g f0 f1 f2 := by repeat (first | (with_reducible first | exact Aside0.out (by assumption) | apply IsS74.alloc | apply IsS74.drewN | apply IsS74.drew | apply IsS74.set_1 | apply IsS74.set_2 | refine IsS74.far ?_ (Aside0.out (by assumption)) _) | exact Aside0.out (by assumption))) : IsS74 w0 W g f0 f1 f2 := h
theorem IsS74.nb {w W : World} (h : Below w.heap.size w W := by repeat (first | (with_reducible first | exact Aside0.out (by assumption) | apply below_alloc | apply pw_below_drewN | apply below_drew1 | refine below_set ?_ (Aside0.out (by assumption)) | refine below_set ?_ (IsS74.ge (Aside0.out (by assumption)))) | exact Aside0.out (by assumption))) : Below w.heap.size w W := h
/-! ### spec_l1New: function 36 -/
def spec_l1New.l0 : Nat → List Int → Int → Int → Option (List Int × Int × Int)
 | 0, _, _, _ => none
 | k + 1, x0, x3, x4 => if x4 < (x0.length : Int) then (if x4 < 4000 then (if 0 ≤ x4 then (spec_l1New.l0 k x0 (Go.bits .and .i64 (wrap64 ((wrap64 ((wrap64 (x3 * 131)) + (wrap64 (rd x0 x4)))) + 7)) 1073741823) (wrap64 (x4 + 1))) else (none)) else (some (x0, 0, x3))) else (some (x0, 0, x3))
def spec_l1New.f (k : Nat) (l0 : List Int) : Option (List Int × Int × Int) := spec_l1New.l0 k l0 (wrap64 (19220 + (l0.length : Int))) 0
theorem spec_l1New.mono_l : ∀ k, (∀ y0 y1 y2, LeO (spec_l1New.l0 k y0 y1 y2) (spec_l1New.l0 (k + 1) y0 y1 y2))
 | 0 => fun _ _ _ r h => by simp [spec_l1New.l0] at h
 | k + 1 => by
  have ih0 := spec_l1New.mono_l k
  ·intro y0 y1 y2
   unfold spec_l1New.l0
   repeat' first
   | (with_reducible exact ih0 _ _ _)
   | (with_reducible exact LeO.refl _)
   | (with_reducible exact LeO.none _)
   | (with_reducible refine LeO.ite ?_ ?_)
   | (with_reducible refine LeO.bind ?_ (fun _ => ?_))
   | exact ih0 _ _ _
   | exact LeO.none _
   | refine LeO.ite ?_ ?_
   | refine LeO.bind ?_ (fun _ => ?_)
theorem spec_l1New.mono : ∀ a0 k, LeO (spec_l1New.f k a0) (spec_l1New.f (k + 1) a0) := by
 intro a0 k; have ih0 := spec_l1New.mono_l k
 unfold spec_l1New.f
 repeat' first
   | (with_reducible exact ih0 _ _ _)
   | (with_reducible exact LeO.refl _)
   | (with_reducible exact LeO.none _)
   | (with_reducible refine LeO.ite ?_ ?_)
   | (with_reducible refine LeO.bind ?_ (fun _ => ?_))
   | exact ih0 _ _ _
   | exact LeO.none _
   | refine LeO.ite ?_ ?_
   | refine LeO.bind ?_ (fun _ => ?_)
set_option maxHeartbeats 8000000 in
set_option maxRecDepth 100000 in
theorem spec_l1New.calls (k : Nat) (A0 : Option Addr) (c0 : Nat) (l0 : List Int) (r1 : List Int) (r2 : Int) (r3 : Int) (w0 w : World) (hB : Below w0.heap.size w0 w) (hr0 : Kd.C (Kd.int .u8) w0 A0 l0.length l0) (hc0 : l0.length ≤ c0) (h : spec_l1New.f k l0 = some (r1, r2, r3)) :
  Calls Tryz.prog 36 #[.slice A0 l0.length c0] w fun e w' => ∃ g_ : Nat, e = .returned (.pointer (some ⟨g_, 0, none⟩)) ∧ IsS74 w0 w' g_ r1 r2 r3 ∧ Below w0.heap.size w0 w' ∧ Below w.heap.size w w' := by
 have hu74 := Tryz.underlying74; have df := Aside0.mk hr0; have eh := Aside0.mk hc0; clear hr0 hc0; have HBW := Aside0.mk (Below.refl w.heap.size w); have HW0 := Aside0.mk hB.size; have HB := Aside0.mk hB; clear hB; have H : (spec_l1New.l0 k l0 (wrap64 (19220 + (l0.length : Int))) 0) = some (r1, r2, r3) := h; clear h; have H' := Aside0.mk H; clear H
 go_enter Tryz.func36, Tryz.ntmps36
 go_wp2
 go_loopg [3, 4] k (fun kq v3 v4 w' => ∃ (bK : Int) (bn : Int), v3 = .int .i64 bK ∧ v4 = .int .i64 bn ∧ Aside0 (spec_l1New.l0 kq l0 bK bn = some (r1, r2, r3)) ∧ Aside0 (kq ≤ k) ∧ Aside0 (Below w.heap.size w w') ∧ Aside0 (Below w0.heap.size w0 w'))
 case atStart => exact ⟨(wrap64 (19220 + (l0.length : Int))), (0), (by first | rfl | (simp; done) | (simp [*]; done)), (by first | rfl | (simp; done) | (simp [*]; done)), H', ⟨Nat.le_refl _⟩, ⟨nbe HBW⟩, ⟨nbe HB⟩⟩
 case round =>
  clear H'; obtain ⟨bK, bn, rfl, rfl, HA, dC, HBW, HB⟩ := hrel
  cases gk with
  | zero => exact absurd HA.out (by simp [spec_l1New.l0])
  | succ k1 =>
   have H := HA.out; clear HA; simp only [spec_l1New.l0] at H
   by_cases c2 : bn < (l0.length : Int)
   ·rw [if_pos c2] at H
    have c2b0 : decide (bn < (l0.length : Int)) = true := decide_eq_true c2; clear c2
    by_cases c3 : bn < 4000
    ·rw [if_pos c3] at H
     have c3b0 : decide (bn < 4000) = true := decide_eq_true c3; clear c3
     by_cases c4 : 0 ≤ bn
     ·rw [if_pos c4] at H
      have c4b0 : decide (0 ≤ bn) = true := decide_eq_true c4; clear c4; have H' := Aside0.mk H; clear H; have p101 : 0 ≤ (bn : Int) := of_decide_eq_true (by first | (with_reducible assumption) | assumption); have q101 : bn < (l0.length : Int) := of_decide_eq_true (by first | (with_reducible assumption) | assumption); obtain ⟨eK, e101, dD⟩ := Kd.at_int df.out bn p101 q101
      cases e101
      replace dD := pw_cell_below HB.out dD; replace p101 := eq_true p101; replace q101 := eq_true q101; go_wp2
      go_roundg k1
      case measure => have := dC.out; omega
      case rel => exact ⟨(Go.bits .and .i64 (wrap64 ((wrap64 ((wrap64 (bK * 131)) + (wrap64 (rd l0 bn)))) + 7)) 1073741823), (wrap64 (bn + 1)), (by first | rfl | (simp; done) | (simp [*]; done)), (by first | rfl | (simp; done) | (simp [*]; done)), H', ⟨by have := dC.out; omega⟩, ⟨nbe HBW⟩, ⟨nbe HB⟩⟩
     ·rw [if_neg c4] at H
      exact absurd H (by simp)
    ·rw [if_neg c3] at H
     have c3b0 : decide (bn < 4000) = false := decide_eq_false c3; clear c3; simp only [Option.some.injEq, Prod.mk.injEq] at H; obtain ⟨rfl, rfl, rfl⟩ := H
     go_wp2_with (first | ((with_reducible refine gate_dst (N := 31) rfl ?_); refine bxe 31 #[.slice A0 l0.length c0, .int .i64 0, .int .i64 bK] 74 ?_; intro dg hg w5 hbox hb; have ei := hbox; have eL := Aside0.mk ((by rw [hg]; exact (below_size (nbe HBW)) : w.heap.size ≤ dg)); have ej := Aside0.mk ((Nat.le_trans HW0.out (by rw [hg]; exact (below_size (nbe HBW)) : w.heap.size ≤ dg) : w0.heap.size ≤ dg)); replace HBW := Aside0.mk (below_step HBW.out hb); replace HB := nbs HB hb; clear hb hbox hg))
     go_ret
     exact ⟨_, rfl, (show IsS74 w0 _ dg l0 0 bK from ⟨_, _, nb ei, ej.out, df.out⟩), nbe HB, nbe HBW⟩
   ·rw [if_neg c2] at H
    have c2b0 : decide (bn < (l0.length : Int)) = false := decide_eq_false c2; clear c2; simp only [Option.some.injEq, Prod.mk.injEq] at H; obtain ⟨rfl, rfl, rfl⟩ := H
    go_wp2_with (first | ((with_reducible refine gate_dst (N := 31) rfl ?_); refine bxe 31 #[.slice A0 l0.length c0, .int .i64 0, .int .i64 bK] 74 ?_; intro dh hg w6 hbox hb; have ek := hbox; have eM := Aside0.mk ((by rw [hg]; exact (below_size (nbe HBW)) : w.heap.size ≤ dh)); have el := Aside0.mk ((Nat.le_trans HW0.out (by rw [hg]; exact (below_size (nbe HBW)) : w.heap.size ≤ dh) : w0.heap.size ≤ dh)); replace HBW := Aside0.mk (below_step HBW.out hb); replace HB := nbs HB hb; clear hb hbox hg))
    go_ret
    exact ⟨_, rfl, (show IsS74 w0 _ dh l0 0 bK from ⟨_, _, nb ek, el.out, df.out⟩), nbe HB, nbe HBW⟩

/-! ### spec_l1In: function 50 -/
def spec_l1In.f (a0 : Int) (a1 : Int) (a2 : Int) : Option (Bool) := if a0 ≥ a1 then (some (decide (a0 ≤ a2))) else (some false)
set_option maxHeartbeats 8000000 in
set_option maxRecDepth 100000 in
theorem spec_l1In.calls (a0 : Int) (a1 : Int) (a2 : Int) (r : Bool) (w : World) (h : spec_l1In.f a0 a1 a2 = some r) :
  Calls Tryz.prog 50 #[.int .i64 a0, .int .i64 a1, .int .i64 a2] w fun e w' => e = .returned (.bool r) ∧ Drawn0 w w' := by
 have H : (if a0 ≥ a1 then (some (decide (a0 ≤ a2))) else (some false)) = some r := h; clear h
 by_cases c4 : a0 ≥ a1
 ·rw [if_pos c4] at H
  have c4b0 : decide (a1 ≤ a0) = true := decide_eq_true c4; clear c4; obtain rfl := Option.some.inj H
  go_enter Tryz.func50, Tryz.ntmps50
  go_wp2
  go_ret
  exact ⟨by first | rfl | (simp; done) | (simp [*]; done), by repeat (first | exact Drawn0.refl _ | apply Drawn0.step)⟩
 ·rw [if_neg c4] at H
  have c4b0 : decide (a1 ≤ a0) = false := decide_eq_false c4; clear c4; obtain rfl := Option.some.inj H
  go_enter Tryz.func50, Tryz.ntmps50
  go_wp2
  go_ret
  exact ⟨by first | rfl | (simp; done) | (simp [*]; done), by repeat (first | exact Drawn0.refl _ | apply Drawn0.step)⟩

/-! ### spec_l6Has: function 26 -/
def spec_l6Has.f (a0 : Int) : Option (Int) := (spec_l1In.f a0 1 15).bind fun bY => (if bY = true then ((some (([0, 9, 7, 3, 7, 7, 15, 7, 7, 3, 11, 14, 3, 10, 2, 0] : List Int) : List Int)).bind fun bk => (if 0 ≤ a0 then (if a0 < (bk.length : Int) then (some (rd bk a0)) else (none)) else (none))) else (some 0))
set_option maxHeartbeats 8000000 in
set_option maxRecDepth 100000 in
theorem spec_l6Has.calls (a0 : Int) (r : Int) (w : World) (h : spec_l6Has.f a0 = some r) :
  Calls Tryz.prog 26 #[.int .i64 a0] w fun e w' => e = .returned (.int .i64 r) ∧ Below w.heap.size w w' := by
 have HB := Aside0.mk (Below.refl w.heap.size w); have H : ((spec_l1In.f a0 1 15).bind fun bY => (if bY = true then ((some (([0, 9, 7, 3, 7, 7, 15, 7, 7, 3, 11, 14, 3, 10, 2, 0] : List Int) : List Int)).bind fun bk => (if 0 ≤ a0 then (if a0 < (bk.length : Int) then (some (rd bk a0)) else (none)) else (none))) else (some 0))) = some r := h; clear h; replace H := Option.bind_eq_some_iff.mp H; obtain ⟨bY, A20, H⟩ := H; replace H : (if bY = true then ((some (([0, 9, 7, 3, 7, 7, 15, 7, 7, 3, 11, 14, 3, 10, 2, 0] : List Int) : List Int)).bind fun bk => (if 0 ≤ a0 then (if a0 < (bk.length : Int) then (some (rd bk a0)) else (none)) else (none))) else (some 0)) = some r := H; have A2 := Aside0.mk A20; clear A20
 by_cases c3 : bY = true
 ·subst c3
  have H1 : ((some (([0, 9, 7, 3, 7, 7, 15, 7, 7, 3, 11, 14, 3, 10, 2, 0] : List Int) : List Int)).bind fun bk => (if 0 ≤ a0 then (if a0 < (bk.length : Int) then (some (rd bk a0)) else (none)) else (none))) = some r := by rw [if_pos rfl] at H; exact H
  clear H; have H := H1; clear H1; obtain ⟨bk, b4⟩ : ∃ y_ : List Int, y_ = (([0, 9, 7, 3, 7, 7, 15, 7, 7, 3, 11, 14, 3, 10, 2, 0] : List Int)) := ⟨_, rfl⟩; replace H : (if 0 ≤ a0 then (if a0 < (bk.length : Int) then (some (rd bk a0)) else (none)) else (none)) = some r := by first | (rw [b4]; with_reducible exact H) | (have H2_ := (Option.bind_some _ _).symm.trans H; rw [b4]; with_reducible exact H2_) | (have H2_ := (Option.bind_some _ _).symm.trans H; with_reducible exact H2_) | with_reducible exact H | (rw [b4]; exact H) | exact H
  have dE := Aside0.mk b4; clear b4
  by_cases c4 : 0 ≤ a0
  ·rw [if_pos c4] at H
   have c4b0 : decide (0 ≤ a0) = true := decide_eq_true c4; clear c4
   by_cases c5 : a0 < (bk.length : Int)
   ·rw [if_pos c5] at H
    have c5b0 : decide (a0 < (bk.length : Int)) = true := decide_eq_true c5; clear c5; obtain rfl := Option.some.inj H
    go_enter Tryz.func26, Tryz.ntmps26
    go_wp2_with (first | ((with_reducible refine gate_callee (f := 50) rfl ?_); refine goesM (some 4) rfl rfl Tryz.func50 (by kernel_rfl) rfl #[.int .i64 a0, .int .i64 1, .int .i64 15] rfl ?_; (with_reducible refine (spec_l1In.calls a0 1 15 true _ A2.out).mono ?_); rintro e w' ⟨rfl, ⟨nd, rfl⟩⟩; refine ⟨_, rfl, ?_⟩) | ((with_reducible refine gate_dst (N := 6) rfl ?_); refine Kd.R_lit (Kd.int .i64) _ 3 ?hg (N := 6) ?hd (xs := ([0, 9, 7, 3, 7, 7, 15, 7, 7, 3, 11, 14, 3, 10, 2, 0] : List Int)) (inner := [.int .i64 0, .int .i64 9, .int .i64 7, .int .i64 3, .int .i64 7, .int .i64 7, .int .i64 15, .int .i64 7, .int .i64 7, .int .i64 3, .int .i64 11, .int .i64 14, .int .i64 3, .int .i64 10, .int .i64 2, .int .i64 0]) (ok := fun _ => True) (okp := fun _ => True) ?hr ?hp (fun _ hk => hk) trivial (Below.refl _ _) (Nat.le_refl _) (by simp) ?_; (case hd => rfl); (case hg => rfl); (case hr => first | (go_simp; done) | (go_simp; rfl)); (case hp => exact (Reps.one (show Kd.M (Kd.int .i64) _ _ _ 0 [.int .i64 0] from rfl) (Reps.one (show Kd.M (Kd.int .i64) _ _ _ 9 [.int .i64 9] from rfl) (Reps.one (show Kd.M (Kd.int .i64) _ _ _ 7 [.int .i64 7] from rfl) (Reps.one (show Kd.M (Kd.int .i64) _ _ _ 3 [.int .i64 3] from rfl) (Reps.one (show Kd.M (Kd.int .i64) _ _ _ 7 [.int .i64 7] from rfl) (Reps.one (show Kd.M (Kd.int .i64) _ _ _ 7 [.int .i64 7] from rfl) (Reps.one (show Kd.M (Kd.int .i64) _ _ _ 15 [.int .i64 15] from rfl) (Reps.one (show Kd.M (Kd.int .i64) _ _ _ 7 [.int .i64 7] from rfl) (Reps.one (show Kd.M (Kd.int .i64) _ _ _ 7 [.int .i64 7] from rfl) (Reps.one (show Kd.M (Kd.int .i64) _ _ _ 3 [.int .i64 3] from rfl) (Reps.one (show Kd.M (Kd.int .i64) _ _ _ 11 [.int .i64 11] from rfl) (Reps.one (show Kd.M (Kd.int .i64) _ _ _ 14 [.int .i64 14] from rfl) (Reps.one (show Kd.M (Kd.int .i64) _ _ _ 3 [.int .i64 3] from rfl) (Reps.one (show Kd.M (Kd.int .i64) _ _ _ 10 [.int .i64 10] from rfl) (Reps.one (show Kd.M (Kd.int .i64) _ _ _ 2 [.int .i64 2] from rfl) (Reps.one (show Kd.M (Kd.int .i64) _ _ _ 0 [.int .i64 0] from rfl) (Reps.none _ _)))))))))))))))))); intro eN w6 b5 hb hg_ hnew_; clear hg_ hnew_; (first | rw [← dE.out] at b5 | (simp only [Int.reduceToNat] at b5; rw [← dE.out] at b5)); have dF := Aside0.mk (Kd.R_lower b5 (bsz HB)); replace HB := nbs HB hb; clear hb b5; obtain ⟨eO, eP, em⟩ := Kd.R_slice dF.out; subst em; have p108 : 0 ≤ (a0 : Int) := of_decide_eq_true (by first | (with_reducible assumption) | assumption); have q108 : a0 < (bk.length : Int) := of_decide_eq_true (by first | (with_reducible assumption) | assumption); obtain ⟨eQ, e108, eR⟩ := Kd.at_int (Kd.R_reads' dF.out).2.2 a0 p108 q108; cases e108; replace p108 := eq_true p108; replace q108 := eq_true q108))
    go_ret
    exact ⟨er_, nbe HB⟩
   ·rw [if_neg c5] at H
    exact absurd H (by simp)
  ·rw [if_neg c4] at H
   exact absurd H (by simp)
 ·replace c3 := Bool.eq_false_iff.mpr c3
  subst c3; have H1 : (some 0) = some r := by rw [if_neg (show ¬ (false = true) by decide)] at H; exact H
  clear H; have H := H1; clear H1; obtain rfl := Option.some.inj H
  go_enter Tryz.func26, Tryz.ntmps26
  go_wp2_with (first | ((with_reducible refine gate_callee (f := 50) rfl ?_); refine goesM (some 4) rfl rfl Tryz.func50 (by kernel_rfl) rfl #[.int .i64 a0, .int .i64 1, .int .i64 15] rfl ?_; (with_reducible refine (spec_l1In.calls a0 1 15 false _ A2.out).mono ?_); rintro e w' ⟨rfl, ⟨nd, rfl⟩⟩; refine ⟨_, rfl, ?_⟩))
  go_ret
  exact ⟨er_, nbe HB⟩

/-! ### spec_l1Byte: function 73 -/
def spec_l1Byte.f (s0_0 : List Int) (s0_1 : Int) (s0_2 : Int) : Option (Int × Int × Int) := if s0_1 < (s0_0.length : Int) then (if 0 ≤ s0_1 then (some (Go.bits .and .i64 (wrap64 ((Go.bits .and .i64 (Go.bits .xor .i64 ((wrap64 ((wrap64 (s0_2 * 6364136223846793005)) + 1442695040888963407)) / 8589934592) ((wrap64 ((wrap64 (s0_2 * 6364136223846793005)) + 1442695040888963407)) / 35184372088832)) 255) + (wrap64 (rd s0_0 s0_1)))) 255, wrap64 (s0_1 + 1), wrap64 ((wrap64 (s0_2 * 6364136223846793005)) + 1442695040888963407))) else (none)) else (some (Go.bits .and .i64 (Go.bits .xor .i64 ((wrap64 ((wrap64 (s0_2 * 6364136223846793005)) + 1442695040888963407)) / 8589934592) ((wrap64 ((wrap64 (s0_2 * 6364136223846793005)) + 1442695040888963407)) / 35184372088832)) 255, s0_1, wrap64 ((wrap64 (s0_2 * 6364136223846793005)) + 1442695040888963407)))
set_option maxHeartbeats 8000000 in
set_option maxRecDepth 100000 in
theorem spec_l1Byte.calls (g : Nat) (s0_0 : List Int) (s0_1 : Int) (s0_2 : Int) (r1 : Int) (r2 : Int) (r3 : Int) (w0 w : World) (hI : IsS74 w0 w g s0_0 s0_1 s0_2) (hB : Below w0.heap.size w0 w) (h : spec_l1Byte.f s0_0 s0_1 s0_2 = some (r1, r2, r3)) :
  Calls Tryz.prog 73 #[.pointer (some ⟨g, 0, none⟩)] w fun e w' => e = .returned (.int .i64 r1) ∧ IsS74 w0 w' g s0_0 r2 r3 ∧ Below w0.heap.size w0 w' ∧ KeepBut w w' g none := by
 have HI0 := Aside0.mk hI; have HK := Aside0.mk (KeepBut.refl w g none); have HL := Aside0.mk hB.size; clear hI; have HW0 := Aside0.mk hB.size; have HB := Aside0.mk hB; clear hB; have H : (if s0_1 < (s0_0.length : Int) then (if 0 ≤ s0_1 then (some (Go.bits .and .i64 (wrap64 ((Go.bits .and .i64 (Go.bits .xor .i64 ((wrap64 ((wrap64 (s0_2 * 6364136223846793005)) + 1442695040888963407)) / 8589934592) ((wrap64 ((wrap64 (s0_2 * 6364136223846793005)) + 1442695040888963407)) / 35184372088832)) 255) + (wrap64 (rd s0_0 s0_1)))) 255, wrap64 (s0_1 + 1), wrap64 ((wrap64 (s0_2 * 6364136223846793005)) + 1442695040888963407))) else (none)) else (some (Go.bits .and .i64 (Go.bits .xor .i64 ((wrap64 ((wrap64 (s0_2 * 6364136223846793005)) + 1442695040888963407)) / 8589934592) ((wrap64 ((wrap64 (s0_2 * 6364136223846793005)) + 1442695040888963407)) / 35184372088832)) 255, s0_1, wrap64 ((wrap64 (s0_2 * 6364136223846793005)) + 1442695040888963407)))) = some (r1, r2, r3) := h; clear h
 by_cases c2 : s0_1 < (s0_0.length : Int)
 ·rw [if_pos c2] at H
  have c2b0 : decide (s0_1 < (s0_0.length : Int)) = true := decide_eq_true c2; clear c2
  by_cases c3 : 0 ≤ s0_1
  ·rw [if_pos c3] at H
   have c3b0 : decide (0 ≤ s0_1) = true := decide_eq_true c3; clear c3; simp only [Option.some.injEq, Prod.mk.injEq] at H; obtain ⟨rfl, rfl, rfl⟩ := H; obtain ⟨ASz4_0, cSz4_0, HGz4, hgz4, HSz4_0⟩ := HI0.out; have eS := cellS74_0 HGz4; have eT := cellS74_1 HGz4; have eU := cellS74_2 HGz4; have eV := blk_frozen HGz4 1; have eW := blk_frozen HGz4 2; clear HGz4 hgz4; have p109 : 0 ≤ (s0_1 : Int) := of_decide_eq_true (by first | (with_reducible assumption) | assumption); have q109 : s0_1 < (s0_0.length : Int) := of_decide_eq_true (by first | (with_reducible assumption) | assumption); obtain ⟨en, e109, bZ⟩ := Kd.at_int HSz4_0 s0_1 p109 q109
   cases e109
   have hn109_0 : en.block ≠ g := Nat.ne_of_lt (Nat.lt_of_lt_of_le (by have := World.block_lt_of_cell? _ _ bZ; first | rwa [add_block] at this | exact this) (IsS74.ge HI0.out)); replace bZ := pw_cell_below HB.out bZ; replace bZ := (cell_far (p := ⟨g, 2, none⟩) (by first | (rw [add_block]; exact hn109_0) | (show (Addr.add _ _).block ≠ _; rw [add_block]; exact hn109_0) | exact hn109_0) (.int .i64 (wrap64 ((wrap64 (s0_2 * 6364136223846793005)) + 1442695040888963407)))).trans bZ; (try have eX := fun (n_ : Nat) => (show (((w.drewN n_).setCell ⟨g, 2, none⟩ (.int .i64 (wrap64 ((wrap64 (s0_2 * 6364136223846793005)) + 1442695040888963407))))).cell? _ = some _ from bZ)); clear hn109_0; replace p109 := eq_true p109; replace q109 := eq_true q109
   go_enter Tryz.func73, Tryz.ntmps73
   go_wp2
   repeat (go_quiet (fail); try go_wp2)
   go_ret
   exact ⟨er_, IsS74.n, IsS74.nb, nK HK⟩
  ·rw [if_neg c3] at H
   exact absurd H (by simp)
 ·rw [if_neg c2] at H
  have c2b0 : decide (s0_1 < (s0_0.length : Int)) = false := decide_eq_false c2; clear c2; simp only [Option.some.injEq, Prod.mk.injEq] at H; obtain ⟨rfl, rfl, rfl⟩ := H; obtain ⟨ASz5_0, cSz5_0, HGz5, hgz5, HSz5_0⟩ := HI0.out; have eY := cellS74_0 HGz5; have eZ := cellS74_1 HGz5; have e0 := cellS74_2 HGz5; have e1 := blk_frozen HGz5 1; have e2 := blk_frozen HGz5 2; clear HGz5 hgz5
  go_enter Tryz.func73, Tryz.ntmps73
  go_wp2
  repeat (go_quiet (fail); try go_wp2)
  go_ret
  exact ⟨er_, IsS74.n, IsS74.nb, nK HK⟩

/-! ### spec_l1Below: function 57 -/
def spec_l1Below.f (s0_0 : List Int) (s0_1 : Int) (s0_2 : Int) (a1 : Int) : Option (Int × Int × Int) := if a1 ≤ 0 then (some (0, s0_1, s0_2)) else (if a1 ≤ 256 then ((spec_l1Byte.f s0_0 s0_1 s0_2).bind fun bM => (if a1 = 0 then (none) else (some (Int.tmod bM.1 a1, bM.2.1, bM.2.2)))) else ((spec_l1Byte.f s0_0 s0_1 s0_2).bind fun bN => ((spec_l1Byte.f s0_0 bN.2.1 bN.2.2).bind fun bD => ((spec_l1Byte.f s0_0 bD.2.1 bD.2.2).bind fun bp => ((spec_l1Byte.f s0_0 bp.2.1 bp.2.2).bind fun bg => (if a1 = 0 then (none) else (some (Int.tmod (wrap64 ((wrap64 ((wrap64 ((wrap64 (bN.1 * 16777216)) + (wrap64 (bD.1 * 65536)))) + (wrap64 (bp.1 * 256)))) + bg.1)) a1, bg.2.1, bg.2.2))))))))
set_option maxHeartbeats 8000000 in
set_option maxRecDepth 100000 in
theorem spec_l1Below.calls (g : Nat) (s0_0 : List Int) (s0_1 : Int) (s0_2 : Int) (a1 : Int) (r1 : Int) (r2 : Int) (r3 : Int) (w0 w : World) (hI : IsS74 w0 w g s0_0 s0_1 s0_2) (hB : Below w0.heap.size w0 w) (h : spec_l1Below.f s0_0 s0_1 s0_2 a1 = some (r1, r2, r3)) :
  Calls Tryz.prog 57 #[.pointer (some ⟨g, 0, none⟩), .int .i64 a1] w fun e w' => e = .returned (.int .i64 r1) ∧ IsS74 w0 w' g s0_0 r2 r3 ∧ Below w0.heap.size w0 w' ∧ KeepBut w w' g none := by
 have HI0 := Aside0.mk hI; have HK := Aside0.mk (KeepBut.refl w g none); have HL := Aside0.mk hB.size; clear hI; have HW0 := Aside0.mk hB.size; have HB := Aside0.mk hB; clear hB; have H : (if a1 ≤ 0 then (some (0, s0_1, s0_2)) else (if a1 ≤ 256 then ((spec_l1Byte.f s0_0 s0_1 s0_2).bind fun bM => (if a1 = 0 then (none) else (some (Int.tmod bM.1 a1, bM.2.1, bM.2.2)))) else ((spec_l1Byte.f s0_0 s0_1 s0_2).bind fun bN => ((spec_l1Byte.f s0_0 bN.2.1 bN.2.2).bind fun bD => ((spec_l1Byte.f s0_0 bD.2.1 bD.2.2).bind fun bp => ((spec_l1Byte.f s0_0 bp.2.1 bp.2.2).bind fun bg => (if a1 = 0 then (none) else (some (Int.tmod (wrap64 ((wrap64 ((wrap64 ((wrap64 (bN.1 * 16777216)) + (wrap64 (bD.1 * 65536)))) + (wrap64 (bp.1 * 256)))) + bg.1)) a1, bg.2.1, bg.2.2))))))))) = some (r1, r2, r3) := h; clear h
 by_cases c3 : a1 ≤ 0
 ·rw [if_pos c3] at H
  have c3b0 : decide (a1 ≤ 0) = true := decide_eq_true c3; clear c3; simp only [Option.some.injEq, Prod.mk.injEq] at H; obtain ⟨rfl, rfl, rfl⟩ := H
  go_enter Tryz.func57, Tryz.ntmps57
  go_wp2
  go_ret
  exact ⟨er_, IsS74.n, IsS74.nb, nK HK⟩
 ·rw [if_neg c3] at H
  have c3b0 : decide (a1 ≤ 0) = false := decide_eq_false c3; clear c3
  by_cases c4 : a1 ≤ 256
  ·rw [if_pos c4] at H
   have c4b0 : decide (a1 ≤ 256) = true := decide_eq_true c4; clear c4; replace H := Option.bind_eq_some_iff.mp H; obtain ⟨⟨dG, dH, dI⟩, A50, H⟩ := H; replace H : (if a1 = 0 then (none) else (some (Int.tmod dG a1, dH, dI))) = some (r1, r2, r3) := H; have A5 := Aside0.mk A50; clear A50
   by_cases c6 : a1 = 0
   ·rw [if_pos c6] at H
    exact absurd H (by simp)
   ·rw [if_neg c6] at H
    have c6b0 : (a1 == 0) = false := beq_eq_false_iff_ne.mpr c6; have c6b1 : (a1 != 0) = true := bne_iff_ne.mpr c6; simp only [Option.some.injEq, Prod.mk.injEq] at H; obtain ⟨rfl, rfl, rfl⟩ := H
    go_enter Tryz.func57, Tryz.ntmps57
    go_wp2_with (first | ((with_reducible refine gate_callee (f := 73) rfl ?_); refine goesM (some 14) rfl rfl Tryz.func73 (by kernel_rfl) rfl #[.pointer (some ⟨g, 0, none⟩)] rfl ?_; (with_reducible refine (spec_l1Byte.calls g s0_0 s0_1 s0_2 dG dH dI w0 _ ?side1 ?side2 A5.out).mono ?_); (case side1 => exact IsS74.n); (case side2 => exact IsS74.nb); rintro e w7 ⟨rfl, hi, hb, hk⟩; refine ⟨_, rfl, ?_⟩; replace HK := Aside0.mk (KeepBut.trans (nK HK) hk (.inl rfl)); replace HB := Aside0.mk (hb); replace HI0 := Aside0.mk (hi); (try clear hb)))
    go_ret
    exact ⟨er_, IsS74.n, IsS74.nb, nK HK⟩
  ·rw [if_neg c4] at H
   have c4b0 : decide (a1 ≤ 256) = false := decide_eq_false c4; clear c4; replace H := Option.bind_eq_some_iff.mp H; obtain ⟨⟨b6, dk, dl⟩, A80, H⟩ := H; replace H : ((spec_l1Byte.f s0_0 dk dl).bind fun bD => ((spec_l1Byte.f s0_0 bD.2.1 bD.2.2).bind fun bp => ((spec_l1Byte.f s0_0 bp.2.1 bp.2.2).bind fun bg => (if a1 = 0 then (none) else (some (Int.tmod (wrap64 ((wrap64 ((wrap64 ((wrap64 (b6 * 16777216)) + (wrap64 (bD.1 * 65536)))) + (wrap64 (bp.1 * 256)))) + bg.1)) a1, bg.2.1, bg.2.2)))))) = some (r1, r2, r3) := H; have A8 := Aside0.mk A80; clear A80; replace H := Option.bind_eq_some_iff.mp H; obtain ⟨⟨di, dm, dn⟩, A90, H⟩ := H; replace H : ((spec_l1Byte.f s0_0 dm dn).bind fun bp => ((spec_l1Byte.f s0_0 bp.2.1 bp.2.2).bind fun bg => (if a1 = 0 then (none) else (some (Int.tmod (wrap64 ((wrap64 ((wrap64 ((wrap64 (b6 * 16777216)) + (wrap64 (di * 65536)))) + (wrap64 (bp.1 * 256)))) + bg.1)) a1, bg.2.1, bg.2.2))))) = some (r1, r2, r3) := H; have A9 := Aside0.mk A90; clear A90; replace H := Option.bind_eq_some_iff.mp H; obtain ⟨⟨dp, dq, dr⟩, A100, H⟩ := H; replace H : ((spec_l1Byte.f s0_0 dq dr).bind fun bg => (if a1 = 0 then (none) else (some (Int.tmod (wrap64 ((wrap64 ((wrap64 ((wrap64 (b6 * 16777216)) + (wrap64 (di * 65536)))) + (wrap64 (dp * 256)))) + bg.1)) a1, bg.2.1, bg.2.2)))) = some (r1, r2, r3) := H; have A10 := Aside0.mk A100; clear A100; replace H := Option.bind_eq_some_iff.mp H; obtain ⟨⟨dJ, dK, dL⟩, A110, H⟩ := H; replace H : (if a1 = 0 then (none) else (some (Int.tmod (wrap64 ((wrap64 ((wrap64 ((wrap64 (b6 * 16777216)) + (wrap64 (di * 65536)))) + (wrap64 (dp * 256)))) + dJ)) a1, dK, dL))) = some (r1, r2, r3) := H; have A11 := Aside0.mk A110; clear A110
   by_cases c12 : a1 = 0
   ·rw [if_pos c12] at H
    exact absurd H (by simp)
   ·rw [if_neg c12] at H
    have c12b0 : (a1 == 0) = false := beq_eq_false_iff_ne.mpr c12; have c12b1 : (a1 != 0) = true := bne_iff_ne.mpr c12; simp only [Option.some.injEq, Prod.mk.injEq] at H; obtain ⟨rfl, rfl, rfl⟩ := H
    go_enter Tryz.func57, Tryz.ntmps57
    go_wp2_with (first | ((with_reducible refine gate_callee (f := 73) rfl ?_); refine goesM (some 18) rfl rfl Tryz.func73 (by kernel_rfl) rfl #[.pointer (some ⟨g, 0, none⟩)] rfl ?_; (with_reducible refine (spec_l1Byte.calls g s0_0 s0_1 s0_2 b6 dk dl w0 _ ?side1 ?side2 A8.out).mono ?_); (case side1 => exact IsS74.n); (case side2 => exact IsS74.nb); rintro e eo ⟨rfl, hi, hb, hk⟩; refine ⟨_, rfl, ?_⟩; replace HK := Aside0.mk (KeepBut.trans (nK HK) hk (.inl rfl)); replace HB := Aside0.mk (hb); replace HI0 := Aside0.mk (hi); (try clear hb)) | ((with_reducible refine gate_callee (f := 73) rfl ?_); refine goesM (some 20) rfl rfl Tryz.func73 (by kernel_rfl) rfl #[.pointer (some ⟨g, 0, none⟩)] rfl ?_; (with_reducible refine (spec_l1Byte.calls g s0_0 dk dl di dm dn w0 _ ?side1 ?side2 A9.out).mono ?_); (case side1 => exact IsS74.n); (case side2 => exact IsS74.nb); rintro e e3 ⟨rfl, hi, hb, hk⟩; refine ⟨_, rfl, ?_⟩; replace HK := Aside0.mk (KeepBut.trans (nK HK) hk (.inl rfl)); replace HB := Aside0.mk (hb); replace HI0 := Aside0.mk (hi); (try clear hb)) | ((with_reducible refine gate_callee (f := 73) rfl ?_); refine goesM (some 22) rfl rfl Tryz.func73 (by kernel_rfl) rfl #[.pointer (some ⟨g, 0, none⟩)] rfl ?_; (with_reducible refine (spec_l1Byte.calls g s0_0 dm dn dp dq dr w0 _ ?side1 ?side2 A10.out).mono ?_); (case side1 => exact IsS74.n); (case side2 => exact IsS74.nb); rintro e e4 ⟨rfl, hi, hb, hk⟩; refine ⟨_, rfl, ?_⟩; replace HK := Aside0.mk (KeepBut.trans (nK HK) hk (.inl rfl)); replace HB := Aside0.mk (hb); replace HI0 := Aside0.mk (hi); (try clear hb)) | ((with_reducible refine gate_callee (f := 73) rfl ?_); refine goesM (some 24) rfl rfl Tryz.func73 (by kernel_rfl) rfl #[.pointer (some ⟨g, 0, none⟩)] rfl ?_; (with_reducible refine (spec_l1Byte.calls g s0_0 dq dr dJ dK dL w0 _ ?side1 ?side2 A11.out).mono ?_); (case side1 => exact IsS74.n); (case side2 => exact IsS74.nb); rintro e ep ⟨rfl, hi, hb, hk⟩; refine ⟨_, rfl, ?_⟩; replace HK := Aside0.mk (KeepBut.trans (nK HK) hk (.inl rfl)); replace HB := Aside0.mk (hb); replace HI0 := Aside0.mk (hi); (try clear hb)))
    go_ret
    exact ⟨er_, IsS74.n, IsS74.nb, nK HK⟩

/-! ### spec_l1PickInt: function 59 -/
def spec_l1PickInt.f (s0_0 : List Int) (s0_1 : Int) (s0_2 : Int) (l1 : List Int) : Option (Int × Int × Int) := (spec_l1Below.f s0_0 s0_1 s0_2 (l1.length : Int)).bind fun bE => (if 0 ≤ bE.1 then (if bE.1 < (l1.length : Int) then (some (rd l1 bE.1, bE.2.1, bE.2.2)) else (none)) else (none))
set_option maxHeartbeats 8000000 in
set_option maxRecDepth 100000 in
theorem spec_l1PickInt.calls (g : Nat) (s0_0 : List Int) (s0_1 : Int) (s0_2 : Int) (A1 : Option Addr) (c1 : Nat) (l1 : List Int) (r1 : Int) (r2 : Int) (r3 : Int) (w0 w : World) (hI : IsS74 w0 w g s0_0 s0_1 s0_2) (hB : Below w0.heap.size w0 w) (hr1 : Kd.C (Kd.int .i64) w A1 l1.length l1) (hc1 : l1.length ≤ c1) (hf1 : ∀ ad, A1 = some ad → 0 < l1.length → ad.block ≠ g) (h : spec_l1PickInt.f s0_0 s0_1 s0_2 l1 = some (r1, r2, r3)) :
  Calls Tryz.prog 59 #[.pointer (some ⟨g, 0, none⟩), .slice A1 l1.length c1] w fun e w' => e = .returned (.int .i64 r1) ∧ IsS74 w0 w' g s0_0 r2 r3 ∧ Below w0.heap.size w0 w' ∧ KeepBut w w' g none := by
 have er := Aside0.mk hr1; have e5 := Aside0.mk hc1; clear hr1 hc1; have HI0 := Aside0.mk hI; have HK := Aside0.mk (KeepBut.refl w g none); have HL := Aside0.mk hB.size; clear hI; have HW0 := Aside0.mk hB.size; have HB := Aside0.mk hB; clear hB; have H : ((spec_l1Below.f s0_0 s0_1 s0_2 (l1.length : Int)).bind fun bE => (if 0 ≤ bE.1 then (if bE.1 < (l1.length : Int) then (some (rd l1 bE.1, bE.2.1, bE.2.2)) else (none)) else (none))) = some (r1, r2, r3) := h; clear h; replace H := Option.bind_eq_some_iff.mp H; obtain ⟨⟨bF, dM, dN⟩, A30, H⟩ := H; replace H : (if 0 ≤ bF then (if bF < (l1.length : Int) then (some (rd l1 bF, dM, dN)) else (none)) else (none)) = some (r1, r2, r3) := H; have A3 := Aside0.mk A30; clear A30
 by_cases c4 : 0 ≤ bF
 ·rw [if_pos c4] at H
  have c4b0 : decide (0 ≤ bF) = true := decide_eq_true c4; clear c4
  by_cases c5 : bF < (l1.length : Int)
  ·rw [if_pos c5] at H
   have c5b0 : decide (bF < (l1.length : Int)) = true := decide_eq_true c5; clear c5; simp only [Option.some.injEq, Prod.mk.injEq] at H; obtain ⟨rfl, rfl, rfl⟩ := H
   go_enter Tryz.func59, Tryz.ntmps59
   go_wp2_with (first | ((with_reducible refine gate_callee (f := 57) rfl ?_); refine goesM (some 9) rfl rfl Tryz.func57 (by kernel_rfl) rfl #[.pointer (some ⟨g, 0, none⟩), .int .i64 (l1.length : Int)] rfl ?_; (with_reducible refine (spec_l1Below.calls g s0_0 s0_1 s0_2 (l1.length : Int) bF dM dN w0 _ ?side1 ?side2 A3.out).mono ?_); (case side1 => exact IsS74.n); (case side2 => exact IsS74.nb); rintro e w6 ⟨rfl, hi, hb, hk⟩; refine ⟨_, rfl, ?_⟩; replace HK := Aside0.mk (KeepBut.trans (nK HK) hk (.inl rfl)); replace HB := Aside0.mk (hb); replace HI0 := Aside0.mk (hi); (try clear hb); have p128 : 0 ≤ (bF : Int) := of_decide_eq_true (by first | (with_reducible assumption) | assumption); have q128 : bF < (l1.length : Int) := of_decide_eq_true (by first | (with_reducible assumption) | assumption); obtain ⟨es, e128, dO⟩ := Kd.at_int er.out bF p128 q128; cases e128; replace dO := keep_cell HK.out dO (by first | (rw [add_block]; exact hf1 _ rfl (by omega)) | exact hf1 _ rfl (by omega) | exact hf1 es rfl (by omega)); replace p128 := eq_true p128; replace q128 := eq_true q128))
   go_ret
   exact ⟨er_, IsS74.n, IsS74.nb, nK HK⟩
  ·rw [if_neg c5] at H
   exact absurd H (by simp)
 ·rw [if_neg c4] at H
  exact absurd H (by simp)

/-! ### spec_l6DrawIns: function 38 -/
mutual
def spec_l6DrawIns.j0 : Nat → Int → Int → Int → Int → List Int → Int → Int → Int → Int → Int → Int → Int → Option (Int × Int × Int × Int × Int × Int × Int)
 | 0, _, _, _, _, _, _, _, _, _, _, _, _ => none
 | k + 1, x4, x5, x6, x8, ds, bO, bP, bQ, bR, b0, b7, b8 => if (Go.bits .and .i64 x8 2) = 0 then (spec_l6DrawIns.j1 k x5 x6 x8 ds bO bP bQ bR b0 b7 b8) else (spec_l6DrawIns.j1 k x5 x6 x8 ds bO bP bQ bR x4 b7 b8)
def spec_l6DrawIns.j1 : Nat → Int → Int → Int → List Int → Int → Int → Int → Int → Int → Int → Int → Option (Int × Int × Int × Int × Int × Int × Int)
 | 0, _, _, _, _, _, _, _, _, _, _, _ => none
 | k + 1, x5, x6, x8, ds, bO, bP, bQ, bR, b0, b7, b8 => if (Go.bits .and .i64 x8 4) = 0 then (if (Go.bits .and .i64 x8 8) = 0 then (some (bQ, bR, b0, b7, b8, bO, bP)) else (some (bQ, bR, b0, b7, x6, bO, bP))) else (if (Go.bits .and .i64 x8 8) = 0 then (some (bQ, bR, b0, x5, b8, bO, bP)) else (some (bQ, bR, b0, x5, x6, bO, bP)))
end
def spec_l6DrawIns.f (k : Nat) (s0_0 : List Int) (s0_1 : Int) (s0_2 : Int) : Option (Int × Int × Int × Int × Int × Int × Int) := (spec_l1Below.f s0_0 s0_1 s0_2 4).bind fun bS => ((spec_l1Below.f s0_0 bS.2.1 bS.2.2 4).bind fun bq => ((spec_l1Below.f s0_0 bq.2.1 bq.2.2 4).bind fun bh => ((spec_l1PickInt.f s0_0 bh.2.1 bh.2.2 (([0, 0, 1, 2, 3, (-1), 20] : List Int))).bind fun bd => ((spec_l1PickInt.f s0_0 bd.2.1 bd.2.2 (([1, 1, 1, 2, 3, 4, 5, 5, 6, 6, 7, 8, 9, 10, 10, 10, 11, 11, 11, 12, 13, 13, 14, 15] : List Int))).bind fun bb => ((spec_l6Has.f bb.1).bind fun ba => (if (Go.bits .and .i64 ba 1) = 0 then (spec_l6DrawIns.j0 k bq.1 bh.1 bd.1 ba s0_0 bb.2.1 bb.2.2 bb.1 0 0 0 0) else (spec_l6DrawIns.j0 k bq.1 bh.1 bd.1 ba s0_0 bb.2.1 bb.2.2 bb.1 (wrap64 (1 + bS.1)) 0 0 0)))))))
theorem spec_l6DrawIns.mono_l : ∀ k, (∀ y0 y1 y2 y3 y4 y5 y6 y7 y8 y9 bT dt, LeO (spec_l6DrawIns.j0 k y0 y1 y2 y3 y4 y5 y6 y7 y8 y9 bT dt) (spec_l6DrawIns.j0 (k + 1) y0 y1 y2 y3 y4 y5 y6 y7 y8 y9 bT dt)) ∧ (∀ y0 y1 y2 y3 y4 y5 y6 y7 y8 y9 bT, LeO (spec_l6DrawIns.j1 k y0 y1 y2 y3 y4 y5 y6 y7 y8 y9 bT) (spec_l6DrawIns.j1 (k + 1) y0 y1 y2 y3 y4 y5 y6 y7 y8 y9 bT))
 | 0 => ⟨fun _ _ _ _ _ _ _ _ _ _ _ _ r h => by simp [spec_l6DrawIns.j0] at h, fun _ _ _ _ _ _ _ _ _ _ _ r h => by simp [spec_l6DrawIns.j1] at h⟩
 | k + 1 => by
  obtain ⟨ih0, ih1⟩ := spec_l6DrawIns.mono_l k; refine ⟨?_, ?_⟩
  ·intro y0 y1 y2 y3 y4 y5 y6 y7 y8 y9 bT dt
   unfold spec_l6DrawIns.j0
   repeat' first
   | (with_reducible exact ih0 _ _ _ _ _ _ _ _ _ _ _ _)
   | (with_reducible exact ih1 _ _ _ _ _ _ _ _ _ _ _)
   | (with_reducible exact LeO.refl _)
   | (with_reducible exact LeO.none _)
   | (with_reducible refine LeO.ite ?_ ?_)
   | (with_reducible refine LeO.bind ?_ (fun _ => ?_))
   | exact ih0 _ _ _ _ _ _ _ _ _ _ _ _
   | exact ih1 _ _ _ _ _ _ _ _ _ _ _
   | exact LeO.none _
   | refine LeO.ite ?_ ?_
   | refine LeO.bind ?_ (fun _ => ?_)
  ·intro y0 y1 y2 y3 y4 y5 y6 y7 y8 y9 bT
   unfold spec_l6DrawIns.j1
   repeat' first
   | (with_reducible exact ih0 _ _ _ _ _ _ _ _ _ _ _ _)
   | (with_reducible exact ih1 _ _ _ _ _ _ _ _ _ _ _)
   | (with_reducible exact LeO.refl _)
   | (with_reducible exact LeO.none _)
   | (with_reducible refine LeO.ite ?_ ?_)
   | (with_reducible refine LeO.bind ?_ (fun _ => ?_))
   | exact ih0 _ _ _ _ _ _ _ _ _ _ _ _
   | exact ih1 _ _ _ _ _ _ _ _ _ _ _
   | exact LeO.none _
   | refine LeO.ite ?_ ?_
   | refine LeO.bind ?_ (fun _ => ?_)
theorem spec_l6DrawIns.mono : ∀ a0 a1 a2 k, LeO (spec_l6DrawIns.f k a0 a1 a2) (spec_l6DrawIns.f (k + 1) a0 a1 a2) := by
 intro a0 a1 a2 k; obtain ⟨ih0, ih1⟩ := spec_l6DrawIns.mono_l k
 unfold spec_l6DrawIns.f
 repeat' first
   | (with_reducible exact ih0 _ _ _ _ _ _ _ _ _ _ _ _)
   | (with_reducible exact ih1 _ _ _ _ _ _ _ _ _ _ _)
   | (with_reducible exact LeO.refl _)
   | (with_reducible exact LeO.none _)
   | (with_reducible refine LeO.ite ?_ ?_)
   | (with_reducible refine LeO.bind ?_ (fun _ => ?_))
   | exact ih0 _ _ _ _ _ _ _ _ _ _ _ _
   | exact ih1 _ _ _ _ _ _ _ _ _ _ _
   | exact LeO.none _
   | refine LeO.ite ?_ ?_
   | refine LeO.bind ?_ (fun _ => ?_)
set_option maxHeartbeats 8000000 in
set_option maxRecDepth 100000 in
theorem spec_l6DrawIns.calls (k : Nat) (g : Nat) (s0_0 : List Int) (s0_1 : Int) (s0_2 : Int) (r1 : Int) (r2 : Int) (r3 : Int) (r4 : Int) (r5 : Int) (r6 : Int) (r7 : Int) (w0 w : World) (hI : IsS74 w0 w g s0_0 s0_1 s0_2) (hB : Below w0.heap.size w0 w) (h : spec_l6DrawIns.f k s0_0 s0_1 s0_2 = some (r1, r2, r3, r4, r5, r6, r7)) :
  Calls Tryz.prog 38 #[.pointer (some ⟨g, 0, none⟩)] w fun e w' => e = .returned (.agg #[.int .i64 r1, .int .i64 r2, .int .i64 r3, .int .i64 r4, .int .i64 r5]) ∧ IsS74 w0 w' g s0_0 r6 r7 ∧ Below w0.heap.size w0 w' ∧ KeepBut w w' g none := by
 have hu25 := Tryz.underlying25; have HI0 := Aside0.mk hI; have HK := Aside0.mk (KeepBut.refl w g none); have HL := Aside0.mk hB.size; clear hI; have HW0 := Aside0.mk hB.size; have HB := Aside0.mk hB; clear hB; have H : ((spec_l1Below.f s0_0 s0_1 s0_2 4).bind fun bS => ((spec_l1Below.f s0_0 bS.2.1 bS.2.2 4).bind fun bq => ((spec_l1Below.f s0_0 bq.2.1 bq.2.2 4).bind fun bh => ((spec_l1PickInt.f s0_0 bh.2.1 bh.2.2 (([0, 0, 1, 2, 3, (-1), 20] : List Int))).bind fun bd => ((spec_l1PickInt.f s0_0 bd.2.1 bd.2.2 (([1, 1, 1, 2, 3, 4, 5, 5, 6, 6, 7, 8, 9, 10, 10, 10, 11, 11, 11, 12, 13, 13, 14, 15] : List Int))).bind fun bb => ((spec_l6Has.f bb.1).bind fun ba => (if (Go.bits .and .i64 ba 1) = 0 then (spec_l6DrawIns.j0 k bq.1 bh.1 bd.1 ba s0_0 bb.2.1 bb.2.2 bb.1 0 0 0 0) else (spec_l6DrawIns.j0 k bq.1 bh.1 bd.1 ba s0_0 bb.2.1 bb.2.2 bb.1 (wrap64 (1 + bS.1)) 0 0 0)))))))) = some (r1, r2, r3, r4, r5, r6, r7) := h; clear h; replace H := Option.bind_eq_some_iff.mp H; obtain ⟨⟨bH, du, dv⟩, A20, H⟩ := H; replace H : ((spec_l1Below.f s0_0 du dv 4).bind fun bq => ((spec_l1Below.f s0_0 bq.2.1 bq.2.2 4).bind fun bh => ((spec_l1PickInt.f s0_0 bh.2.1 bh.2.2 (([0, 0, 1, 2, 3, (-1), 20] : List Int))).bind fun bd => ((spec_l1PickInt.f s0_0 bd.2.1 bd.2.2 (([1, 1, 1, 2, 3, 4, 5, 5, 6, 6, 7, 8, 9, 10, 10, 10, 11, 11, 11, 12, 13, 13, 14, 15] : List Int))).bind fun bb => ((spec_l6Has.f bb.1).bind fun ba => (if (Go.bits .and .i64 ba 1) = 0 then (spec_l6DrawIns.j0 k bq.1 bh.1 bd.1 ba s0_0 bb.2.1 bb.2.2 bb.1 0 0 0 0) else (spec_l6DrawIns.j0 k bq.1 bh.1 bd.1 ba s0_0 bb.2.1 bb.2.2 bb.1 (wrap64 (1 + bH)) 0 0 0))))))) = some (r1, r2, r3, r4, r5, r6, r7) := H; have A2 := Aside0.mk A20; clear A20; replace H := Option.bind_eq_some_iff.mp H; obtain ⟨⟨bl, dw, dx⟩, A30, H⟩ := H; replace H : ((spec_l1Below.f s0_0 dw dx 4).bind fun bh => ((spec_l1PickInt.f s0_0 bh.2.1 bh.2.2 (([0, 0, 1, 2, 3, (-1), 20] : List Int))).bind fun bd => ((spec_l1PickInt.f s0_0 bd.2.1 bd.2.2 (([1, 1, 1, 2, 3, 4, 5, 5, 6, 6, 7, 8, 9, 10, 10, 10, 11, 11, 11, 12, 13, 13, 14, 15] : List Int))).bind fun bb => ((spec_l6Has.f bb.1).bind fun ba => (if (Go.bits .and .i64 ba 1) = 0 then (spec_l6DrawIns.j0 k bl bh.1 bd.1 ba s0_0 bb.2.1 bb.2.2 bb.1 0 0 0 0) else (spec_l6DrawIns.j0 k bl bh.1 bd.1 ba s0_0 bb.2.1 bb.2.2 bb.1 (wrap64 (1 + bH)) 0 0 0)))))) = some (r1, r2, r3, r4, r5, r6, r7) := H; have A3 := Aside0.mk A30; clear A30; replace H := Option.bind_eq_some_iff.mp H; obtain ⟨⟨bm, b9, da⟩, A40, H⟩ := H; replace H : ((spec_l1PickInt.f s0_0 b9 da (([0, 0, 1, 2, 3, (-1), 20] : List Int))).bind fun bd => ((spec_l1PickInt.f s0_0 bd.2.1 bd.2.2 (([1, 1, 1, 2, 3, 4, 5, 5, 6, 6, 7, 8, 9, 10, 10, 10, 11, 11, 11, 12, 13, 13, 14, 15] : List Int))).bind fun bb => ((spec_l6Has.f bb.1).bind fun ba => (if (Go.bits .and .i64 ba 1) = 0 then (spec_l6DrawIns.j0 k bl bm bd.1 ba s0_0 bb.2.1 bb.2.2 bb.1 0 0 0 0) else (spec_l6DrawIns.j0 k bl bm bd.1 ba s0_0 bb.2.1 bb.2.2 bb.1 (wrap64 (1 + bH)) 0 0 0))))) = some (r1, r2, r3, r4, r5, r6, r7) := H; have A4 := Aside0.mk A40; clear A40; obtain ⟨dy, db⟩ : ∃ y_ : List Int, y_ = (([0, 0, 1, 2, 3, (-1), 20] : List Int)) := ⟨_, rfl⟩; replace H : ((spec_l1PickInt.f s0_0 b9 da dy).bind fun bd => ((spec_l1PickInt.f s0_0 bd.2.1 bd.2.2 (([1, 1, 1, 2, 3, 4, 5, 5, 6, 6, 7, 8, 9, 10, 10, 10, 11, 11, 11, 12, 13, 13, 14, 15] : List Int))).bind fun bb => ((spec_l6Has.f bb.1).bind fun ba => (if (Go.bits .and .i64 ba 1) = 0 then (spec_l6DrawIns.j0 k bl bm bd.1 ba s0_0 bb.2.1 bb.2.2 bb.1 0 0 0 0) else (spec_l6DrawIns.j0 k bl bm bd.1 ba s0_0 bb.2.1 bb.2.2 bb.1 (wrap64 (1 + bH)) 0 0 0))))) = some (r1, r2, r3, r4, r5, r6, r7) := by first | (rw [db]; with_reducible exact H) | (have H2_ := (Option.bind_some _ _).symm.trans H; rw [db]; with_reducible exact H2_) | (have H2_ := (Option.bind_some _ _).symm.trans H; with_reducible exact H2_) | with_reducible exact H | (rw [db]; exact H) | exact H
 have dP := Aside0.mk db; clear db; replace H := Option.bind_eq_some_iff.mp H; obtain ⟨⟨bw, b1, b2⟩, A50, H⟩ := H; replace H : ((spec_l1PickInt.f s0_0 b1 b2 (([1, 1, 1, 2, 3, 4, 5, 5, 6, 6, 7, 8, 9, 10, 10, 10, 11, 11, 11, 12, 13, 13, 14, 15] : List Int))).bind fun bb => ((spec_l6Has.f bb.1).bind fun ba => (if (Go.bits .and .i64 ba 1) = 0 then (spec_l6DrawIns.j0 k bl bm bw ba s0_0 bb.2.1 bb.2.2 bb.1 0 0 0 0) else (spec_l6DrawIns.j0 k bl bm bw ba s0_0 bb.2.1 bb.2.2 bb.1 (wrap64 (1 + bH)) 0 0 0)))) = some (r1, r2, r3, r4, r5, r6, r7) := H; have A5 := Aside0.mk A50; clear A50; obtain ⟨dz, dc⟩ : ∃ y_ : List Int, y_ = (([1, 1, 1, 2, 3, 4, 5, 5, 6, 6, 7, 8, 9, 10, 10, 10, 11, 11, 11, 12, 13, 13, 14, 15] : List Int)) := ⟨_, rfl⟩; replace H : ((spec_l1PickInt.f s0_0 b1 b2 dz).bind fun bb => ((spec_l6Has.f bb.1).bind fun ba => (if (Go.bits .and .i64 ba 1) = 0 then (spec_l6DrawIns.j0 k bl bm bw ba s0_0 bb.2.1 bb.2.2 bb.1 0 0 0 0) else (spec_l6DrawIns.j0 k bl bm bw ba s0_0 bb.2.1 bb.2.2 bb.1 (wrap64 (1 + bH)) 0 0 0)))) = some (r1, r2, r3, r4, r5, r6, r7) := by first | (rw [dc]; with_reducible exact H) | (have H2_ := (Option.bind_some _ _).symm.trans H; rw [dc]; with_reducible exact H2_) | (have H2_ := (Option.bind_some _ _).symm.trans H; with_reducible exact H2_) | with_reducible exact H | (rw [dc]; exact H) | exact H
 have dQ := Aside0.mk dc; clear dc; replace H := Option.bind_eq_some_iff.mp H; obtain ⟨⟨bi, bz, bA⟩, A60, H⟩ := H; replace H : ((spec_l6Has.f bi).bind fun ba => (if (Go.bits .and .i64 ba 1) = 0 then (spec_l6DrawIns.j0 k bl bm bw ba s0_0 bz bA bi 0 0 0 0) else (spec_l6DrawIns.j0 k bl bm bw ba s0_0 bz bA bi (wrap64 (1 + bH)) 0 0 0))) = some (r1, r2, r3, r4, r5, r6, r7) := H; have A6 := Aside0.mk A60; clear A60; replace H := Option.bind_eq_some_iff.mp H; obtain ⟨ba, A70, H⟩ := H; replace H : (if (Go.bits .and .i64 ba 1) = 0 then (spec_l6DrawIns.j0 k bl bm bw ba s0_0 bz bA bi 0 0 0 0) else (spec_l6DrawIns.j0 k bl bm bw ba s0_0 bz bA bi (wrap64 (1 + bH)) 0 0 0)) = some (r1, r2, r3, r4, r5, r6, r7) := H; have A7 := Aside0.mk A70; clear A70; have dA := Aside0.mk H; clear H
 go_enter Tryz.func38, Tryz.ntmps38
 go_upto_if 28 with (first | ((with_reducible refine gate_dst (N := 2) rfl ?_); refine bxe 2 #[.int .i64 0, .int .i64 0, .int .i64 0, .int .i64 0, .int .i64 0] 25 ?_; intro bo hg w9 hbox hb; have br := Aside0.mk (IsS74.below (IsS74.n) hb); have bs := Aside0.mk (KeepBut.trans (nK HK) (KeepBut.of_below hb g none) (.inl rfl)); have bt := Aside0.mk (below_step (IsS74.nb) hb); have bu := hbox; have bv := Aside0.mk ((by rw [hg]; exact (keep_size (w := w) (g := g) (row := none) (nK HK)) : w.heap.size ≤ bo)); have bG := Aside0.mk ((Nat.le_trans HW0.out (by rw [hg]; exact (keep_size (w := w) (g := g) (row := none) (nK HK)) : w.heap.size ≤ bo) : w0.heap.size ≤ bo)); have bL := Aside0.mk ((by rw [hg]; exact Nat.ne_of_lt (IsS74.lt (show IsS74 w0 _ g s0_0 s0_1 s0_2 from IsS74.n)) : g ≠ bo)); have dd := Aside0.mk ((by rw [hg]; exact Nat.ne_of_gt (IsS74.lt (show IsS74 w0 _ g s0_0 s0_1 s0_2 from IsS74.n)) : bo ≠ g)); clear HI0 HK HB; have HI0 := br; have HK := bs; have HB := bt; have bc := bu; have e6 := bv; have e7 := bG; have dj := bL; have bI := dd; clear br bs bt bu bv bG bL dd; clear hb hbox hg) | ((with_reducible refine gate_callee (f := 57) rfl ?_); refine goesM (some 10) rfl rfl Tryz.func57 (by kernel_rfl) rfl #[.pointer (some ⟨g, 0, none⟩), .int .i64 4] rfl ?_; (with_reducible refine (spec_l1Below.calls g s0_0 s0_1 s0_2 4 bH du dv w0 _ ?side1 ?side2 A2.out).mono ?_); (case side1 => exact IsS74.n); (case side2 => exact IsS74.nb); rintro e e8 ⟨rfl, hi, hb, hk⟩; refine ⟨_, rfl, ?_⟩; replace bc := Aside0.mk (KeepBut.blk hk (g' := bo) (o := .cells #[.int .i64 0, .int .i64 0, .int .i64 0, .int .i64 0, .int .i64 0] 25 (0, 0)) (nb bc) bI.out (by simp)); replace HK := Aside0.mk (KeepBut.trans (nK HK) hk (.inl rfl)); replace HB := Aside0.mk (hb); replace HI0 := Aside0.mk (hi); (try clear hb)) | ((with_reducible refine gate_callee (f := 57) rfl ?_); refine goesM (some 13) rfl rfl Tryz.func57 (by kernel_rfl) rfl #[.pointer (some ⟨g, 0, none⟩), .int .i64 4] rfl ?_; (with_reducible refine (spec_l1Below.calls g s0_0 du dv 4 bl dw dx w0 _ ?side1 ?side2 A3.out).mono ?_); (case side1 => exact IsS74.n); (case side2 => exact IsS74.nb); rintro e e9 ⟨rfl, hi, hb, hk⟩; refine ⟨_, rfl, ?_⟩; replace bc := Aside0.mk (KeepBut.blk hk (g' := bo) (o := .cells #[.int .i64 0, .int .i64 0, .int .i64 0, .int .i64 0, .int .i64 0] 25 (0, 0)) (nb bc) bI.out (by simp)); replace HK := Aside0.mk (KeepBut.trans (nK HK) hk (.inl rfl)); replace HB := Aside0.mk (hb); replace HI0 := Aside0.mk (hi); (try clear hb)) | ((with_reducible refine gate_callee (f := 57) rfl ?_); refine goesM (some 15) rfl rfl Tryz.func57 (by kernel_rfl) rfl #[.pointer (some ⟨g, 0, none⟩), .int .i64 4] rfl ?_; (with_reducible refine (spec_l1Below.calls g s0_0 dw dx 4 bm b9 da w0 _ ?side1 ?side2 A4.out).mono ?_); (case side1 => exact IsS74.n); (case side2 => exact IsS74.nb); rintro e ga ⟨rfl, hi, hb, hk⟩; refine ⟨_, rfl, ?_⟩; replace bc := Aside0.mk (KeepBut.blk hk (g' := bo) (o := .cells #[.int .i64 0, .int .i64 0, .int .i64 0, .int .i64 0, .int .i64 0] 25 (0, 0)) (nb bc) bI.out (by simp)); replace HK := Aside0.mk (KeepBut.trans (nK HK) hk (.inl rfl)); replace HB := Aside0.mk (hb); replace HI0 := Aside0.mk (hi); (try clear hb)) | ((with_reducible refine gate_dst (N := 17) rfl ?_); refine Kd.R_lit (Kd.int .i64) _ 3 ?hg (N := 17) ?hd (xs := ([0, 0, 1, 2, 3, (-1), 20] : List Int)) (inner := [.int .i64 0, .int .i64 0, .int .i64 1, .int .i64 2, .int .i64 3, .int .i64 (-1), .int .i64 20]) (ok := fun _ => True) (okp := fun _ => True) ?hr ?hp (fun _ hk => hk) trivial (Below.refl _ _) (Nat.le_refl _) (by simp) ?_; (case hd => rfl); (case hg => rfl); (case hr => first | (go_simp; done) | (go_simp; rfl)); (case hp => exact (Reps.one (show Kd.M (Kd.int .i64) _ _ _ 0 [.int .i64 0] from rfl) (Reps.one (show Kd.M (Kd.int .i64) _ _ _ 0 [.int .i64 0] from rfl) (Reps.one (show Kd.M (Kd.int .i64) _ _ _ 1 [.int .i64 1] from rfl) (Reps.one (show Kd.M (Kd.int .i64) _ _ _ 2 [.int .i64 2] from rfl) (Reps.one (show Kd.M (Kd.int .i64) _ _ _ 3 [.int .i64 3] from rfl) (Reps.one (show Kd.M (Kd.int .i64) _ _ _ (-1) [.int .i64 (-1)] from rfl) (Reps.one (show Kd.M (Kd.int .i64) _ _ _ 20 [.int .i64 20] from rfl) (Reps.none _ _))))))))); intro gb eo de hb hg_ hnew_; clear hg_ hnew_; (first | rw [← dP.out] at de | (simp only [Int.reduceToNat] at de; rw [← dP.out] at de)); have br := Aside0.mk (Kd.R_lower de (keep_size (w := w) (g := g) (row := none) (nK HK))); have bs := Aside0.mk (IsS74.below (IsS74.n) hb); have bt := nblk bc hb; have bu := Aside0.mk (KeepBut.trans (nK HK) (KeepBut.of_below hb g none) (.inl rfl)); have bv := Aside0.mk (below_step (IsS74.nb) hb); clear HI0 bc HK HB; have bj := br; have HI0 := bs; have bc := bt; have HK := bu; have HB := bv; clear br bs bt bu bv; clear hb de; obtain ⟨et, eu, ev⟩ := Kd.R_slice bj.out; subst ev) | ((with_reducible refine gate_callee (f := 59) rfl ?_); refine goesM (some 18) rfl rfl Tryz.func59 (by kernel_rfl) rfl #[.pointer (some ⟨g, 0, none⟩), .slice et dy.length eu] rfl ?_; (with_reducible refine (spec_l1PickInt.calls g s0_0 b9 da _ _ dy bw b1 b2 w0 _ ?side1 ?side2 ?side3 ?side4 ?side5 A5.out).mono ?_); (case side1 => exact IsS74.n); (case side2 => exact IsS74.nb); (case side3 => repeat (first | exact (Kd.R_reads' bj.out).2.2 | (with_reducible refine Kd.C_alloc ?_ _) | (with_reducible refine Kd.C_drewN ?_ _) | (with_reducible refine Kd.C_drew ?_))); (case side4 => exact (Kd.R_reads' bj.out).2.1); (case side5 => exact far_slice (IsS74.own_ne HI0.out bj.out (by decide))); rintro e ep ⟨rfl, hi, hb, hk⟩; refine ⟨_, rfl, ?_⟩; replace bc := Aside0.mk (KeepBut.blk hk (g' := bo) (o := .cells #[.int .i64 0, .int .i64 0, .int .i64 0, .int .i64 0, .int .i64 0] 25 (0, 0)) (nb bc) bI.out (by simp)); replace bj := Aside0.mk (Kd.R_mono (Kd.R_keep (IsS74.apart (show IsS74 w0 _ g s0_0 b9 da from IsS74.n) (nRo bj) (by decide)) hk (fun _ h => h.2)) (fun _ h => h.1)); replace HK := Aside0.mk (KeepBut.trans (nK HK) hk (.inl rfl)); replace HB := Aside0.mk (hb); replace HI0 := Aside0.mk (hi); (try clear hb)) | ((with_reducible refine gate_dst (N := 20) rfl ?_); refine Kd.R_lit (Kd.int .i64) _ 3 ?hg (N := 20) ?hd (xs := ([1, 1, 1, 2, 3, 4, 5, 5, 6, 6, 7, 8, 9, 10, 10, 10, 11, 11, 11, 12, 13, 13, 14, 15] : List Int)) (inner := [.int .i64 1, .int .i64 1, .int .i64 1, .int .i64 2, .int .i64 3, .int .i64 4, .int .i64 5, .int .i64 5, .int .i64 6, .int .i64 6, .int .i64 7, .int .i64 8, .int .i64 9, .int .i64 10, .int .i64 10, .int .i64 10, .int .i64 11, .int .i64 11, .int .i64 11, .int .i64 12, .int .i64 13, .int .i64 13, .int .i64 14, .int .i64 15]) (ok := fun _ => True) (okp := fun _ => True) ?hr ?hp (fun _ hk => hk) trivial (Below.refl _ _) (Nat.le_refl _) (by simp) ?_; (case hd => rfl); (case hg => rfl); (case hr => first | (go_simp; done) | (go_simp; rfl)); (case hp => exact (Reps.one (show Kd.M (Kd.int .i64) _ _ _ 1 [.int .i64 1] from rfl) (Reps.one (show Kd.M (Kd.int .i64) _ _ _ 1 [.int .i64 1] from rfl) (Reps.one (show Kd.M (Kd.int .i64) _ _ _ 1 [.int .i64 1] from rfl) (Reps.one (show Kd.M (Kd.int .i64) _ _ _ 2 [.int .i64 2] from rfl) (Reps.one (show Kd.M (Kd.int .i64) _ _ _ 3 [.int .i64 3] from rfl) (Reps.one (show Kd.M (Kd.int .i64) _ _ _ 4 [.int .i64 4] from rfl) (Reps.one (show Kd.M (Kd.int .i64) _ _ _ 5 [.int .i64 5] from rfl) (Reps.one (show Kd.M (Kd.int .i64) _ _ _ 5 [.int .i64 5] from rfl) (Reps.one (show Kd.M (Kd.int .i64) _ _ _ 6 [.int .i64 6] from rfl) (Reps.one (show Kd.M (Kd.int .i64) _ _ _ 6 [.int .i64 6] from rfl) (Reps.one (show Kd.M (Kd.int .i64) _ _ _ 7 [.int .i64 7] from rfl) (Reps.one (show Kd.M (Kd.int .i64) _ _ _ 8 [.int .i64 8] from rfl) (Reps.one (show Kd.M (Kd.int .i64) _ _ _ 9 [.int .i64 9] from rfl) (Reps.one (show Kd.M (Kd.int .i64) _ _ _ 10 [.int .i64 10] from rfl) (Reps.one (show Kd.M (Kd.int .i64) _ _ _ 10 [.int .i64 10] from rfl) (Reps.one (show Kd.M (Kd.int .i64) _ _ _ 10 [.int .i64 10] from rfl) (Reps.one (show Kd.M (Kd.int .i64) _ _ _ 11 [.int .i64 11] from rfl) (Reps.one (show Kd.M (Kd.int .i64) _ _ _ 11 [.int .i64 11] from rfl) (Reps.one (show Kd.M (Kd.int .i64) _ _ _ 11 [.int .i64 11] from rfl) (Reps.one (show Kd.M (Kd.int .i64) _ _ _ 12 [.int .i64 12] from rfl) (Reps.one (show Kd.M (Kd.int .i64) _ _ _ 13 [.int .i64 13] from rfl) (Reps.one (show Kd.M (Kd.int .i64) _ _ _ 13 [.int .i64 13] from rfl) (Reps.one (show Kd.M (Kd.int .i64) _ _ _ 14 [.int .i64 14] from rfl) (Reps.one (show Kd.M (Kd.int .i64) _ _ _ 15 [.int .i64 15] from rfl) (Reps.none _ _)))))))))))))))))))))))))); intro gc gd b3 hb hg_ hnew_; clear hg_ hnew_; (first | rw [← dQ.out] at b3 | (simp only [Int.reduceToNat] at b3; rw [← dQ.out] at b3)); have br := Aside0.mk (Kd.R_elder' (nRo bj) (Kd.R_base b3) hb); have bs := Aside0.mk (Kd.R_lower (Kd.R_new' b3 (Kd.R_lt (nRo bj))) (keep_size (w := w) (g := g) (row := none) (nK HK))); have bt := Aside0.mk (IsS74.below (IsS74.n) hb); have bu := nblk bc hb; have bv := Aside0.mk (KeepBut.trans (nK HK) (KeepBut.of_below hb g none) (.inl rfl)); have bG := Aside0.mk (below_step (IsS74.nb) hb); clear bj HI0 bc HK HB; have bj := br; have bB := bs; have HI0 := bt; have bc := bu; have HK := bv; have HB := bG; clear br bs bt bu bv bG; clear hb b3; obtain ⟨ew, ex, ey⟩ := Kd.R_slice bB.out; subst ey) | ((with_reducible refine gate_callee (f := 59) rfl ?_); refine goesM (some 21) rfl rfl Tryz.func59 (by kernel_rfl) rfl #[.pointer (some ⟨g, 0, none⟩), .slice ew dz.length ex] rfl ?_; (with_reducible refine (spec_l1PickInt.calls g s0_0 b1 b2 _ _ dz bi bz bA w0 _ ?side1 ?side2 ?side3 ?side4 ?side5 A6.out).mono ?_); (case side1 => exact IsS74.n); (case side2 => exact IsS74.nb); (case side3 => repeat (first | exact (Kd.R_reads' bB.out).2.2 | (with_reducible refine Kd.C_alloc ?_ _) | (with_reducible refine Kd.C_drewN ?_ _) | (with_reducible refine Kd.C_drew ?_))); (case side4 => exact (Kd.R_reads' bB.out).2.1); (case side5 => exact far_slice (IsS74.own_ne HI0.out bB.out (by decide))); rintro e gf ⟨rfl, hi, hb, hk⟩; refine ⟨_, rfl, ?_⟩; replace bc := Aside0.mk (KeepBut.blk hk (g' := bo) (o := .cells #[.int .i64 0, .int .i64 0, .int .i64 0, .int .i64 0, .int .i64 0] 25 (0, 0)) (nb bc) bI.out (by simp)); replace bj := Aside0.mk (Kd.R_mono (Kd.R_keep (IsS74.apart (show IsS74 w0 _ g s0_0 b1 b2 from IsS74.n) (nRo bj) (by decide)) hk (fun _ h => h.2)) (fun _ h => h.1)); replace bB := Aside0.mk (Kd.R_mono (Kd.R_keep (IsS74.apart (show IsS74 w0 _ g s0_0 b1 b2 from IsS74.n) (nRo bB) (by decide)) hk (fun _ h => h.2)) (fun _ h => h.1)); replace HK := Aside0.mk (KeepBut.trans (nK HK) hk (.inl rfl)); replace HB := Aside0.mk (hb); replace HI0 := Aside0.mk (hi); (try clear hb)) | ((with_reducible refine gate_dst (N := 7) rfl ?_); refine bxe 7 #[.int .i64 0, .int .i64 0, .int .i64 0, .int .i64 0, .int .i64 0] 25 ?_; intro bx hg ez hbox hb; have br := nR bj hb; have bs := nR bB hb; have bt := Aside0.mk (IsS74.below (IsS74.n) hb); have bu := nblk bc hb; have bv := Aside0.mk (KeepBut.trans (nK HK) (KeepBut.of_below hb g none) (.inl rfl)); have bG := Aside0.mk (below_step (IsS74.nb) hb); have bL := hbox; have dd := Aside0.mk ((by rw [hg]; exact (keep_size (w := w) (g := g) (row := none) (nK HK)) : w.heap.size ≤ bx)); have dR := Aside0.mk ((Nat.le_trans HW0.out (by rw [hg]; exact (keep_size (w := w) (g := g) (row := none) (nK HK)) : w.heap.size ≤ bx) : w0.heap.size ≤ bx)); have dS := nlt bc hg; have dT := ngt bc hg; have dU := Aside0.mk ((by rw [hg]; exact Nat.ne_of_lt (IsS74.lt (show IsS74 w0 _ g s0_0 bz bA from IsS74.n)) : g ≠ bx)); have dV := Aside0.mk ((by rw [hg]; exact Nat.ne_of_gt (IsS74.lt (show IsS74 w0 _ g s0_0 bz bA from IsS74.n)) : bx ≠ g)); clear bj bB HI0 bc HK HB; have bj := br; have bB := bs; have HI0 := bt; have bc := bu; have HK := bv; have HB := bG; have bf := bL; have gg := dd; have gh := dR; have bC := dS; have bU := dT; have bV := dU; have bW := dV; clear br bs bt bu bv bG bL dd dR dS dT dU dV; clear hb hbox hg; have gi := bU.out; have gj := bC.out; have gl := bW.out; have gm := bV.out; obtain ⟨dW, dX, dY, dZ, d0⟩ := c5e bf; obtain ⟨d1, d2, d3, d4, d5⟩ := z5_ bf) | ((with_reducible refine gate_callee (f := 26) rfl ?_); refine goesM (some 25) rfl rfl Tryz.func26 (by kernel_rfl) rfl #[.int .i64 bi] rfl ?_; (with_reducible refine (spec_l6Has.calls bi ba _ A7.out).mono ?_); rintro e gn ⟨rfl, hb⟩; refine ⟨_, rfl, ?_⟩; have br := Aside0.mk (Kd.R_below (by (with_reducible repeat (first | apply Kd.R_alloc | apply Kd.R_drewN | apply Kd.R_drew)); exact (f5 (Kd.R_types bj.out bf.out (by decide)))) hb); have bs := Aside0.mk (Kd.R_below (by (with_reducible repeat (first | apply Kd.R_alloc | apply Kd.R_drewN | apply Kd.R_drew)); exact (f5 (Kd.R_types bB.out bf.out (by decide)))) hb); have bt := Aside0.mk (IsS74.below (show IsS74 w0 (((((ez.setCell ⟨bx, 0, none⟩ (.int .i64 bi)).setCell ⟨bx, 1, none⟩ (.int .i64 0)).setCell ⟨bx, 2, none⟩ (.int .i64 0)).setCell ⟨bx, 3, none⟩ (.int .i64 0)).setCell ⟨bx, 4, none⟩ (.int .i64 0)) g s0_0 bz bA from IsS74.n) hb); have bu := nblk bc hb; have bv := Aside0.mk (blk_below (g := bx) (o := .cells #[.int .i64 bi, .int .i64 0, .int .i64 0, .int .i64 0, .int .i64 0] 25 (0, 0)) (q5 bf) hb); have bG := Aside0.mk (KeepBut.trans (nK HK) (KeepBut.of_below hb g none) (.inl rfl)); have bL := Aside0.mk (below_step (IsS74.nb) hb); clear bj bB HI0 bc bf HK HB; have bj := br; have bB := bs; have HI0 := bt; have bc := bu; have bf := bv; have HK := bG; have HB := bL; clear br bs bt bu bv bG bL; (try clear hb)))
 (try simp only [Act.put, List.setIfInBounds_toArray, List.set_cons_zero, List.set_cons_succ])
 go_cut [] (fun wc => ∃ (kq : Nat) (bJ : Int), Aside0 (spec_l6DrawIns.j0 kq bl bm bw ba s0_0 bz bA bi bJ 0 0 0 = some (r1, r2, r3, r4, r5, r6, r7)) ∧ Aside0 (kq ≤ k) ∧ Aside0 (wc.heap[bo]? = some (.cells #[.int .i64 0, .int .i64 0, .int .i64 0, .int .i64 0, .int .i64 0] 25 (0, 0))) ∧ Aside0 (wc.heap[bx]? = some (.cells #[.int .i64 bi, .int .i64 bJ, .int .i64 0, .int .i64 0, .int .i64 0] 25 (0, 0))) ∧ Aside0 (IsS74 w0 wc g s0_0 bz bA) ∧ Aside0 (KeepBut w wc g none) ∧ Aside0 (Below w0.heap.size w0 wc))
 case first =>
  have H := dA.out; clear dA
  by_cases c26 : (Go.bits .and .i64 ba 1) = 0
  ·rw [if_pos c26] at H
   have c26b0 : ((Go.bits .and .i64 ba 1) == 0) = true := beq_iff_eq.mpr c26; have c26b1 : ((Go.bits .and .i64 ba 1) != 0) = false := bne_eq_false_iff_eq.mpr c26; clear c26; (first | rw [c26b0] | (simp only [i64_w, i32_w]; rw [c26b0]) | skip); have H' := Aside0.mk H; clear H; go_wp2
   go_meet
   case rel => exact ⟨_, (0), H', ⟨by first | omega | exact Nat.le_refl _⟩, ⟨nb bc⟩, ⟨nb bf⟩, ⟨IsS74.n⟩, ⟨nK HK⟩, ⟨IsS74.nb⟩⟩
  ·rw [if_neg c26] at H
   have c26b0 : ((Go.bits .and .i64 ba 1) == 0) = false := beq_eq_false_iff_ne.mpr c26; have c26b1 : ((Go.bits .and .i64 ba 1) != 0) = true := bne_iff_ne.mpr c26; (first | rw [c26b0] | (simp only [i64_w, i32_w]; rw [c26b0]) | skip); have H' := Aside0.mk H; clear H; have gp := bU.out; have gq := bC.out; have gr := bW.out; have gs := bV.out; obtain ⟨d6, d7, d8, d9, ea⟩ := c5e bf; obtain ⟨eb, ec, ed, ee, ef⟩ := z5_ bf; go_wp2
   go_meet
   case rel => exact ⟨_, (wrap64 (1 + bH)), H', ⟨by first | omega | exact Nat.le_refl _⟩, ⟨k1_ bC.out (nb bc)⟩, ⟨qp bf⟩, ⟨IsS74.n⟩, ⟨nK HK⟩, ⟨IsS74.nb⟩⟩
 case rest =>
  clear dA; try clear c2
  try clear p2
  try clear c3
  try clear c5
  try clear p6
  try clear c22
  try clear c23
  try clear c26
  try clear c26b0
  try clear c26b1
  try clear c27
  try clear c28
  try clear dW
  try clear dX
  try clear dY
  try clear dZ
  try clear d0
  try clear d6
  try clear d7
  try clear d8
  try clear d9
  try clear ea
  try clear d1
  try clear d2
  try clear d3
  try clear d4
  try clear d5
  try clear eb
  try clear ec
  try clear ed
  try clear ee
  try clear ef
  obtain ⟨kq, bJ, HA, eg, bc, bf, HI0, HK, HB⟩ := hcut
  cases kq with
  | zero => exact absurd HA.out (by simp [spec_l6DrawIns.j0])
  | succ kj7 =>
   have H := HA.out; clear HA; simp only [spec_l6DrawIns.j0] at H; have dB := Aside0.mk H; clear H
   go_upto_if 33 with (fail)
   go_cut [] (fun wc => ∃ (kq : Nat) (bX : Int), Aside0 (spec_l6DrawIns.j1 kq bm bw ba s0_0 bz bA bi bJ bX 0 0 = some (r1, r2, r3, r4, r5, r6, r7)) ∧ Aside0 (kq ≤ kj7) ∧ Aside0 (wc.heap[bo]? = some (.cells #[.int .i64 0, .int .i64 0, .int .i64 0, .int .i64 0, .int .i64 0] 25 (0, 0))) ∧ Aside0 (wc.heap[bx]? = some (.cells #[.int .i64 bi, .int .i64 bJ, .int .i64 bX, .int .i64 0, .int .i64 0] 25 (0, 0))) ∧ Aside0 (IsS74 w0 wc g s0_0 bz bA) ∧ Aside0 (KeepBut w wc g none) ∧ Aside0 (Below w0.heap.size w0 wc))
   case first =>
    have H := dB.out; clear dB
    by_cases c31 : (Go.bits .and .i64 ba 2) = 0
    ·rw [if_pos c31] at H
     have c31b0 : ((Go.bits .and .i64 ba 2) == 0) = true := beq_iff_eq.mpr c31; have c31b1 : ((Go.bits .and .i64 ba 2) != 0) = false := bne_eq_false_iff_eq.mpr c31; clear c31; (first | rw [c31b0] | (simp only [i64_w, i32_w]; rw [c31b0]) | skip); have H' := Aside0.mk H; clear H; go_wp2
     go_meet
     case rel => exact ⟨_, (0), H', ⟨by have := eg.out; first | omega | exact Nat.le_refl _⟩, ⟨nb bc⟩, ⟨nb bf⟩, ⟨IsS74.n⟩, ⟨nK HK⟩, ⟨IsS74.nb⟩⟩
    ·rw [if_neg c31] at H
     have c31b0 : ((Go.bits .and .i64 ba 2) == 0) = false := beq_eq_false_iff_ne.mpr c31; have c31b1 : ((Go.bits .and .i64 ba 2) != 0) = true := bne_iff_ne.mpr c31; (first | rw [c31b0] | (simp only [i64_w, i32_w]; rw [c31b0]) | skip); have H' := Aside0.mk H; clear H; have gt := bU.out; have gu := bC.out; have gv := bW.out; have gw := bV.out; obtain ⟨eA, eB, eC, eD, eE⟩ := c5e bf; obtain ⟨eF, eG, eH, eI, eJ⟩ := z5_ bf; go_wp2
     go_meet
     case rel => exact ⟨_, (bl), H', ⟨by have := eg.out; first | omega | exact Nat.le_refl _⟩, ⟨k1_ bC.out (nb bc)⟩, ⟨qp bf⟩, ⟨IsS74.n⟩, ⟨nK HK⟩, ⟨IsS74.nb⟩⟩
   case rest =>
    clear dB; try clear c2
    try clear p2
    try clear c3
    try clear c5
    try clear p6
    try clear c22
    try clear c23
    try clear c26
    try clear c26b0
    try clear c26b1
    try clear c27
    try clear c28
    try clear c31
    try clear c31b0
    try clear c31b1
    try clear c32
    try clear c33
    try clear dW
    try clear dX
    try clear dY
    try clear dZ
    try clear d0
    try clear d6
    try clear d7
    try clear d8
    try clear d9
    try clear ea
    try clear eA
    try clear eB
    try clear eC
    try clear eD
    try clear eE
    try clear d1
    try clear d2
    try clear d3
    try clear d4
    try clear d5
    try clear eb
    try clear ec
    try clear ed
    try clear ee
    try clear ef
    try clear eF
    try clear eG
    try clear eH
    try clear eI
    try clear eJ
    try clear p2
    try clear p6
    obtain ⟨kq, bX, HA, gx, bc, bf, HI0, HK, HB⟩ := hcut
    cases kq with
    | zero => exact absurd HA.out (by simp [spec_l6DrawIns.j1])
    | succ kj29 =>
     have H := HA.out; clear HA; simp only [spec_l6DrawIns.j1] at H
     by_cases c35 : (Go.bits .and .i64 ba 4) = 0
     ·rw [if_pos c35] at H
      have c35b0 : ((Go.bits .and .i64 ba 4) == 0) = true := beq_iff_eq.mpr c35; have c35b1 : ((Go.bits .and .i64 ba 4) != 0) = false := bne_eq_false_iff_eq.mpr c35; clear c35
      by_cases c36 : (Go.bits .and .i64 ba 8) = 0
      ·rw [if_pos c36] at H
       have c36b0 : ((Go.bits .and .i64 ba 8) == 0) = true := beq_iff_eq.mpr c36; have c36b1 : ((Go.bits .and .i64 ba 8) != 0) = false := bne_eq_false_iff_eq.mpr c36; clear c36; simp only [Option.some.injEq, Prod.mk.injEq] at H; obtain ⟨rfl, rfl, rfl, rfl, rfl, rfl, rfl⟩ := H; have gy := bU.out; have gz := bC.out; have gA := bW.out; have gB := bV.out; obtain ⟨gC, gD, gE, gF, gG⟩ := c5e bf; obtain ⟨gH, gI, gJ, gK, gL⟩ := z5_ bf; have gM := bI.out; have gN := dj.out; obtain ⟨gO, gP, gQ, gR, gS⟩ := c5e bc; obtain ⟨gT, gU, gV, gW, gX⟩ := z5_ bc; go_wp2; refine bodyPost_ret (results_cell_row rfl _ _ bo 25 #[.int .i64 bi, .int .i64 bJ, .int .i64 bX, .int .i64 0, .int .i64 0] (0, 0) _ rfl (q5 bc) Tryz.underlying25 rfl (by kernel_rfl)) rfl ?_; exact ⟨er_, IsS74.n, IsS74.nb, nK HK⟩
      ·rw [if_neg c36] at H
       have c36b0 : ((Go.bits .and .i64 ba 8) == 0) = false := beq_eq_false_iff_ne.mpr c36; have c36b1 : ((Go.bits .and .i64 ba 8) != 0) = true := bne_iff_ne.mpr c36; simp only [Option.some.injEq, Prod.mk.injEq] at H; obtain ⟨rfl, rfl, rfl, rfl, rfl, rfl, rfl⟩ := H; have gY := bU.out; have gZ := bC.out; have g0 := bW.out; have g1 := bV.out; obtain ⟨g2, g3, g4, g5, g6⟩ := c5e bf; obtain ⟨g7, g8, g9, ha, hc⟩ := z5_ bf; have hf := bI.out; have hh := dj.out; obtain ⟨hj, hl, hm, hn, hs⟩ := c5e bc; obtain ⟨hu, hv, hx, hy, hz⟩ := z5_ bc; go_wp2; refine bodyPost_ret (results_cell_row rfl _ _ bo 25 #[.int .i64 bi, .int .i64 bJ, .int .i64 bX, .int .i64 0, .int .i64 bw] (0, 0) _ rfl (p5 bc (k1_ bC.out (nb bc))) Tryz.underlying25 rfl (by kernel_rfl)) rfl ?_; exact ⟨er_, IsS74.n, IsS74.nb, nK HK⟩
     ·rw [if_neg c35] at H
      have c35b0 : ((Go.bits .and .i64 ba 4) == 0) = false := beq_eq_false_iff_ne.mpr c35; have c35b1 : ((Go.bits .and .i64 ba 4) != 0) = true := bne_iff_ne.mpr c35
      by_cases c47 : (Go.bits .and .i64 ba 8) = 0
      ·rw [if_pos c47] at H
       have c47b0 : ((Go.bits .and .i64 ba 8) == 0) = true := beq_iff_eq.mpr c47; have c47b1 : ((Go.bits .and .i64 ba 8) != 0) = false := bne_eq_false_iff_eq.mpr c47; clear c47; simp only [Option.some.injEq, Prod.mk.injEq] at H; obtain ⟨rfl, rfl, rfl, rfl, rfl, rfl, rfl⟩ := H; have hA := bU.out; have hC := bC.out; have hD := bW.out; have hE := bV.out; obtain ⟨hF, hG, hH, hJ, hK⟩ := c5e bf; obtain ⟨hL, hM, hN, hO, hQ⟩ := z5_ bf; have hR := bI.out; have hS := dj.out; obtain ⟨hT, hU, hV, hW, hX⟩ := c5e bc; obtain ⟨hY, hZ, h0, h1, h2⟩ := z5_ bc; go_wp2; refine bodyPost_ret (results_cell_row rfl _ _ bo 25 #[.int .i64 bi, .int .i64 bJ, .int .i64 bX, .int .i64 bm, .int .i64 0] (0, 0) _ rfl (p5 bc (k1_ bC.out (nb bc))) Tryz.underlying25 rfl (by kernel_rfl)) rfl ?_; exact ⟨er_, IsS74.n, IsS74.nb, nK HK⟩
      ·rw [if_neg c47] at H
       have c47b0 : ((Go.bits .and .i64 ba 8) == 0) = false := beq_eq_false_iff_ne.mpr c47; have c47b1 : ((Go.bits .and .i64 ba 8) != 0) = true := bne_iff_ne.mpr c47; simp only [Option.some.injEq, Prod.mk.injEq] at H; obtain ⟨rfl, rfl, rfl, rfl, rfl, rfl, rfl⟩ := H; have h3 := bU.out; have h4 := bC.out; have h5 := bW.out; have h6 := bV.out; obtain ⟨h7, h8, h9, ia, ib⟩ := c5e bf; obtain ⟨ic, ig, ih, ii, ij⟩ := z5_ bf; have ik := bI.out; have il := dj.out; obtain ⟨im, io, ip, iq, ir⟩ := c5e bc; obtain ⟨iu, iv, iw, ix, iy⟩ := z5_ bc; go_wp2; refine bodyPost_ret (results_cell_row rfl _ _ bo 25 #[.int .i64 bi, .int .i64 bJ, .int .i64 bX, .int .i64 bm, .int .i64 bw] (0, 0) _ rfl (p5 bc (k2_ bC.out (nb bc))) Tryz.underlying25 rfl (by kernel_rfl)) rfl ?_; exact ⟨er_, IsS74.n, IsS74.nb, nK HK⟩

end Go.Proofs.YtlmcikjjeidnfaaGreatDoor.PFnTexts
