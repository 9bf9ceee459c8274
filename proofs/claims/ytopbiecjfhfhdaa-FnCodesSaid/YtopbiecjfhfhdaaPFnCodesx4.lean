-- Written by a program of this session (wip/patch.py turns a copy of the kit's print): the functions that the law reaches, and their walks.
import Derived.Test.YtopbiecjfhfhdaaPFnCodesx0
import Derived.Test.YtopbiecjfhfhdaaPFnCodesx2
import Derived.Test.YtopbiecjfhfhdaaPFnCodesx3
import Derived.Test.YtopbiecjfhfhdaaCFnCodes
namespace Go.Proofs.Ytopbiecjfhfhdaa.PFnCodes
open Go.RowKit Go.Proofs.YtopbiecjfhfhdaaW.PrintWords Go.Proofs.YtopbiecjfhfhdaaW.PrintLast Go.Proofs.YtopbiecjfhfhdaaW.PrintMore Go.Proofs.YtopbiecjfhfhdaaW.Mine
attribute [local go_sem] max2_int min2_int max_two min_two max_three min_three max_four min_four   -- for this text's walks alone
set_option linter.unusedVariables false
set_option linter.unusedSimpArgs false

/-! ### impl_CodeOk: function 23 -/
def impl_CodeOk.f (k : Nat) (l0 : List (S25)) : Option (Bool) := (impl_in.f (l0.length : Int) 1 48).bind fun bY => (if bY = true then ((CF_impl_CodeOk_1.f k l0 ()).bind fun bG => (some (!bG))) else (some false))
theorem impl_CodeOk.mono : ∀ a0 k, LeO (impl_CodeOk.f k a0) (impl_CodeOk.f (k + 1) a0) := by
 intro a0 k
 unfold impl_CodeOk.f
 repeat' first
   | (with_reducible exact CF_impl_CodeOk_1.mono _ _ _)
   | (with_reducible exact LeO.refl _)
   | (with_reducible exact LeO.none _)
   | (with_reducible refine LeO.ite ?_ ?_)
   | (with_reducible refine LeO.bind ?_ (fun _ => ?_))
   | exact CF_impl_CodeOk_1.mono _ _ _
   | exact LeO.none _
   | refine LeO.ite ?_ ?_
   | refine LeO.bind ?_ (fun _ => ?_)
set_option maxHeartbeats 8000000 in
set_option maxRecDepth 100000 in
theorem impl_CodeOk.calls (k : Nat) (A0 : Option Addr) (c0 : Nat) (l0 : List (S25)) (r : Bool) (w : World) (hr0 : Kd.C k25 w A0 l0.length l0) (hc0 : l0.length ≤ c0) (h : impl_CodeOk.f k l0 = some r) :
  Calls Try.prog 23 #[.slice A0 l0.length c0] w fun e w' => e = .returned (.bool r) ∧ Below w.heap.size w w' := by
 have bZ := Aside0.mk hr0; have di := Aside0.mk hc0; clear hr0 hc0; have HB := Aside0.mk (Below.refl w.heap.size w); have H : ((impl_in.f (l0.length : Int) 1 48).bind fun bY => (if bY = true then ((CF_impl_CodeOk_1.f k l0 ()).bind fun bG => (some (!bG))) else (some false))) = some r := h; clear h; replace H := Option.bind_eq_some_iff.mp H; obtain ⟨bY, A20, H⟩ := H; replace H : (if bY = true then ((CF_impl_CodeOk_1.f k l0 ()).bind fun bG => (some (!bG))) else (some false)) = some r := H; have A2 := Aside0.mk A20; clear A20
 by_cases c3 : bY = true
 ·subst c3
  have H1 : ((CF_impl_CodeOk_1.f k l0 ()).bind fun bG => (some (!bG))) = some r := by rw [if_pos rfl] at H; exact H
  clear H; have H := H1; clear H1; replace H := Option.bind_eq_some_iff.mp H; obtain ⟨bG, A40, H⟩ := H; replace H : (some (!bG)) = some r := H; have A4 := Aside0.mk A40; clear A40; obtain rfl := Option.some.inj H
  go_enter Try.func23, Try.ntmps23
  go_wp2_with (first | ((with_reducible refine gate_callee (f := 40) rfl ?_); refine goesM (some 5) rfl rfl Try.func40 (by kernel_rfl) rfl #[.int .i64 (l0.length : Int), .int .i64 1, .int .i64 48] rfl ?_; (with_reducible refine (impl_in.calls (l0.length : Int) 1 48 true _ A2.out).mono ?_); rintro e w' ⟨rfl, ⟨nd, rfl⟩⟩; refine ⟨_, rfl, ?_⟩) | (go_at_call 41; (with_reducible refine (CF_impl_CodeOk_1.calls k _ _ l0 () bG _ ?side1 ?side2 A4.out).mono ?_); (case side1 => exact nC bZ); (case side2 => exact di.out); rintro e w5 ⟨rfl, hb⟩; replace HB := nbs HB hb; (try clear hb)))
  go_ret
  exact ⟨er_, nbe HB⟩
 ·replace c3 := Bool.eq_false_iff.mpr c3
  subst c3; have H1 : (some false) = some r := by rw [if_neg (show ¬ (false = true) by decide)] at H; exact H
  clear H; have H := H1; clear H1; obtain rfl := Option.some.inj H
  go_enter Try.func23, Try.ntmps23
  go_wp2_with (first | ((with_reducible refine gate_callee (f := 40) rfl ?_); refine goesM (some 5) rfl rfl Try.func40 (by kernel_rfl) rfl #[.int .i64 (l0.length : Int), .int .i64 1, .int .i64 48] rfl ?_; (with_reducible refine (impl_in.calls (l0.length : Int) 1 48 false _ A2.out).mono ?_); rintro e w' ⟨rfl, ⟨nd, rfl⟩⟩; refine ⟨_, rfl, ?_⟩))
  go_ret
  exact ⟨er_, nbe HB⟩

/-! ### laws_big: function 25 -/
def laws_big.f (l0 : List Int) : Option (Bool) := some (decide ((l0.length : Int) > 1048576))
set_option maxHeartbeats 8000000 in
set_option maxRecDepth 100000 in
theorem laws_big.calls (A0 : Option Addr) (c0 : Nat) (l0 : List Int) (r : Bool) (w : World) (hr0 : Kd.C (Kd.int .u8) w A0 l0.length l0) (hc0 : l0.length ≤ c0) (h : laws_big.f l0 = some r) :
  Calls Try.prog 25 #[.slice A0 l0.length c0] w fun e w' => e = .returned (.bool r) ∧ Drawn0 w w' := by
 have bZ := Aside0.mk hr0; have di := Aside0.mk hc0; clear hr0 hc0; have H : (some (decide ((l0.length : Int) > 1048576))) = some r := h; clear h; obtain rfl := Option.some.inj H
 go_enter Try.func25, Try.ntmps25
 go_wp2
 go_ret
 exact ⟨by first | rfl | (simp; done) | (simp [*]; done), by repeat (first | exact Drawn0.refl _ | apply Drawn0.step)⟩

/-- A state of type 81 at block g of W; what its slices lead to came in by w0. -/
def IsS81 (w0 W : World) (g : Nat) (f0 : List Int) (f1 : Int) (f2 : Int) : Prop := ∃ A0 c0, W.heap[g]? = some (.cells #[.slice A0 f0.length c0, .int .i64 f1, .int .i64 f2] 81 (0, 0)) ∧ w0.heap.size ≤ g ∧ Kd.C (Kd.int .u8) w0 A0 f0.length f0
theorem IsS81.grown {w0 W : World} {g : Nat} {f0 : List Int} {f1 : Int} {f2 : Int} {W1 : World} {row : Option Nat} (h : IsS81 w0 W g f0 f1 f2) (hw : W.grownBy W1 row) (hne : some g ≠ row) : IsS81 w0 W1 g f0 f1 f2 := by
 obtain ⟨A0, c0, hb, hg, hr0⟩ := h; exact ⟨A0, c0, blk_grown hb hw hne, hg, hr0⟩
theorem IsS81.own_neN {w0 W : World} {g : Nat} {f0 : List Int} {f1 : Int} {f2 : Int} {α : Type} {d : Kd α} {e : Nat} {base : Nat} {ok : Nat → Prop} {v : Value} {xs : List α} (h : IsS81 w0 W g f0 f1 f2) (ho : Kd.N d e W base ok v xs) (ht : e ≠ 81) : some g ≠ v.ownBlock := by
 obtain ⟨A0, c0, hb, hg, hr0⟩ := h; exact Kd.N_ne ho hb ht
theorem IsS81.fresh {w0 W : World} {g : Nat} {f0 : List Int} {f1 : Int} {f2 : Int} (h : IsS81 w0 W g f0 f1 f2) : ∀ k, W.heap.size ≤ k → k ≠ g := by
 obtain ⟨A0, c0, hb, hg, hr0⟩ := h; exact Kd.freshB hb
theorem IsS81.kept {w0 W : World} {g : Nat} {f0 : List Int} {f1 : Int} {f2 : Int} {W1 : World} {S : Nat → Prop} (h : IsS81 w0 W g f0 f1 f2) (hk : Kept W W1 S) (hne : ¬ S g) : IsS81 w0 W1 g f0 f1 f2 := by
 obtain ⟨A0, c0, hb, hg, hr0⟩ := h; exact ⟨A0, c0, blk_kept hb hk hne, hg, hr0⟩
theorem IsS81.below {w0 W : World} {g : Nat} {f0 : List Int} {f1 : Int} {f2 : Int} {W1 : World} (h : IsS81 w0 W g f0 f1 f2) (hw : Below W.heap.size W W1) : IsS81 w0 W1 g f0 f1 f2 := h.grown (grown_of_below hw none) (by simp)
theorem IsS81.alloc {w0 W : World} {g : Nat} {f0 : List Int} {f1 : Int} {f2 : Int} (h : IsS81 w0 W g f0 f1 f2) (o : Obj) : IsS81 w0 (W.alloc o) g f0 f1 f2 := h.below (below_alloc (Below.refl _ _) o)
theorem IsS81.drewN {w0 W : World} {g : Nat} {f0 : List Int} {f1 : Int} {f2 : Int} (h : IsS81 w0 W g f0 f1 f2) (m : Nat) : IsS81 w0 (W.drewN m) g f0 f1 f2 := h
theorem IsS81.drew {w0 W : World} {g : Nat} {f0 : List Int} {f1 : Int} {f2 : Int} (h : IsS81 w0 W g f0 f1 f2) : IsS81 w0 W.drew g f0 f1 f2 := h
theorem IsS81.at_ {w0 W : World} {g : Nat} {f0 : List Int} {f1 : Int} {f2 : Int} {w' : World} {m : Nat} (hq : W.drewN m = w') (h : IsS81 w0 W g f0 f1 f2) : IsS81 w0 w' g f0 f1 f2 := by subst hq; exact IsS81.drewN h m
theorem IsS81.apart {w0 W : World} {g : Nat} {f0 : List Int} {f1 : Int} {f2 : Int} {α : Type} {d : Kd α} {e : Nat} {base : Nat} {ok : Nat → Prop} {v : Value} {xs : List α} (h : IsS81 w0 W g f0 f1 f2) (ho : d.R e W base ok v xs) (ht : ∀ q, q ∈ e :: d.E → q ≠ 81) : d.R e W base (fun k => ok k ∧ k ≠ g) v xs := by
 obtain ⟨A0, c0, hb, hg, hr0⟩ := h; exact Kd.R_types ho hb ht
theorem IsS81.own_ne {w0 W : World} {g : Nat} {f0 : List Int} {f1 : Int} {f2 : Int} {α : Type} {d : Kd α} {e : Nat} {base : Nat} {ok : Nat → Prop} {v : Value} {xs : List α} (h : IsS81 w0 W g f0 f1 f2) (ho : d.R e W base ok v xs) (ht : e ≠ 81) : some g ≠ v.ownBlock := by
 obtain ⟨A0, c0, hb, hg, hr0⟩ := h; exact Kd.R_ne ho hb ht
theorem IsS81.apartQ {w0 W : World} {g : Nat} {f0 : List Int} {f1 : Int} {f2 : Int} {α : Type} {d : Kd α} {e : Nat} {base : Nat} {ok : Nat → Prop} {v : Value} {xs : List α} (h : IsS81 w0 W g f0 f1 f2) (ho : d.Q e W base ok v xs) (ht : ∀ q, q ∈ e :: d.E → q ≠ 81) : d.Q e W base (fun k => ok k ∧ k ≠ g) v xs := by
 obtain ⟨A0, c0, hb, hg, hr0⟩ := h; exact Kd.Q_types ho hb ht
theorem IsS81.own_neQ {w0 W : World} {g : Nat} {f0 : List Int} {f1 : Int} {f2 : Int} {α : Type} {d : Kd α} {e : Nat} {base : Nat} {ok : Nat → Prop} {v : Value} {xs : List α} (h : IsS81 w0 W g f0 f1 f2) (ho : d.Q e W base ok v xs) (ht : e ≠ 81) : some g ≠ v.ownBlock := by
 obtain ⟨A0, c0, hb, hg, hr0⟩ := h; exact Kd.Q_ne ho hb ht
theorem IsS81.apartS {w0 W : World} {g : Nat} {f0 : List Int} {f1 : Int} {f2 : Int} {α : Type} {d : Kd α} {e : Nat} {base : Nat} {ok : Nat → Prop} {v : Value} {xs : List α} (h : IsS81 w0 W g f0 f1 f2) (ho : d.S e W base ok v xs) (ht : ∀ q, q ∈ e :: d.E → q ≠ 81) : d.S e W base (fun k => ok k ∧ k ≠ g) v xs := by
 obtain ⟨A0, c0, hb, hg, hr0⟩ := h; exact Kd.S_types ho hb ht
theorem IsS81.own_neS {w0 W : World} {g : Nat} {f0 : List Int} {f1 : Int} {f2 : Int} {α : Type} {d : Kd α} {e : Nat} {base : Nat} {ok : Nat → Prop} {v : Value} {xs : List α} (h : IsS81 w0 W g f0 f1 f2) (ho : d.S e W base ok v xs) (ht : e ≠ 81) : some g ≠ v.ownBlock := by
 obtain ⟨A0, c0, hb, hg, hr0⟩ := h; exact Kd.S_ne ho hb ht
theorem IsS81.lt {w0 W : World} {g : Nat} {f0 : List Int} {f1 : Int} {f2 : Int} (h : IsS81 w0 W g f0 f1 f2) : g < W.heap.size := by
 obtain ⟨A0, c0, hb, hg, hr0⟩ := h; exact blk_lt hb
theorem IsS81.ge {w0 W : World} {g : Nat} {f0 : List Int} {f1 : Int} {f2 : Int} (h : IsS81 w0 W g f0 f1 f2) : w0.heap.size ≤ g := by
 obtain ⟨A0, c0, hb, hg, hr0⟩ := h; exact hg
theorem IsS81.ne_blk {w0 W : World} {g : Nat} {f0 : List Int} {f1 : Int} {f2 : Int} {a : Nat} {cs : Array Value} {t : TypeId} {fr : Nat × Nat} (h : IsS81 w0 W g f0 f1 f2) (hb2 : W.heap[a]? = some (.cells cs t fr)) (ht : t ≠ 81) : g ≠ a := by
 obtain ⟨A0, c0, hb, hg, hr0⟩ := h; rintro rfl; rw [hb] at hb2
 injection hb2 with hb2
 injection hb2 with _ ht2
 exact ht ht2.symm
theorem IsS81.far {w0 W : World} {g : Nat} {f0 : List Int} {f1 : Int} {f2 : Int} {p : Addr} (h : IsS81 w0 W g f0 f1 f2) (hne : g ≠ p.block) (u : Value) : IsS81 w0 (W.setCell p u) g f0 f1 f2 := by
 obtain ⟨A0, c0, hb, hg, hr0⟩ := h; exact ⟨A0, c0, blk_far hb hne u, hg, hr0⟩
theorem cellS81_0 {W : World} {g : Nat} {A0 : Option Addr} {c0 : Nat} {f0 : List Int} {f1 : Int} {f2 : Int} (h : W.heap[g]? = some (.cells #[.slice A0 f0.length c0, .int .i64 f1, .int .i64 f2] 81 (0, 0))) : W.cell? ⟨g, 0, none⟩ = some (.slice A0 f0.length c0) := (blk_cell h 0).trans rfl
theorem cellS81_1 {W : World} {g : Nat} {A0 : Option Addr} {c0 : Nat} {f0 : List Int} {f1 : Int} {f2 : Int} (h : W.heap[g]? = some (.cells #[.slice A0 f0.length c0, .int .i64 f1, .int .i64 f2] 81 (0, 0))) : W.cell? ⟨g, 1, none⟩ = some (.int .i64 f1) := (blk_cell h 1).trans rfl
theorem IsS81.set_1 {w0 W : World} {g : Nat} {f0 : List Int} {f1 : Int} {f2 : Int} (h : IsS81 w0 W g f0 f1 f2) (x : Int) : IsS81 w0 (W.setCell ⟨g, 1, none⟩ (.int .i64 x)) g f0 x f2 := by
 obtain ⟨A0, c0, hb, hg, hr0⟩ := h; exact ⟨A0, c0, by simpa using blk_set hb 1 (.int .i64 x), hg, hr0⟩
theorem cellS81_2 {W : World} {g : Nat} {A0 : Option Addr} {c0 : Nat} {f0 : List Int} {f1 : Int} {f2 : Int} (h : W.heap[g]? = some (.cells #[.slice A0 f0.length c0, .int .i64 f1, .int .i64 f2] 81 (0, 0))) : W.cell? ⟨g, 2, none⟩ = some (.int .i64 f2) := (blk_cell h 2).trans rfl
theorem IsS81.set_2 {w0 W : World} {g : Nat} {f0 : List Int} {f1 : Int} {f2 : Int} (h : IsS81 w0 W g f0 f1 f2) (x : Int) : IsS81 w0 (W.setCell ⟨g, 2, none⟩ (.int .i64 x)) g f0 f1 x := by
 obtain ⟨A0, c0, hb, hg, hr0⟩ := h; exact ⟨A0, c0, by simpa using blk_set hb 2 (.int .i64 x), hg, hr0⟩
theorem IsS81.new (w0 W : World) (A0 : Option Addr) (c0 : Nat) (f0 : List Int) (f1 : Int) (f2 : Int) (hB : Below w0.heap.size w0 W) (hr0 : Kd.C (Kd.int .u8) w0 A0 f0.length f0) : IsS81 w0 (W.alloc (.cells #[.slice A0 f0.length c0, .int .i64 f1, .int .i64 f2] 81)) W.heap.size f0 f1 f2 := ⟨A0, c0, by simpa using heap_alloc_new W _, hB.size, hr0⟩

theorem IsS81.n {w0 W : World} {g : Nat} {f0 : List Int} {f1 : Int} {f2 : Int} (h : IsS81 w0 W g f0 f1 f2 := by repeat (first | (with_reducible first | exact Aside0.out (by assumption) | apply IsS81.alloc | apply IsS81.drewN | apply IsS81.drew | apply IsS81.set_1 | apply IsS81.set_2 | refine IsS81.far ?_ (Aside0.out (by assumption)) _) | exact Aside0.out (by assumption))) : IsS81 w0 W g f0 f1 f2 := h
theorem IsS81.nb {w W : World} (h : Below w.heap.size w W := by repeat (first | (with_reducible first | exact Aside0.out (by assumption) | apply below_alloc | apply pw_below_drewN | apply below_drew1 | refine below_set ?_ (Aside0.out (by assumption)) | refine below_set ?_ (IsS81.ge (Aside0.out (by assumption)))) | exact Aside0.out (by assumption))) : Below w.heap.size w W := h
/-! ### spec_l1New: function 44 -/
def spec_l1New.l0 : Nat → List Int → Int → Int → Option (List Int × Int × Int)
 | 0, _, _, _ => none
 | k + 1, x0, x3, x4 => if x4 < (x0.length : Int) then (if x4 < 4000 then (if 0 ≤ x4 then (spec_l1New.l0 k x0 (Go.bits .and .i64 (wrap64 ((wrap64 ((wrap64 (x3 * 131)) + (wrap64 (rd x0 x4)))) + 7)) 1073741823) (wrap64 (x4 + 1))) else (none)) else (some (x0, 0, x3))) else (some (x0, 0, x3))
def spec_l1New.f (k : Nat) (l0 : List Int) : Option (List Int × Int × Int) := spec_l1New.l0 k l0 (wrap64 (19220 + (l0.length : Int))) 0
theorem spec_l1New.mono_l : ∀ k, (∀ y0 y1 y2, LeO (spec_l1New.l0 k y0 y1 y2) (spec_l1New.l0 (k + 1) y0 y1 y2))
 | 0 => fun _ _ _ r h => by simp [spec_l1New.l0] at h
 | k + 1 => by
  have ih0 := spec_l1New.mono_l k
  ·intro y0 y1 y2
   unfold spec_l1New.l0
   repeat' first
   | (with_reducible exact ih0 _ _ _)
   | (with_reducible exact LeO.refl _)
   | (with_reducible exact LeO.none _)
   | (with_reducible refine LeO.ite ?_ ?_)
   | (with_reducible refine LeO.bind ?_ (fun _ => ?_))
   | exact ih0 _ _ _
   | exact LeO.none _
   | refine LeO.ite ?_ ?_
   | refine LeO.bind ?_ (fun _ => ?_)
theorem spec_l1New.mono : ∀ a0 k, LeO (spec_l1New.f k a0) (spec_l1New.f (k + 1) a0) := by
 intro a0 k; have ih0 := spec_l1New.mono_l k
 unfold spec_l1New.f
 repeat' first
   | (with_reducible exact ih0 _ _ _)
   | (with_reducible exact LeO.refl _)
   | (with_reducible exact LeO.none _)
   | (with_reducible refine LeO.ite ?_ ?_)
   | (with_reducible refine LeO.bind ?_ (fun _ => ?_))
   | exact ih0 _ _ _
   | exact LeO.none _
   | refine LeO.ite ?_ ?_
   | refine LeO.bind ?_ (fun _ => ?_)
set_option maxHeartbeats 8000000 in
set_option maxRecDepth 100000 in
theorem spec_l1New.calls (k : Nat) (A0 : Option Addr) (c0 : Nat) (l0 : List Int) (r1 : List Int) (r2 : Int) (r3 : Int) (w0 w : World) (hB : Below w0.heap.size w0 w) (hr0 : Kd.C (Kd.int .u8) w0 A0 l0.length l0) (hc0 : l0.length ≤ c0) (h : spec_l1New.f k l0 = some (r1, r2, r3)) :
  Calls Try.prog 44 #[.slice A0 l0.length c0] w fun e w' => ∃ g_ : Nat, e = .returned (.pointer (some ⟨g_, 0, none⟩)) ∧ IsS81 w0 w' g_ r1 r2 r3 ∧ Below w0.heap.size w0 w' ∧ Below w.heap.size w w' := by
 have hu81 := Try.underlying81; have bZ := Aside0.mk hr0; have di := Aside0.mk hc0; clear hr0 hc0; have HBW := Aside0.mk (Below.refl w.heap.size w); have HW0 := Aside0.mk hB.size; have HB := Aside0.mk hB; clear hB; have H : (spec_l1New.l0 k l0 (wrap64 (19220 + (l0.length : Int))) 0) = some (r1, r2, r3) := h; clear h; have H' := Aside0.mk H; clear H
 go_enter Try.func44, Try.ntmps44
 go_wp2
 go_loopg [3, 4] k (fun kq v3 v4 w' => ∃ (bK : Int) (bm : Int), v3 = .int .i64 bK ∧ v4 = .int .i64 bm ∧ Aside0 (spec_l1New.l0 kq l0 bK bm = some (r1, r2, r3)) ∧ Aside0 (kq ≤ k) ∧ Aside0 (Below w.heap.size w w') ∧ Aside0 (Below w0.heap.size w0 w'))
 case atStart => exact ⟨(wrap64 (19220 + (l0.length : Int))), (0), (by first | rfl | (simp; done) | (simp [*]; done)), (by first | rfl | (simp; done) | (simp [*]; done)), H', ⟨Nat.le_refl _⟩, ⟨nbe HBW⟩, ⟨nbe HB⟩⟩
 case round =>
  clear H'; obtain ⟨bK, bm, rfl, rfl, HA, dB, HBW, HB⟩ := hrel
  cases gk with
  | zero => exact absurd HA.out (by simp [spec_l1New.l0])
  | succ k1 =>
   have H := HA.out; clear HA; simp only [spec_l1New.l0] at H
   by_cases c2 : bm < (l0.length : Int)
   ·rw [if_pos c2] at H
    have c2b0 : decide (bm < (l0.length : Int)) = true := decide_eq_true c2; clear c2
    by_cases c3 : bm < 4000
    ·rw [if_pos c3] at H
     have c3b0 : decide (bm < 4000) = true := decide_eq_true c3; clear c3
     by_cases c4 : 0 ≤ bm
     ·rw [if_pos c4] at H
      have c4b0 : decide (0 ≤ bm) = true := decide_eq_true c4; clear c4; have H' := Aside0.mk H; clear H; have p140 : 0 ≤ (bm : Int) := of_decide_eq_true (by first | (with_reducible assumption) | assumption); have q140 : bm < (l0.length : Int) := of_decide_eq_true (by first | (with_reducible assumption) | assumption); obtain ⟨eF, e140, dC⟩ := Kd.at_int bZ.out bm p140 q140
      cases e140
      replace dC := pw_cell_below HB.out dC; replace p140 := eq_true p140; replace q140 := eq_true q140; go_wp2
      go_roundg k1
      case measure => have := dB.out; omega
      case rel => exact ⟨(Go.bits .and .i64 (wrap64 ((wrap64 ((wrap64 (bK * 131)) + (wrap64 (rd l0 bm)))) + 7)) 1073741823), (wrap64 (bm + 1)), (by first | rfl | (simp; done) | (simp [*]; done)), (by first | rfl | (simp; done) | (simp [*]; done)), H', ⟨by have := dB.out; omega⟩, ⟨nbe HBW⟩, ⟨nbe HB⟩⟩
     ·rw [if_neg c4] at H
      exact absurd H (by simp)
    ·rw [if_neg c3] at H
     have c3b0 : decide (bm < 4000) = false := decide_eq_false c3; clear c3; simp only [Option.some.injEq, Prod.mk.injEq] at H; obtain ⟨rfl, rfl, rfl⟩ := H
     go_wp2_with (first | ((with_reducible refine gate_dst (N := 31) rfl ?_); refine bxe 31 #[.slice A0 l0.length c0, .int .i64 0, .int .i64 bK] 81 ?_; intro de hg w5 hbox hb; have ee := hbox; have eG := Aside0.mk ((by rw [hg]; exact (below_size (nbe HBW)) : w.heap.size ≤ de)); have ef := Aside0.mk ((Nat.le_trans HW0.out (by rw [hg]; exact (below_size (nbe HBW)) : w.heap.size ≤ de) : w0.heap.size ≤ de)); replace HBW := Aside0.mk (below_step HBW.out hb); replace HB := nbs HB hb; clear hb hbox hg))
     go_ret
     exact ⟨_, rfl, (show IsS81 w0 _ de l0 0 bK from ⟨_, _, nb ee, ef.out, bZ.out⟩), nbe HB, nbe HBW⟩
   ·rw [if_neg c2] at H
    have c2b0 : decide (bm < (l0.length : Int)) = false := decide_eq_false c2; clear c2; simp only [Option.some.injEq, Prod.mk.injEq] at H; obtain ⟨rfl, rfl, rfl⟩ := H
    go_wp2_with (first | ((with_reducible refine gate_dst (N := 31) rfl ?_); refine bxe 31 #[.slice A0 l0.length c0, .int .i64 0, .int .i64 bK] 81 ?_; intro df hg w6 hbox hb; have eg := hbox; have eH := Aside0.mk ((by rw [hg]; exact (below_size (nbe HBW)) : w.heap.size ≤ df)); have eh := Aside0.mk ((Nat.le_trans HW0.out (by rw [hg]; exact (below_size (nbe HBW)) : w.heap.size ≤ df) : w0.heap.size ≤ df)); replace HBW := Aside0.mk (below_step HBW.out hb); replace HB := nbs HB hb; clear hb hbox hg))
    go_ret
    exact ⟨_, rfl, (show IsS81 w0 _ df l0 0 bK from ⟨_, _, nb eg, eh.out, bZ.out⟩), nbe HB, nbe HBW⟩

/-! ### spec_l1Byte: function 56 -/
def spec_l1Byte.f (s0_0 : List Int) (s0_1 : Int) (s0_2 : Int) : Option (Int × Int × Int) := if s0_1 < (s0_0.length : Int) then (if 0 ≤ s0_1 then (some (Go.bits .and .i64 (wrap64 ((Go.bits .and .i64 (Go.bits .xor .i64 ((wrap64 ((wrap64 (s0_2 * 6364136223846793005)) + 1442695040888963407)) / 8589934592) ((wrap64 ((wrap64 (s0_2 * 6364136223846793005)) + 1442695040888963407)) / 35184372088832)) 255) + (wrap64 (rd s0_0 s0_1)))) 255, wrap64 (s0_1 + 1), wrap64 ((wrap64 (s0_2 * 6364136223846793005)) + 1442695040888963407))) else (none)) else (some (Go.bits .and .i64 (Go.bits .xor .i64 ((wrap64 ((wrap64 (s0_2 * 6364136223846793005)) + 1442695040888963407)) / 8589934592) ((wrap64 ((wrap64 (s0_2 * 6364136223846793005)) + 1442695040888963407)) / 35184372088832)) 255, s0_1, wrap64 ((wrap64 (s0_2 * 6364136223846793005)) + 1442695040888963407)))
set_option maxHeartbeats 8000000 in
set_option maxRecDepth 100000 in
theorem spec_l1Byte.calls (g : Nat) (s0_0 : List Int) (s0_1 : Int) (s0_2 : Int) (r1 : Int) (r2 : Int) (r3 : Int) (w0 w : World) (hI : IsS81 w0 w g s0_0 s0_1 s0_2) (hB : Below w0.heap.size w0 w) (h : spec_l1Byte.f s0_0 s0_1 s0_2 = some (r1, r2, r3)) :
  Calls Try.prog 56 #[.pointer (some ⟨g, 0, none⟩)] w fun e w' => e = .returned (.int .i64 r1) ∧ IsS81 w0 w' g s0_0 r2 r3 ∧ Below w0.heap.size w0 w' ∧ KeepBut w w' g none := by
 have HI0 := Aside0.mk hI; have HK := Aside0.mk (KeepBut.refl w g none); have HL := Aside0.mk hB.size; clear hI; have HW0 := Aside0.mk hB.size; have HB := Aside0.mk hB; clear hB; have H : (if s0_1 < (s0_0.length : Int) then (if 0 ≤ s0_1 then (some (Go.bits .and .i64 (wrap64 ((Go.bits .and .i64 (Go.bits .xor .i64 ((wrap64 ((wrap64 (s0_2 * 6364136223846793005)) + 1442695040888963407)) / 8589934592) ((wrap64 ((wrap64 (s0_2 * 6364136223846793005)) + 1442695040888963407)) / 35184372088832)) 255) + (wrap64 (rd s0_0 s0_1)))) 255, wrap64 (s0_1 + 1), wrap64 ((wrap64 (s0_2 * 6364136223846793005)) + 1442695040888963407))) else (none)) else (some (Go.bits .and .i64 (Go.bits .xor .i64 ((wrap64 ((wrap64 (s0_2 * 6364136223846793005)) + 1442695040888963407)) / 8589934592) ((wrap64 ((wrap64 (s0_2 * 6364136223846793005)) + 1442695040888963407)) / 35184372088832)) 255, s0_1, wrap64 ((wrap64 (s0_2 * 6364136223846793005)) + 1442695040888963407)))) = some (r1, r2, r3) := h; clear h
 by_cases c2 : s0_1 < (s0_0.length : Int)
 ·rw [if_pos c2] at H
  have c2b0 : decide (s0_1 < (s0_0.length : Int)) = true := decide_eq_true c2; clear c2
  by_cases c3 : 0 ≤ s0_1
  ·rw [if_pos c3] at H
   have c3b0 : decide (0 ≤ s0_1) = true := decide_eq_true c3; clear c3; simp only [Option.some.injEq, Prod.mk.injEq] at H; obtain ⟨rfl, rfl, rfl⟩ := H; obtain ⟨ASz4_0, cSz4_0, HGz4, hgz4, HSz4_0⟩ := HI0.out; have eI := cellS81_0 HGz4; have eJ := cellS81_1 HGz4; have eK := cellS81_2 HGz4; have eL := blk_frozen HGz4 1; have eM := blk_frozen HGz4 2; clear HGz4 hgz4; have p143 : 0 ≤ (s0_1 : Int) := of_decide_eq_true (by first | (with_reducible assumption) | assumption); have q143 : s0_1 < (s0_0.length : Int) := of_decide_eq_true (by first | (with_reducible assumption) | assumption); obtain ⟨ei, e143, b0⟩ := Kd.at_int HSz4_0 s0_1 p143 q143
   cases e143
   have hn143_0 : ei.block ≠ g := Nat.ne_of_lt (Nat.lt_of_lt_of_le (by have := World.block_lt_of_cell? _ _ b0; first | rwa [add_block] at this | exact this) (IsS81.ge HI0.out)); replace b0 := pw_cell_below HB.out b0; replace b0 := (cell_far (p := ⟨g, 2, none⟩) (by first | (rw [add_block]; exact hn143_0) | (show (Addr.add _ _).block ≠ _; rw [add_block]; exact hn143_0) | exact hn143_0) (.int .i64 (wrap64 ((wrap64 (s0_2 * 6364136223846793005)) + 1442695040888963407)))).trans b0; (try have eN := fun (n_ : Nat) => (show (((w.drewN n_).setCell ⟨g, 2, none⟩ (.int .i64 (wrap64 ((wrap64 (s0_2 * 6364136223846793005)) + 1442695040888963407))))).cell? _ = some _ from b0)); clear hn143_0; replace p143 := eq_true p143; replace q143 := eq_true q143
   go_enter Try.func56, Try.ntmps56
   go_wp2
   repeat (go_quiet (fail); try go_wp2)
   go_ret
   exact ⟨er_, IsS81.n, IsS81.nb, nK HK⟩
  ·rw [if_neg c3] at H
   exact absurd H (by simp)
 ·rw [if_neg c2] at H
  have c2b0 : decide (s0_1 < (s0_0.length : Int)) = false := decide_eq_false c2; clear c2; simp only [Option.some.injEq, Prod.mk.injEq] at H; obtain ⟨rfl, rfl, rfl⟩ := H; obtain ⟨ASz5_0, cSz5_0, HGz5, hgz5, HSz5_0⟩ := HI0.out; have eO := cellS81_0 HGz5; have eP := cellS81_1 HGz5; have eQ := cellS81_2 HGz5; have eR := blk_frozen HGz5 1; have eS := blk_frozen HGz5 2; clear HGz5 hgz5
  go_enter Try.func56, Try.ntmps56
  go_wp2
  repeat (go_quiet (fail); try go_wp2)
  go_ret
  exact ⟨er_, IsS81.n, IsS81.nb, nK HK⟩

/-! ### spec_l1Below: function 46 -/
def spec_l1Below.f (s0_0 : List Int) (s0_1 : Int) (s0_2 : Int) (a1 : Int) : Option (Int × Int × Int) := if a1 ≤ 0 then (some (0, s0_1, s0_2)) else (if a1 ≤ 256 then ((spec_l1Byte.f s0_0 s0_1 s0_2).bind fun bM => (if a1 = 0 then (none) else (some (Int.tmod bM.1 a1, bM.2.1, bM.2.2)))) else ((spec_l1Byte.f s0_0 s0_1 s0_2).bind fun bN => ((spec_l1Byte.f s0_0 bN.2.1 bN.2.2).bind fun bC => ((spec_l1Byte.f s0_0 bC.2.1 bC.2.2).bind fun bo => ((spec_l1Byte.f s0_0 bo.2.1 bo.2.2).bind fun bh => (if a1 = 0 then (none) else (some (Int.tmod (wrap64 ((wrap64 ((wrap64 ((wrap64 (bN.1 * 16777216)) + (wrap64 (bC.1 * 65536)))) + (wrap64 (bo.1 * 256)))) + bh.1)) a1, bh.2.1, bh.2.2))))))))
set_option maxHeartbeats 8000000 in
set_option maxRecDepth 100000 in
theorem spec_l1Below.calls (g : Nat) (s0_0 : List Int) (s0_1 : Int) (s0_2 : Int) (a1 : Int) (r1 : Int) (r2 : Int) (r3 : Int) (w0 w : World) (hI : IsS81 w0 w g s0_0 s0_1 s0_2) (hB : Below w0.heap.size w0 w) (h : spec_l1Below.f s0_0 s0_1 s0_2 a1 = some (r1, r2, r3)) :
  Calls Try.prog 46 #[.pointer (some ⟨g, 0, none⟩), .int .i64 a1] w fun e w' => e = .returned (.int .i64 r1) ∧ IsS81 w0 w' g s0_0 r2 r3 ∧ Below w0.heap.size w0 w' ∧ KeepBut w w' g none := by
 have HI0 := Aside0.mk hI; have HK := Aside0.mk (KeepBut.refl w g none); have HL := Aside0.mk hB.size; clear hI; have HW0 := Aside0.mk hB.size; have HB := Aside0.mk hB; clear hB; have H : (if a1 ≤ 0 then (some (0, s0_1, s0_2)) else (if a1 ≤ 256 then ((spec_l1Byte.f s0_0 s0_1 s0_2).bind fun bM => (if a1 = 0 then (none) else (some (Int.tmod bM.1 a1, bM.2.1, bM.2.2)))) else ((spec_l1Byte.f s0_0 s0_1 s0_2).bind fun bN => ((spec_l1Byte.f s0_0 bN.2.1 bN.2.2).bind fun bC => ((spec_l1Byte.f s0_0 bC.2.1 bC.2.2).bind fun bo => ((spec_l1Byte.f s0_0 bo.2.1 bo.2.2).bind fun bh => (if a1 = 0 then (none) else (some (Int.tmod (wrap64 ((wrap64 ((wrap64 ((wrap64 (bN.1 * 16777216)) + (wrap64 (bC.1 * 65536)))) + (wrap64 (bo.1 * 256)))) + bh.1)) a1, bh.2.1, bh.2.2))))))))) = some (r1, r2, r3) := h; clear h
 by_cases c3 : a1 ≤ 0
 ·rw [if_pos c3] at H
  have c3b0 : decide (a1 ≤ 0) = true := decide_eq_true c3; clear c3; simp only [Option.some.injEq, Prod.mk.injEq] at H; obtain ⟨rfl, rfl, rfl⟩ := H
  go_enter Try.func46, Try.ntmps46
  go_wp2
  go_ret
  exact ⟨er_, IsS81.n, IsS81.nb, nK HK⟩
 ·rw [if_neg c3] at H
  have c3b0 : decide (a1 ≤ 0) = false := decide_eq_false c3; clear c3
  by_cases c4 : a1 ≤ 256
  ·rw [if_pos c4] at H
   have c4b0 : decide (a1 ≤ 256) = true := decide_eq_true c4; clear c4; replace H := Option.bind_eq_some_iff.mp H; obtain ⟨⟨dD, dE, dF⟩, A50, H⟩ := H; replace H : (if a1 = 0 then (none) else (some (Int.tmod dD a1, dE, dF))) = some (r1, r2, r3) := H; have A5 := Aside0.mk A50; clear A50
   by_cases c6 : a1 = 0
   ·rw [if_pos c6] at H
    exact absurd H (by simp)
   ·rw [if_neg c6] at H
    have c6b0 : (a1 == 0) = false := beq_eq_false_iff_ne.mpr c6; have c6b1 : (a1 != 0) = true := bne_iff_ne.mpr c6; simp only [Option.some.injEq, Prod.mk.injEq] at H; obtain ⟨rfl, rfl, rfl⟩ := H
    go_enter Try.func46, Try.ntmps46
    go_wp2_with (first | ((with_reducible refine gate_callee (f := 56) rfl ?_); refine goesM (some 14) rfl rfl Try.func56 (by kernel_rfl) rfl #[.pointer (some ⟨g, 0, none⟩)] rfl ?_; (with_reducible refine (spec_l1Byte.calls g s0_0 s0_1 s0_2 dD dE dF w0 _ ?side1 ?side2 A5.out).mono ?_); (case side1 => exact IsS81.n); (case side2 => exact IsS81.nb); rintro e w7 ⟨rfl, hi, hb, hk⟩; refine ⟨_, rfl, ?_⟩; replace HK := Aside0.mk (KeepBut.trans (nK HK) hk (.inl rfl)); replace HB := Aside0.mk (hb); replace HI0 := Aside0.mk (hi); (try clear hb)))
    go_ret
    exact ⟨er_, IsS81.n, IsS81.nb, nK HK⟩
  ·rw [if_neg c4] at H
   have c4b0 : decide (a1 ≤ 256) = false := decide_eq_false c4; clear c4; replace H := Option.bind_eq_some_iff.mp H; obtain ⟨⟨b5, dj, dk⟩, A80, H⟩ := H; replace H : ((spec_l1Byte.f s0_0 dj dk).bind fun bC => ((spec_l1Byte.f s0_0 bC.2.1 bC.2.2).bind fun bo => ((spec_l1Byte.f s0_0 bo.2.1 bo.2.2).bind fun bh => (if a1 = 0 then (none) else (some (Int.tmod (wrap64 ((wrap64 ((wrap64 ((wrap64 (b5 * 16777216)) + (wrap64 (bC.1 * 65536)))) + (wrap64 (bo.1 * 256)))) + bh.1)) a1, bh.2.1, bh.2.2)))))) = some (r1, r2, r3) := H; have A8 := Aside0.mk A80; clear A80; replace H := Option.bind_eq_some_iff.mp H; obtain ⟨⟨dg, dl, dm⟩, A90, H⟩ := H; replace H : ((spec_l1Byte.f s0_0 dl dm).bind fun bo => ((spec_l1Byte.f s0_0 bo.2.1 bo.2.2).bind fun bh => (if a1 = 0 then (none) else (some (Int.tmod (wrap64 ((wrap64 ((wrap64 ((wrap64 (b5 * 16777216)) + (wrap64 (dg * 65536)))) + (wrap64 (bo.1 * 256)))) + bh.1)) a1, bh.2.1, bh.2.2))))) = some (r1, r2, r3) := H; have A9 := Aside0.mk A90; clear A90; replace H := Option.bind_eq_some_iff.mp H; obtain ⟨⟨dn, dp, dq⟩, A100, H⟩ := H; replace H : ((spec_l1Byte.f s0_0 dp dq).bind fun bh => (if a1 = 0 then (none) else (some (Int.tmod (wrap64 ((wrap64 ((wrap64 ((wrap64 (b5 * 16777216)) + (wrap64 (dg * 65536)))) + (wrap64 (dn * 256)))) + bh.1)) a1, bh.2.1, bh.2.2)))) = some (r1, r2, r3) := H; have A10 := Aside0.mk A100; clear A100; replace H := Option.bind_eq_some_iff.mp H; obtain ⟨⟨dG, dH, dI⟩, A110, H⟩ := H; replace H : (if a1 = 0 then (none) else (some (Int.tmod (wrap64 ((wrap64 ((wrap64 ((wrap64 (b5 * 16777216)) + (wrap64 (dg * 65536)))) + (wrap64 (dn * 256)))) + dG)) a1, dH, dI))) = some (r1, r2, r3) := H; have A11 := Aside0.mk A110; clear A110
   by_cases c12 : a1 = 0
   ·rw [if_pos c12] at H
    exact absurd H (by simp)
   ·rw [if_neg c12] at H
    have c12b0 : (a1 == 0) = false := beq_eq_false_iff_ne.mpr c12; have c12b1 : (a1 != 0) = true := bne_iff_ne.mpr c12; simp only [Option.some.injEq, Prod.mk.injEq] at H; obtain ⟨rfl, rfl, rfl⟩ := H
    go_enter Try.func46, Try.ntmps46
    go_wp2_with (first | ((with_reducible refine gate_callee (f := 56) rfl ?_); refine goesM (some 18) rfl rfl Try.func56 (by kernel_rfl) rfl #[.pointer (some ⟨g, 0, none⟩)] rfl ?_; (with_reducible refine (spec_l1Byte.calls g s0_0 s0_1 s0_2 b5 dj dk w0 _ ?side1 ?side2 A8.out).mono ?_); (case side1 => exact IsS81.n); (case side2 => exact IsS81.nb); rintro e ej ⟨rfl, hi, hb, hk⟩; refine ⟨_, rfl, ?_⟩; replace HK := Aside0.mk (KeepBut.trans (nK HK) hk (.inl rfl)); replace HB := Aside0.mk (hb); replace HI0 := Aside0.mk (hi); (try clear hb)) | ((with_reducible refine gate_callee (f := 56) rfl ?_); refine goesM (some 20) rfl rfl Try.func56 (by kernel_rfl) rfl #[.pointer (some ⟨g, 0, none⟩)] rfl ?_; (with_reducible refine (spec_l1Byte.calls g s0_0 dj dk dg dl dm w0 _ ?side1 ?side2 A9.out).mono ?_); (case side1 => exact IsS81.n); (case side2 => exact IsS81.nb); rintro e eT ⟨rfl, hi, hb, hk⟩; refine ⟨_, rfl, ?_⟩; replace HK := Aside0.mk (KeepBut.trans (nK HK) hk (.inl rfl)); replace HB := Aside0.mk (hb); replace HI0 := Aside0.mk (hi); (try clear hb)) | ((with_reducible refine gate_callee (f := 56) rfl ?_); refine goesM (some 22) rfl rfl Try.func56 (by kernel_rfl) rfl #[.pointer (some ⟨g, 0, none⟩)] rfl ?_; (with_reducible refine (spec_l1Byte.calls g s0_0 dl dm dn dp dq w0 _ ?side1 ?side2 A10.out).mono ?_); (case side1 => exact IsS81.n); (case side2 => exact IsS81.nb); rintro e eU ⟨rfl, hi, hb, hk⟩; refine ⟨_, rfl, ?_⟩; replace HK := Aside0.mk (KeepBut.trans (nK HK) hk (.inl rfl)); replace HB := Aside0.mk (hb); replace HI0 := Aside0.mk (hi); (try clear hb)) | ((with_reducible refine gate_callee (f := 56) rfl ?_); refine goesM (some 24) rfl rfl Try.func56 (by kernel_rfl) rfl #[.pointer (some ⟨g, 0, none⟩)] rfl ?_; (with_reducible refine (spec_l1Byte.calls g s0_0 dp dq dG dH dI w0 _ ?side1 ?side2 A11.out).mono ?_); (case side1 => exact IsS81.n); (case side2 => exact IsS81.nb); rintro e ek ⟨rfl, hi, hb, hk⟩; refine ⟨_, rfl, ?_⟩; replace HK := Aside0.mk (KeepBut.trans (nK HK) hk (.inl rfl)); replace HB := Aside0.mk (hb); replace HI0 := Aside0.mk (hi); (try clear hb)))
    go_ret
    exact ⟨er_, IsS81.n, IsS81.nb, nK HK⟩

/-! ### spec_l1PickInt: function 47 -/
def spec_l1PickInt.f (s0_0 : List Int) (s0_1 : Int) (s0_2 : Int) (l1 : List Int) : Option (Int × Int × Int) := (spec_l1Below.f s0_0 s0_1 s0_2 (l1.length : Int)).bind fun bD => (if 0 ≤ bD.1 then (if bD.1 < (l1.length : Int) then (some (rd l1 bD.1, bD.2.1, bD.2.2)) else (none)) else (none))
set_option maxHeartbeats 8000000 in
set_option maxRecDepth 100000 in
theorem spec_l1PickInt.calls (g : Nat) (s0_0 : List Int) (s0_1 : Int) (s0_2 : Int) (A1 : Option Addr) (c1 : Nat) (l1 : List Int) (r1 : Int) (r2 : Int) (r3 : Int) (w0 w : World) (hI : IsS81 w0 w g s0_0 s0_1 s0_2) (hB : Below w0.heap.size w0 w) (hr1 : Kd.C (Kd.int .i64) w A1 l1.length l1) (hc1 : l1.length ≤ c1) (hf1 : ∀ ad, A1 = some ad → 0 < l1.length → ad.block ≠ g) (h : spec_l1PickInt.f s0_0 s0_1 s0_2 l1 = some (r1, r2, r3)) :
  Calls Try.prog 47 #[.pointer (some ⟨g, 0, none⟩), .slice A1 l1.length c1] w fun e w' => e = .returned (.int .i64 r1) ∧ IsS81 w0 w' g s0_0 r2 r3 ∧ Below w0.heap.size w0 w' ∧ KeepBut w w' g none := by
 have el := Aside0.mk hr1; have eV := Aside0.mk hc1; clear hr1 hc1; have HI0 := Aside0.mk hI; have HK := Aside0.mk (KeepBut.refl w g none); have HL := Aside0.mk hB.size; clear hI; have HW0 := Aside0.mk hB.size; have HB := Aside0.mk hB; clear hB; have H : ((spec_l1Below.f s0_0 s0_1 s0_2 (l1.length : Int)).bind fun bD => (if 0 ≤ bD.1 then (if bD.1 < (l1.length : Int) then (some (rd l1 bD.1, bD.2.1, bD.2.2)) else (none)) else (none))) = some (r1, r2, r3) := h; clear h; replace H := Option.bind_eq_some_iff.mp H; obtain ⟨⟨bE, dJ, dK⟩, A30, H⟩ := H; replace H : (if 0 ≤ bE then (if bE < (l1.length : Int) then (some (rd l1 bE, dJ, dK)) else (none)) else (none)) = some (r1, r2, r3) := H; have A3 := Aside0.mk A30; clear A30
 by_cases c4 : 0 ≤ bE
 ·rw [if_pos c4] at H
  have c4b0 : decide (0 ≤ bE) = true := decide_eq_true c4; clear c4
  by_cases c5 : bE < (l1.length : Int)
  ·rw [if_pos c5] at H
   have c5b0 : decide (bE < (l1.length : Int)) = true := decide_eq_true c5; clear c5; simp only [Option.some.injEq, Prod.mk.injEq] at H; obtain ⟨rfl, rfl, rfl⟩ := H
   go_enter Try.func47, Try.ntmps47
   go_wp2_with (first | ((with_reducible refine gate_callee (f := 46) rfl ?_); refine goesM (some 9) rfl rfl Try.func46 (by kernel_rfl) rfl #[.pointer (some ⟨g, 0, none⟩), .int .i64 (l1.length : Int)] rfl ?_; (with_reducible refine (spec_l1Below.calls g s0_0 s0_1 s0_2 (l1.length : Int) bE dJ dK w0 _ ?side1 ?side2 A3.out).mono ?_); (case side1 => exact IsS81.n); (case side2 => exact IsS81.nb); rintro e w6 ⟨rfl, hi, hb, hk⟩; refine ⟨_, rfl, ?_⟩; replace HK := Aside0.mk (KeepBut.trans (nK HK) hk (.inl rfl)); replace HB := Aside0.mk (hb); replace HI0 := Aside0.mk (hi); (try clear hb); have p162 : 0 ≤ (bE : Int) := of_decide_eq_true (by first | (with_reducible assumption) | assumption); have q162 : bE < (l1.length : Int) := of_decide_eq_true (by first | (with_reducible assumption) | assumption); obtain ⟨em, e162, dL⟩ := Kd.at_int el.out bE p162 q162; cases e162; replace dL := keep_cell HK.out dL (by first | (rw [add_block]; exact hf1 _ rfl (by omega)) | exact hf1 _ rfl (by omega) | exact hf1 em rfl (by omega)); replace p162 := eq_true p162; replace q162 := eq_true q162))
   go_ret
   exact ⟨er_, IsS81.n, IsS81.nb, nK HK⟩
  ·rw [if_neg c5] at H
   exact absurd H (by simp)
 ·rw [if_neg c4] at H
  exact absurd H (by simp)

/-! ### spec_l6DrawIns: function 45 -/
mutual
def spec_l6DrawIns.j0 : Nat → Int → Int → Int → Int → List Int → Int → Int → Int → Int → Int → Int → Int → Option (Int × Int × Int × Int × Int × Int × Int)
 | 0, _, _, _, _, _, _, _, _, _, _, _, _ => none
 | k + 1, x4, x5, x6, x8, dr, bO, bP, bQ, bR, b1, b6, b7 => if (Go.bits .and .i64 x8 2) = 0 then (spec_l6DrawIns.j1 k x5 x6 x8 dr bO bP bQ bR b1 b6 b7) else (spec_l6DrawIns.j1 k x5 x6 x8 dr bO bP bQ bR x4 b6 b7)
def spec_l6DrawIns.j1 : Nat → Int → Int → Int → List Int → Int → Int → Int → Int → Int → Int → Int → Option (Int × Int × Int × Int × Int × Int × Int)
 | 0, _, _, _, _, _, _, _, _, _, _, _ => none
 | k + 1, x5, x6, x8, dr, bO, bP, bQ, bR, b1, b6, b7 => if (Go.bits .and .i64 x8 4) = 0 then (if (Go.bits .and .i64 x8 8) = 0 then (some (bQ, bR, b1, b6, b7, bO, bP)) else (some (bQ, bR, b1, b6, x6, bO, bP))) else (if (Go.bits .and .i64 x8 8) = 0 then (some (bQ, bR, b1, x5, b7, bO, bP)) else (some (bQ, bR, b1, x5, x6, bO, bP)))
end
def spec_l6DrawIns.f (k : Nat) (s0_0 : List Int) (s0_1 : Int) (s0_2 : Int) : Option (Int × Int × Int × Int × Int × Int × Int) := (spec_l1Below.f s0_0 s0_1 s0_2 4).bind fun bS => ((spec_l1Below.f s0_0 bS.2.1 bS.2.2 4).bind fun bp => ((spec_l1Below.f s0_0 bp.2.1 bp.2.2 4).bind fun bi => ((spec_l1PickInt.f s0_0 bi.2.1 bi.2.2 (([0, 0, 1, 2, 3, (-1), 20] : List Int))).bind fun bd => ((spec_l1PickInt.f s0_0 bd.2.1 bd.2.2 (([1, 1, 1, 2, 3, 4, 5, 5, 6, 6, 7, 8, 9, 10, 10, 10, 11, 11, 11, 12, 13, 13, 14, 15] : List Int))).bind fun bb => ((spec_l6Has.f bb.1).bind fun ba => (if (Go.bits .and .i64 ba 1) = 0 then (spec_l6DrawIns.j0 k bp.1 bi.1 bd.1 ba s0_0 bb.2.1 bb.2.2 bb.1 0 0 0 0) else (spec_l6DrawIns.j0 k bp.1 bi.1 bd.1 ba s0_0 bb.2.1 bb.2.2 bb.1 (wrap64 (1 + bS.1)) 0 0 0)))))))
theorem spec_l6DrawIns.mono_l : ∀ k, (∀ y0 y1 y2 y3 y4 y5 y6 y7 y8 y9 bT ds, LeO (spec_l6DrawIns.j0 k y0 y1 y2 y3 y4 y5 y6 y7 y8 y9 bT ds) (spec_l6DrawIns.j0 (k + 1) y0 y1 y2 y3 y4 y5 y6 y7 y8 y9 bT ds)) ∧ (∀ y0 y1 y2 y3 y4 y5 y6 y7 y8 y9 bT, LeO (spec_l6DrawIns.j1 k y0 y1 y2 y3 y4 y5 y6 y7 y8 y9 bT) (spec_l6DrawIns.j1 (k + 1) y0 y1 y2 y3 y4 y5 y6 y7 y8 y9 bT))
 | 0 => ⟨fun _ _ _ _ _ _ _ _ _ _ _ _ r h => by simp [spec_l6DrawIns.j0] at h, fun _ _ _ _ _ _ _ _ _ _ _ r h => by simp [spec_l6DrawIns.j1] at h⟩
 | k + 1 => by
  obtain ⟨ih0, ih1⟩ := spec_l6DrawIns.mono_l k; refine ⟨?_, ?_⟩
  ·intro y0 y1 y2 y3 y4 y5 y6 y7 y8 y9 bT ds
   unfold spec_l6DrawIns.j0
   repeat' first
   | (with_reducible exact ih0 _ _ _ _ _ _ _ _ _ _ _ _)
   | (with_reducible exact ih1 _ _ _ _ _ _ _ _ _ _ _)
   | (with_reducible exact LeO.refl _)
   | (with_reducible exact LeO.none _)
   | (with_reducible refine LeO.ite ?_ ?_)
   | (with_reducible refine LeO.bind ?_ (fun _ => ?_))
   | exact ih0 _ _ _ _ _ _ _ _ _ _ _ _
   | exact ih1 _ _ _ _ _ _ _ _ _ _ _
   | exact LeO.none _
   | refine LeO.ite ?_ ?_
   | refine LeO.bind ?_ (fun _ => ?_)
  ·intro y0 y1 y2 y3 y4 y5 y6 y7 y8 y9 bT
   unfold spec_l6DrawIns.j1
   repeat' first
   | (with_reducible exact ih0 _ _ _ _ _ _ _ _ _ _ _ _)
   | (with_reducible exact ih1 _ _ _ _ _ _ _ _ _ _ _)
   | (with_reducible exact LeO.refl _)
   | (with_reducible exact LeO.none _)
   | (with_reducible refine LeO.ite ?_ ?_)
   | (with_reducible refine LeO.bind ?_ (fun _ => ?_))
   | exact ih0 _ _ _ _ _ _ _ _ _ _ _ _
   | exact ih1 _ _ _ _ _ _ _ _ _ _ _
   | exact LeO.none _
   | refine LeO.ite ?_ ?_
   | refine LeO.bind ?_ (fun _ => ?_)
theorem spec_l6DrawIns.mono : ∀ a0 a1 a2 k, LeO (spec_l6DrawIns.f k a0 a1 a2) (spec_l6DrawIns.f (k + 1) a0 a1 a2) := by
 intro a0 a1 a2 k; obtain ⟨ih0, ih1⟩ := spec_l6DrawIns.mono_l k
 unfold spec_l6DrawIns.f
 repeat' first
   | (with_reducible exact ih0 _ _ _ _ _ _ _ _ _ _ _ _)
   | (with_reducible exact ih1 _ _ _ _ _ _ _ _ _ _ _)
   | (with_reducible exact LeO.refl _)
   | (with_reducible exact LeO.none _)
   | (with_reducible refine LeO.ite ?_ ?_)
   | (with_reducible refine LeO.bind ?_ (fun _ => ?_))
   | exact ih0 _ _ _ _ _ _ _ _ _ _ _ _
   | exact ih1 _ _ _ _ _ _ _ _ _ _ _
   | exact LeO.none _
   | refine LeO.ite ?_ ?_
   | refine LeO.bind ?_ (fun _ => ?_)
set_option maxHeartbeats 8000000 in
set_option maxRecDepth 100000 in
theorem spec_l6DrawIns.calls (k : Nat) (g : Nat) (s0_0 : List Int) (s0_1 : Int) (s0_2 : Int) (r1 : Int) (r2 : Int) (r3 : Int) (r4 : Int) (r5 : Int) (r6 : Int) (r7 : Int) (w0 w : World) (hI : IsS81 w0 w g s0_0 s0_1 s0_2) (hB : Below w0.heap.size w0 w) (h : spec_l6DrawIns.f k s0_0 s0_1 s0_2 = some (r1, r2, r3, r4, r5, r6, r7)) :
  Calls Try.prog 45 #[.pointer (some ⟨g, 0, none⟩)] w fun e w' => e = .returned (.agg #[.int .i64 r1, .int .i64 r2, .int .i64 r3, .int .i64 r4, .int .i64 r5]) ∧ IsS81 w0 w' g s0_0 r6 r7 ∧ Below w0.heap.size w0 w' ∧ KeepBut w w' g none := by
 have hu25 := Try.underlying25; have HI0 := Aside0.mk hI; have HK := Aside0.mk (KeepBut.refl w g none); have HL := Aside0.mk hB.size; clear hI; have HW0 := Aside0.mk hB.size; have HB := Aside0.mk hB; clear hB; have H : ((spec_l1Below.f s0_0 s0_1 s0_2 4).bind fun bS => ((spec_l1Below.f s0_0 bS.2.1 bS.2.2 4).bind fun bp => ((spec_l1Below.f s0_0 bp.2.1 bp.2.2 4).bind fun bi => ((spec_l1PickInt.f s0_0 bi.2.1 bi.2.2 (([0, 0, 1, 2, 3, (-1), 20] : List Int))).bind fun bd => ((spec_l1PickInt.f s0_0 bd.2.1 bd.2.2 (([1, 1, 1, 2, 3, 4, 5, 5, 6, 6, 7, 8, 9, 10, 10, 10, 11, 11, 11, 12, 13, 13, 14, 15] : List Int))).bind fun bb => ((spec_l6Has.f bb.1).bind fun ba => (if (Go.bits .and .i64 ba 1) = 0 then (spec_l6DrawIns.j0 k bp.1 bi.1 bd.1 ba s0_0 bb.2.1 bb.2.2 bb.1 0 0 0 0) else (spec_l6DrawIns.j0 k bp.1 bi.1 bd.1 ba s0_0 bb.2.1 bb.2.2 bb.1 (wrap64 (1 + bS.1)) 0 0 0)))))))) = some (r1, r2, r3, r4, r5, r6, r7) := h; clear h; replace H := Option.bind_eq_some_iff.mp H; obtain ⟨⟨bH, dt, du⟩, A20, H⟩ := H; replace H : ((spec_l1Below.f s0_0 dt du 4).bind fun bp => ((spec_l1Below.f s0_0 bp.2.1 bp.2.2 4).bind fun bi => ((spec_l1PickInt.f s0_0 bi.2.1 bi.2.2 (([0, 0, 1, 2, 3, (-1), 20] : List Int))).bind fun bd => ((spec_l1PickInt.f s0_0 bd.2.1 bd.2.2 (([1, 1, 1, 2, 3, 4, 5, 5, 6, 6, 7, 8, 9, 10, 10, 10, 11, 11, 11, 12, 13, 13, 14, 15] : List Int))).bind fun bb => ((spec_l6Has.f bb.1).bind fun ba => (if (Go.bits .and .i64 ba 1) = 0 then (spec_l6DrawIns.j0 k bp.1 bi.1 bd.1 ba s0_0 bb.2.1 bb.2.2 bb.1 0 0 0 0) else (spec_l6DrawIns.j0 k bp.1 bi.1 bd.1 ba s0_0 bb.2.1 bb.2.2 bb.1 (wrap64 (1 + bH)) 0 0 0))))))) = some (r1, r2, r3, r4, r5, r6, r7) := H; have A2 := Aside0.mk A20; clear A20; replace H := Option.bind_eq_some_iff.mp H; obtain ⟨⟨bk, dv, dw⟩, A30, H⟩ := H; replace H : ((spec_l1Below.f s0_0 dv dw 4).bind fun bi => ((spec_l1PickInt.f s0_0 bi.2.1 bi.2.2 (([0, 0, 1, 2, 3, (-1), 20] : List Int))).bind fun bd => ((spec_l1PickInt.f s0_0 bd.2.1 bd.2.2 (([1, 1, 1, 2, 3, 4, 5, 5, 6, 6, 7, 8, 9, 10, 10, 10, 11, 11, 11, 12, 13, 13, 14, 15] : List Int))).bind fun bb => ((spec_l6Has.f bb.1).bind fun ba => (if (Go.bits .and .i64 ba 1) = 0 then (spec_l6DrawIns.j0 k bk bi.1 bd.1 ba s0_0 bb.2.1 bb.2.2 bb.1 0 0 0 0) else (spec_l6DrawIns.j0 k bk bi.1 bd.1 ba s0_0 bb.2.1 bb.2.2 bb.1 (wrap64 (1 + bH)) 0 0 0)))))) = some (r1, r2, r3, r4, r5, r6, r7) := H; have A3 := Aside0.mk A30; clear A30; replace H := Option.bind_eq_some_iff.mp H; obtain ⟨⟨bl, b8, b9⟩, A40, H⟩ := H; replace H : ((spec_l1PickInt.f s0_0 b8 b9 (([0, 0, 1, 2, 3, (-1), 20] : List Int))).bind fun bd => ((spec_l1PickInt.f s0_0 bd.2.1 bd.2.2 (([1, 1, 1, 2, 3, 4, 5, 5, 6, 6, 7, 8, 9, 10, 10, 10, 11, 11, 11, 12, 13, 13, 14, 15] : List Int))).bind fun bb => ((spec_l6Has.f bb.1).bind fun ba => (if (Go.bits .and .i64 ba 1) = 0 then (spec_l6DrawIns.j0 k bk bl bd.1 ba s0_0 bb.2.1 bb.2.2 bb.1 0 0 0 0) else (spec_l6DrawIns.j0 k bk bl bd.1 ba s0_0 bb.2.1 bb.2.2 bb.1 (wrap64 (1 + bH)) 0 0 0))))) = some (r1, r2, r3, r4, r5, r6, r7) := H; have A4 := Aside0.mk A40; clear A40; obtain ⟨dx, da⟩ : ∃ y_ : List Int, y_ = (([0, 0, 1, 2, 3, (-1), 20] : List Int)) := ⟨_, rfl⟩; replace H : ((spec_l1PickInt.f s0_0 b8 b9 dx).bind fun bd => ((spec_l1PickInt.f s0_0 bd.2.1 bd.2.2 (([1, 1, 1, 2, 3, 4, 5, 5, 6, 6, 7, 8, 9, 10, 10, 10, 11, 11, 11, 12, 13, 13, 14, 15] : List Int))).bind fun bb => ((spec_l6Has.f bb.1).bind fun ba => (if (Go.bits .and .i64 ba 1) = 0 then (spec_l6DrawIns.j0 k bk bl bd.1 ba s0_0 bb.2.1 bb.2.2 bb.1 0 0 0 0) else (spec_l6DrawIns.j0 k bk bl bd.1 ba s0_0 bb.2.1 bb.2.2 bb.1 (wrap64 (1 + bH)) 0 0 0))))) = some (r1, r2, r3, r4, r5, r6, r7) := by first | (rw [da]; with_reducible exact H) | (have H2_ := (Option.bind_some _ _).symm.trans H; rw [da]; with_reducible exact H2_) | (have H2_ := (Option.bind_some _ _).symm.trans H; with_reducible exact H2_) | with_reducible exact H | (rw [da]; exact H) | exact H
 have dM := Aside0.mk da; clear da; replace H := Option.bind_eq_some_iff.mp H; obtain ⟨⟨bv, b2, b3⟩, A50, H⟩ := H; replace H : ((spec_l1PickInt.f s0_0 b2 b3 (([1, 1, 1, 2, 3, 4, 5, 5, 6, 6, 7, 8, 9, 10, 10, 10, 11, 11, 11, 12, 13, 13, 14, 15] : List Int))).bind fun bb => ((spec_l6Has.f bb.1).bind fun ba => (if (Go.bits .and .i64 ba 1) = 0 then (spec_l6DrawIns.j0 k bk bl bv ba s0_0 bb.2.1 bb.2.2 bb.1 0 0 0 0) else (spec_l6DrawIns.j0 k bk bl bv ba s0_0 bb.2.1 bb.2.2 bb.1 (wrap64 (1 + bH)) 0 0 0)))) = some (r1, r2, r3, r4, r5, r6, r7) := H; have A5 := Aside0.mk A50; clear A50; obtain ⟨dy, db⟩ : ∃ y_ : List Int, y_ = (([1, 1, 1, 2, 3, 4, 5, 5, 6, 6, 7, 8, 9, 10, 10, 10, 11, 11, 11, 12, 13, 13, 14, 15] : List Int)) := ⟨_, rfl⟩; replace H : ((spec_l1PickInt.f s0_0 b2 b3 dy).bind fun bb => ((spec_l6Has.f bb.1).bind fun ba => (if (Go.bits .and .i64 ba 1) = 0 then (spec_l6DrawIns.j0 k bk bl bv ba s0_0 bb.2.1 bb.2.2 bb.1 0 0 0 0) else (spec_l6DrawIns.j0 k bk bl bv ba s0_0 bb.2.1 bb.2.2 bb.1 (wrap64 (1 + bH)) 0 0 0)))) = some (r1, r2, r3, r4, r5, r6, r7) := by first | (rw [db]; with_reducible exact H) | (have H2_ := (Option.bind_some _ _).symm.trans H; rw [db]; with_reducible exact H2_) | (have H2_ := (Option.bind_some _ _).symm.trans H; with_reducible exact H2_) | with_reducible exact H | (rw [db]; exact H) | exact H
 have dN := Aside0.mk db; clear db; replace H := Option.bind_eq_some_iff.mp H; obtain ⟨⟨bg, bx, bz⟩, A60, H⟩ := H; replace H : ((spec_l6Has.f bg).bind fun ba => (if (Go.bits .and .i64 ba 1) = 0 then (spec_l6DrawIns.j0 k bk bl bv ba s0_0 bx bz bg 0 0 0 0) else (spec_l6DrawIns.j0 k bk bl bv ba s0_0 bx bz bg (wrap64 (1 + bH)) 0 0 0))) = some (r1, r2, r3, r4, r5, r6, r7) := H; have A6 := Aside0.mk A60; clear A60; replace H := Option.bind_eq_some_iff.mp H; obtain ⟨ba, A70, H⟩ := H; replace H : (if (Go.bits .and .i64 ba 1) = 0 then (spec_l6DrawIns.j0 k bk bl bv ba s0_0 bx bz bg 0 0 0 0) else (spec_l6DrawIns.j0 k bk bl bv ba s0_0 bx bz bg (wrap64 (1 + bH)) 0 0 0)) = some (r1, r2, r3, r4, r5, r6, r7) := H; have A7 := Aside0.mk A70; clear A70; have dz := Aside0.mk H; clear H
 go_enter Try.func45, Try.ntmps45
 go_upto_if 28 with (first | ((with_reducible refine gate_dst (N := 2) rfl ?_); refine bxe 2 #[.int .i64 0, .int .i64 0, .int .i64 0, .int .i64 0, .int .i64 0] 25 ?_; intro bn hg w9 hbox hb; have bq := Aside0.mk (IsS81.below (IsS81.n) hb); have br := Aside0.mk (KeepBut.trans (nK HK) (KeepBut.of_below hb g none) (.inl rfl)); have bs := Aside0.mk (below_step (IsS81.nb) hb); have bt := hbox; have bu := Aside0.mk ((by rw [hg]; exact (keep_size (w := w) (g := g) (row := none) (nK HK)) : w.heap.size ≤ bn)); have bF := Aside0.mk ((Nat.le_trans HW0.out (by rw [hg]; exact (keep_size (w := w) (g := g) (row := none) (nK HK)) : w.heap.size ≤ bn) : w0.heap.size ≤ bn)); have bL := Aside0.mk ((by rw [hg]; exact Nat.ne_of_lt (IsS81.lt (show IsS81 w0 _ g s0_0 s0_1 s0_2 from IsS81.n)) : g ≠ bn)); have dc := Aside0.mk ((by rw [hg]; exact Nat.ne_of_gt (IsS81.lt (show IsS81 w0 _ g s0_0 s0_1 s0_2 from IsS81.n)) : bn ≠ g)); clear HI0 HK HB; have HI0 := bq; have HK := br; have HB := bs; have bc := bt; have eW := bu; have eX := bF; have dh := bL; have bJ := dc; clear bq br bs bt bu bF bL dc; clear hb hbox hg) | ((with_reducible refine gate_callee (f := 46) rfl ?_); refine goesM (some 10) rfl rfl Try.func46 (by kernel_rfl) rfl #[.pointer (some ⟨g, 0, none⟩), .int .i64 4] rfl ?_; (with_reducible refine (spec_l1Below.calls g s0_0 s0_1 s0_2 4 bH dt du w0 _ ?side1 ?side2 A2.out).mono ?_); (case side1 => exact IsS81.n); (case side2 => exact IsS81.nb); rintro e eY ⟨rfl, hi, hb, hk⟩; refine ⟨_, rfl, ?_⟩; replace bc := Aside0.mk (KeepBut.blk hk (g' := bn) (o := .cells #[.int .i64 0, .int .i64 0, .int .i64 0, .int .i64 0, .int .i64 0] 25 (0, 0)) (nb bc) bJ.out (by simp)); replace HK := Aside0.mk (KeepBut.trans (nK HK) hk (.inl rfl)); replace HB := Aside0.mk (hb); replace HI0 := Aside0.mk (hi); (try clear hb)) | ((with_reducible refine gate_callee (f := 46) rfl ?_); refine goesM (some 13) rfl rfl Try.func46 (by kernel_rfl) rfl #[.pointer (some ⟨g, 0, none⟩), .int .i64 4] rfl ?_; (with_reducible refine (spec_l1Below.calls g s0_0 dt du 4 bk dv dw w0 _ ?side1 ?side2 A3.out).mono ?_); (case side1 => exact IsS81.n); (case side2 => exact IsS81.nb); rintro e eZ ⟨rfl, hi, hb, hk⟩; refine ⟨_, rfl, ?_⟩; replace bc := Aside0.mk (KeepBut.blk hk (g' := bn) (o := .cells #[.int .i64 0, .int .i64 0, .int .i64 0, .int .i64 0, .int .i64 0] 25 (0, 0)) (nb bc) bJ.out (by simp)); replace HK := Aside0.mk (KeepBut.trans (nK HK) hk (.inl rfl)); replace HB := Aside0.mk (hb); replace HI0 := Aside0.mk (hi); (try clear hb)) | ((with_reducible refine gate_callee (f := 46) rfl ?_); refine goesM (some 15) rfl rfl Try.func46 (by kernel_rfl) rfl #[.pointer (some ⟨g, 0, none⟩), .int .i64 4] rfl ?_; (with_reducible refine (spec_l1Below.calls g s0_0 dv dw 4 bl b8 b9 w0 _ ?side1 ?side2 A4.out).mono ?_); (case side1 => exact IsS81.n); (case side2 => exact IsS81.nb); rintro e e0 ⟨rfl, hi, hb, hk⟩; refine ⟨_, rfl, ?_⟩; replace bc := Aside0.mk (KeepBut.blk hk (g' := bn) (o := .cells #[.int .i64 0, .int .i64 0, .int .i64 0, .int .i64 0, .int .i64 0] 25 (0, 0)) (nb bc) bJ.out (by simp)); replace HK := Aside0.mk (KeepBut.trans (nK HK) hk (.inl rfl)); replace HB := Aside0.mk (hb); replace HI0 := Aside0.mk (hi); (try clear hb)) | ((with_reducible refine gate_dst (N := 17) rfl ?_); refine Kd.R_lit (Kd.int .i64) _ 3 ?hg (N := 17) ?hd (xs := ([0, 0, 1, 2, 3, (-1), 20] : List Int)) (inner := [.int .i64 0, .int .i64 0, .int .i64 1, .int .i64 2, .int .i64 3, .int .i64 (-1), .int .i64 20]) (ok := fun _ => True) (okp := fun _ => True) ?hr ?hp (fun _ hk => hk) trivial (Below.refl _ _) (Nat.le_refl _) (by simp) ?_; (case hd => rfl); (case hg => rfl); (case hr => first | (go_simp; done) | (go_simp; rfl)); (case hp => exact (Reps.one (show Kd.M (Kd.int .i64) _ _ _ 0 [.int .i64 0] from rfl) (Reps.one (show Kd.M (Kd.int .i64) _ _ _ 0 [.int .i64 0] from rfl) (Reps.one (show Kd.M (Kd.int .i64) _ _ _ 1 [.int .i64 1] from rfl) (Reps.one (show Kd.M (Kd.int .i64) _ _ _ 2 [.int .i64 2] from rfl) (Reps.one (show Kd.M (Kd.int .i64) _ _ _ 3 [.int .i64 3] from rfl) (Reps.one (show Kd.M (Kd.int .i64) _ _ _ (-1) [.int .i64 (-1)] from rfl) (Reps.one (show Kd.M (Kd.int .i64) _ _ _ 20 [.int .i64 20] from rfl) (Reps.none _ _))))))))); intro e1 ej dd hb hg_ hnew_; clear hg_ hnew_; (first | rw [← dM.out] at dd | (simp only [Int.reduceToNat] at dd; rw [← dM.out] at dd)); have bq := Aside0.mk (Kd.R_lower dd (keep_size (w := w) (g := g) (row := none) (nK HK))); have br := Aside0.mk (IsS81.below (IsS81.n) hb); have bs := nblk bc hb; have bt := Aside0.mk (KeepBut.trans (nK HK) (KeepBut.of_below hb g none) (.inl rfl)); have bu := Aside0.mk (below_step (IsS81.nb) hb); clear HI0 bc HK HB; have bj := bq; have HI0 := br; have bc := bs; have HK := bt; have HB := bu; clear bq br bs bt bu; clear hb dd; obtain ⟨en, eo, ep⟩ := Kd.R_slice bj.out; subst ep) | ((with_reducible refine gate_callee (f := 47) rfl ?_); refine goesM (some 18) rfl rfl Try.func47 (by kernel_rfl) rfl #[.pointer (some ⟨g, 0, none⟩), .slice en dx.length eo] rfl ?_; (with_reducible refine (spec_l1PickInt.calls g s0_0 b8 b9 _ _ dx bv b2 b3 w0 _ ?side1 ?side2 ?side3 ?side4 ?side5 A5.out).mono ?_); (case side1 => exact IsS81.n); (case side2 => exact IsS81.nb); (case side3 => repeat (first | exact (Kd.R_reads' bj.out).2.2 | (with_reducible refine Kd.C_alloc ?_ _) | (with_reducible refine Kd.C_drewN ?_ _) | (with_reducible refine Kd.C_drew ?_))); (case side4 => exact (Kd.R_reads' bj.out).2.1); (case side5 => exact far_slice (IsS81.own_ne HI0.out bj.out (by decide))); rintro e ek ⟨rfl, hi, hb, hk⟩; refine ⟨_, rfl, ?_⟩; replace bc := Aside0.mk (KeepBut.blk hk (g' := bn) (o := .cells #[.int .i64 0, .int .i64 0, .int .i64 0, .int .i64 0, .int .i64 0] 25 (0, 0)) (nb bc) bJ.out (by simp)); replace bj := Aside0.mk (Kd.R_mono (Kd.R_keep (IsS81.apart (show IsS81 w0 _ g s0_0 b8 b9 from IsS81.n) (nRo bj) (by decide)) hk (fun _ h => h.2)) (fun _ h => h.1)); replace HK := Aside0.mk (KeepBut.trans (nK HK) hk (.inl rfl)); replace HB := Aside0.mk (hb); replace HI0 := Aside0.mk (hi); (try clear hb)) | ((with_reducible refine gate_dst (N := 20) rfl ?_); refine Kd.R_lit (Kd.int .i64) _ 3 ?hg (N := 20) ?hd (xs := ([1, 1, 1, 2, 3, 4, 5, 5, 6, 6, 7, 8, 9, 10, 10, 10, 11, 11, 11, 12, 13, 13, 14, 15] : List Int)) (inner := [.int .i64 1, .int .i64 1, .int .i64 1, .int .i64 2, .int .i64 3, .int .i64 4, .int .i64 5, .int .i64 5, .int .i64 6, .int .i64 6, .int .i64 7, .int .i64 8, .int .i64 9, .int .i64 10, .int .i64 10, .int .i64 10, .int .i64 11, .int .i64 11, .int .i64 11, .int .i64 12, .int .i64 13, .int .i64 13, .int .i64 14, .int .i64 15]) (ok := fun _ => True) (okp := fun _ => True) ?hr ?hp (fun _ hk => hk) trivial (Below.refl _ _) (Nat.le_refl _) (by simp) ?_; (case hd => rfl); (case hg => rfl); (case hr => first | (go_simp; done) | (go_simp; rfl)); (case hp => exact (Reps.one (show Kd.M (Kd.int .i64) _ _ _ 1 [.int .i64 1] from rfl) (Reps.one (show Kd.M (Kd.int .i64) _ _ _ 1 [.int .i64 1] from rfl) (Reps.one (show Kd.M (Kd.int .i64) _ _ _ 1 [.int .i64 1] from rfl) (Reps.one (show Kd.M (Kd.int .i64) _ _ _ 2 [.int .i64 2] from rfl) (Reps.one (show Kd.M (Kd.int .i64) _ _ _ 3 [.int .i64 3] from rfl) (Reps.one (show Kd.M (Kd.int .i64) _ _ _ 4 [.int .i64 4] from rfl) (Reps.one (show Kd.M (Kd.int .i64) _ _ _ 5 [.int .i64 5] from rfl) (Reps.one (show Kd.M (Kd.int .i64) _ _ _ 5 [.int .i64 5] from rfl) (Reps.one (show Kd.M (Kd.int .i64) _ _ _ 6 [.int .i64 6] from rfl) (Reps.one (show Kd.M (Kd.int .i64) _ _ _ 6 [.int .i64 6] from rfl) (Reps.one (show Kd.M (Kd.int .i64) _ _ _ 7 [.int .i64 7] from rfl) (Reps.one (show Kd.M (Kd.int .i64) _ _ _ 8 [.int .i64 8] from rfl) (Reps.one (show Kd.M (Kd.int .i64) _ _ _ 9 [.int .i64 9] from rfl) (Reps.one (show Kd.M (Kd.int .i64) _ _ _ 10 [.int .i64 10] from rfl) (Reps.one (show Kd.M (Kd.int .i64) _ _ _ 10 [.int .i64 10] from rfl) (Reps.one (show Kd.M (Kd.int .i64) _ _ _ 10 [.int .i64 10] from rfl) (Reps.one (show Kd.M (Kd.int .i64) _ _ _ 11 [.int .i64 11] from rfl) (Reps.one (show Kd.M (Kd.int .i64) _ _ _ 11 [.int .i64 11] from rfl) (Reps.one (show Kd.M (Kd.int .i64) _ _ _ 11 [.int .i64 11] from rfl) (Reps.one (show Kd.M (Kd.int .i64) _ _ _ 12 [.int .i64 12] from rfl) (Reps.one (show Kd.M (Kd.int .i64) _ _ _ 13 [.int .i64 13] from rfl) (Reps.one (show Kd.M (Kd.int .i64) _ _ _ 13 [.int .i64 13] from rfl) (Reps.one (show Kd.M (Kd.int .i64) _ _ _ 14 [.int .i64 14] from rfl) (Reps.one (show Kd.M (Kd.int .i64) _ _ _ 15 [.int .i64 15] from rfl) (Reps.none _ _)))))))))))))))))))))))))); intro e2 e3 b4 hb hg_ hnew_; clear hg_ hnew_; (first | rw [← dN.out] at b4 | (simp only [Int.reduceToNat] at b4; rw [← dN.out] at b4)); have bq := Aside0.mk (Kd.R_elder' (nRo bj) (Kd.R_base b4) hb); have br := Aside0.mk (Kd.R_lower (Kd.R_new' b4 (Kd.R_lt (nRo bj))) (keep_size (w := w) (g := g) (row := none) (nK HK))); have bs := Aside0.mk (IsS81.below (IsS81.n) hb); have bt := nblk bc hb; have bu := Aside0.mk (KeepBut.trans (nK HK) (KeepBut.of_below hb g none) (.inl rfl)); have bF := Aside0.mk (below_step (IsS81.nb) hb); clear bj HI0 bc HK HB; have bj := bq; have bA := br; have HI0 := bs; have bc := bt; have HK := bu; have HB := bF; clear bq br bs bt bu bF; clear hb b4; obtain ⟨er, es, et⟩ := Kd.R_slice bA.out; subst et) | ((with_reducible refine gate_callee (f := 47) rfl ?_); refine goesM (some 21) rfl rfl Try.func47 (by kernel_rfl) rfl #[.pointer (some ⟨g, 0, none⟩), .slice er dy.length es] rfl ?_; (with_reducible refine (spec_l1PickInt.calls g s0_0 b2 b3 _ _ dy bg bx bz w0 _ ?side1 ?side2 ?side3 ?side4 ?side5 A6.out).mono ?_); (case side1 => exact IsS81.n); (case side2 => exact IsS81.nb); (case side3 => repeat (first | exact (Kd.R_reads' bA.out).2.2 | (with_reducible refine Kd.C_alloc ?_ _) | (with_reducible refine Kd.C_drewN ?_ _) | (with_reducible refine Kd.C_drew ?_))); (case side4 => exact (Kd.R_reads' bA.out).2.1); (case side5 => exact far_slice (IsS81.own_ne HI0.out bA.out (by decide))); rintro e e4 ⟨rfl, hi, hb, hk⟩; refine ⟨_, rfl, ?_⟩; replace bc := Aside0.mk (KeepBut.blk hk (g' := bn) (o := .cells #[.int .i64 0, .int .i64 0, .int .i64 0, .int .i64 0, .int .i64 0] 25 (0, 0)) (nb bc) bJ.out (by simp)); replace bj := Aside0.mk (Kd.R_mono (Kd.R_keep (IsS81.apart (show IsS81 w0 _ g s0_0 b2 b3 from IsS81.n) (nRo bj) (by decide)) hk (fun _ h => h.2)) (fun _ h => h.1)); replace bA := Aside0.mk (Kd.R_mono (Kd.R_keep (IsS81.apart (show IsS81 w0 _ g s0_0 b2 b3 from IsS81.n) (nRo bA) (by decide)) hk (fun _ h => h.2)) (fun _ h => h.1)); replace HK := Aside0.mk (KeepBut.trans (nK HK) hk (.inl rfl)); replace HB := Aside0.mk (hb); replace HI0 := Aside0.mk (hi); (try clear hb)) | ((with_reducible refine gate_dst (N := 7) rfl ?_); refine bxe 7 #[.int .i64 0, .int .i64 0, .int .i64 0, .int .i64 0, .int .i64 0] 25 ?_; intro bw hg eu hbox hb; have bq := nR bj hb; have br := nR bA hb; have bs := Aside0.mk (IsS81.below (IsS81.n) hb); have bt := nblk bc hb; have bu := Aside0.mk (KeepBut.trans (nK HK) (KeepBut.of_below hb g none) (.inl rfl)); have bF := Aside0.mk (below_step (IsS81.nb) hb); have bL := hbox; have dc := Aside0.mk ((by rw [hg]; exact (keep_size (w := w) (g := g) (row := none) (nK HK)) : w.heap.size ≤ bw)); have dO := Aside0.mk ((Nat.le_trans HW0.out (by rw [hg]; exact (keep_size (w := w) (g := g) (row := none) (nK HK)) : w.heap.size ≤ bw) : w0.heap.size ≤ bw)); have dP := nlt bc hg; have dQ := ngt bc hg; have dR := Aside0.mk ((by rw [hg]; exact Nat.ne_of_lt (IsS81.lt (show IsS81 w0 _ g s0_0 bx bz from IsS81.n)) : g ≠ bw)); have dS := Aside0.mk ((by rw [hg]; exact Nat.ne_of_gt (IsS81.lt (show IsS81 w0 _ g s0_0 bx bz from IsS81.n)) : bw ≠ g)); clear bj bA HI0 bc HK HB; have bj := bq; have bA := br; have HI0 := bs; have bc := bt; have HK := bu; have HB := bF; have bf := bL; have e5 := dc; have e6 := dO; have bB := dP; have bU := dQ; have bV := dR; have bW := dS; clear bq br bs bt bu bF bL dc dO dP dQ dR dS; clear hb hbox hg; have e7 := bU.out; have e8 := bB.out; have e9 := bW.out; have ga := bV.out; obtain ⟨dT, dU, dV, dW, dX⟩ := c5e bf; obtain ⟨dY, dZ, d0, d1, d2⟩ := z5_ bf) | ((with_reducible refine gate_callee (f := 34) rfl ?_); refine goesM (some 25) rfl rfl Try.func34 (by kernel_rfl) rfl #[.int .i64 bg] rfl ?_; (with_reducible refine (spec_l6Has.calls bg ba _ A7.out).mono ?_); rintro e gb ⟨rfl, hb⟩; refine ⟨_, rfl, ?_⟩; have bq := Aside0.mk (Kd.R_below (by (with_reducible repeat (first | apply Kd.R_alloc | apply Kd.R_drewN | apply Kd.R_drew)); exact (f5 (Kd.R_types bj.out bf.out (by decide)))) hb); have br := Aside0.mk (Kd.R_below (by (with_reducible repeat (first | apply Kd.R_alloc | apply Kd.R_drewN | apply Kd.R_drew)); exact (f5 (Kd.R_types bA.out bf.out (by decide)))) hb); have bs := Aside0.mk (IsS81.below (show IsS81 w0 (((((eu.setCell ⟨bw, 0, none⟩ (.int .i64 bg)).setCell ⟨bw, 1, none⟩ (.int .i64 0)).setCell ⟨bw, 2, none⟩ (.int .i64 0)).setCell ⟨bw, 3, none⟩ (.int .i64 0)).setCell ⟨bw, 4, none⟩ (.int .i64 0)) g s0_0 bx bz from IsS81.n) hb); have bt := nblk bc hb; have bu := Aside0.mk (blk_below (g := bw) (o := .cells #[.int .i64 bg, .int .i64 0, .int .i64 0, .int .i64 0, .int .i64 0] 25 (0, 0)) (q5 bf) hb); have bF := Aside0.mk (KeepBut.trans (nK HK) (KeepBut.of_below hb g none) (.inl rfl)); have bL := Aside0.mk (below_step (IsS81.nb) hb); clear bj bA HI0 bc bf HK HB; have bj := bq; have bA := br; have HI0 := bs; have bc := bt; have bf := bu; have HK := bF; have HB := bL; clear bq br bs bt bu bF bL; (try clear hb)))
 (try simp only [Act.put, List.setIfInBounds_toArray, List.set_cons_zero, List.set_cons_succ])
 go_cut [] (fun wc => ∃ (kq : Nat) (bI : Int), Aside0 (spec_l6DrawIns.j0 kq bk bl bv ba s0_0 bx bz bg bI 0 0 0 = some (r1, r2, r3, r4, r5, r6, r7)) ∧ Aside0 (kq ≤ k) ∧ Aside0 (wc.heap[bn]? = some (.cells #[.int .i64 0, .int .i64 0, .int .i64 0, .int .i64 0, .int .i64 0] 25 (0, 0))) ∧ Aside0 (wc.heap[bw]? = some (.cells #[.int .i64 bg, .int .i64 bI, .int .i64 0, .int .i64 0, .int .i64 0] 25 (0, 0))) ∧ Aside0 (IsS81 w0 wc g s0_0 bx bz) ∧ Aside0 (KeepBut w wc g none) ∧ Aside0 (Below w0.heap.size w0 wc))
 case first =>
  have H := dz.out; clear dz
  by_cases c26 : (Go.bits .and .i64 ba 1) = 0
  ·rw [if_pos c26] at H
   have c26b0 : ((Go.bits .and .i64 ba 1) == 0) = true := beq_iff_eq.mpr c26; have c26b1 : ((Go.bits .and .i64 ba 1) != 0) = false := bne_eq_false_iff_eq.mpr c26; clear c26; (first | rw [c26b0] | (simp only [i64_w, i32_w]; rw [c26b0]) | skip); have H' := Aside0.mk H; clear H; go_wp2
   go_meet
   case rel => exact ⟨_, (0), H', ⟨by first | omega | exact Nat.le_refl _⟩, ⟨nb bc⟩, ⟨nb bf⟩, ⟨IsS81.n⟩, ⟨nK HK⟩, ⟨IsS81.nb⟩⟩
  ·rw [if_neg c26] at H
   have c26b0 : ((Go.bits .and .i64 ba 1) == 0) = false := beq_eq_false_iff_ne.mpr c26; have c26b1 : ((Go.bits .and .i64 ba 1) != 0) = true := bne_iff_ne.mpr c26; (first | rw [c26b0] | (simp only [i64_w, i32_w]; rw [c26b0]) | skip); have H' := Aside0.mk H; clear H; have gc := bU.out; have gd := bB.out; have gf := bW.out; have gg := bV.out; obtain ⟨d3, d4, d5, d6, d7⟩ := c5e bf; obtain ⟨d8, d9, ea, eb, ec⟩ := z5_ bf; go_wp2
   go_meet
   case rel => exact ⟨_, (wrap64 (1 + bH)), H', ⟨by first | omega | exact Nat.le_refl _⟩, ⟨k1_ bB.out (nb bc)⟩, ⟨by (with_reducible repeat (first | refine blk_drewN ?_ _ | refine blk_drew ?_ | refine blk_alloc ?_ _)); refine blk_put (cs := #[.int .i64 bg, .int .i64 0, .int .i64 0, .int .i64 0, .int .i64 0]) ?_ 1 _ rfl; (with_reducible repeat (first | refine blk_drewN ?_ _ | refine blk_drew ?_ | refine blk_alloc ?_ _)); exact bf.out⟩, ⟨IsS81.n⟩, ⟨nK HK⟩, ⟨IsS81.nb⟩⟩
 case rest =>
  clear dz; try clear c2
  try clear p2
  try clear c3
  try clear c4
  try clear p6
  try clear c22
  try clear c23
  try clear c26
  try clear c26b0
  try clear c26b1
  try clear c27
  try clear c28
  try clear dT
  try clear dU
  try clear dV
  try clear dW
  try clear dX
  try clear d3
  try clear d4
  try clear d5
  try clear d6
  try clear d7
  try clear dY
  try clear dZ
  try clear d0
  try clear d1
  try clear d2
  try clear d8
  try clear d9
  try clear ea
  try clear eb
  try clear ec
  obtain ⟨kq, bI, HA, ed, bc, bf, HI0, HK, HB⟩ := hcut
  cases kq with
  | zero => exact absurd HA.out (by simp [spec_l6DrawIns.j0])
  | succ kj7 =>
   have H := HA.out; clear HA; simp only [spec_l6DrawIns.j0] at H; have dA := Aside0.mk H; clear H
   go_upto_if 33 with (fail)
   go_cut [] (fun wc => ∃ (kq : Nat) (bX : Int), Aside0 (spec_l6DrawIns.j1 kq bl bv ba s0_0 bx bz bg bI bX 0 0 = some (r1, r2, r3, r4, r5, r6, r7)) ∧ Aside0 (kq ≤ kj7) ∧ Aside0 (wc.heap[bn]? = some (.cells #[.int .i64 0, .int .i64 0, .int .i64 0, .int .i64 0, .int .i64 0] 25 (0, 0))) ∧ Aside0 (wc.heap[bw]? = some (.cells #[.int .i64 bg, .int .i64 bI, .int .i64 bX, .int .i64 0, .int .i64 0] 25 (0, 0))) ∧ Aside0 (IsS81 w0 wc g s0_0 bx bz) ∧ Aside0 (KeepBut w wc g none) ∧ Aside0 (Below w0.heap.size w0 wc))
   case first =>
    have H := dA.out; clear dA
    by_cases c31 : (Go.bits .and .i64 ba 2) = 0
    ·rw [if_pos c31] at H
     have c31b0 : ((Go.bits .and .i64 ba 2) == 0) = true := beq_iff_eq.mpr c31; have c31b1 : ((Go.bits .and .i64 ba 2) != 0) = false := bne_eq_false_iff_eq.mpr c31; clear c31; (first | rw [c31b0] | (simp only [i64_w, i32_w]; rw [c31b0]) | skip); have H' := Aside0.mk H; clear H; go_wp2
     go_meet
     case rel => exact ⟨_, (0), H', ⟨by have := ed.out; first | omega | exact Nat.le_refl _⟩, ⟨nb bc⟩, ⟨nb bf⟩, ⟨IsS81.n⟩, ⟨nK HK⟩, ⟨IsS81.nb⟩⟩
    ·rw [if_neg c31] at H
     have c31b0 : ((Go.bits .and .i64 ba 2) == 0) = false := beq_eq_false_iff_ne.mpr c31; have c31b1 : ((Go.bits .and .i64 ba 2) != 0) = true := bne_iff_ne.mpr c31; (first | rw [c31b0] | (simp only [i64_w, i32_w]; rw [c31b0]) | skip); have H' := Aside0.mk H; clear H; have gh := bU.out; have gi := bB.out; have gj := bW.out; have gl := bV.out; obtain ⟨ev, ew, ex, ey, ez⟩ := c5e bf; obtain ⟨eA, eB, eC, eD, eE⟩ := z5_ bf; go_wp2
     go_meet
     case rel => exact ⟨_, (bk), H', ⟨by have := ed.out; first | omega | exact Nat.le_refl _⟩, ⟨k1_ bB.out (nb bc)⟩, ⟨by (with_reducible repeat (first | refine blk_drewN ?_ _ | refine blk_drew ?_ | refine blk_alloc ?_ _)); refine blk_put (cs := #[.int .i64 bg, .int .i64 bI, .int .i64 0, .int .i64 0, .int .i64 0]) ?_ 2 _ rfl; (with_reducible repeat (first | refine blk_drewN ?_ _ | refine blk_drew ?_ | refine blk_alloc ?_ _)); exact bf.out⟩, ⟨IsS81.n⟩, ⟨nK HK⟩, ⟨IsS81.nb⟩⟩
   case rest =>
    clear dA; try clear c2
    try clear p2
    try clear c3
    try clear c4
    try clear p6
    try clear c22
    try clear c23
    try clear c26
    try clear c26b0
    try clear c26b1
    try clear c27
    try clear c28
    try clear c31
    try clear c31b0
    try clear c31b1
    try clear c32
    try clear c33
    try clear c34
    try clear dT
    try clear dU
    try clear dV
    try clear dW
    try clear dX
    try clear d3
    try clear d4
    try clear d5
    try clear d6
    try clear d7
    try clear ev
    try clear ew
    try clear ex
    try clear ey
    try clear ez
    try clear dY
    try clear dZ
    try clear d0
    try clear d1
    try clear d2
    try clear d8
    try clear d9
    try clear ea
    try clear eb
    try clear ec
    try clear eA
    try clear eB
    try clear eC
    try clear eD
    try clear eE
    try clear p2
    try clear p6
    obtain ⟨kq, bX, HA, gm, bc, bf, HI0, HK, HB⟩ := hcut
    cases kq with
    | zero => exact absurd HA.out (by simp [spec_l6DrawIns.j1])
    | succ kj29 =>
     have H := HA.out; clear HA; simp only [spec_l6DrawIns.j1] at H
     by_cases c35 : (Go.bits .and .i64 ba 4) = 0
     ·rw [if_pos c35] at H
      have c35b0 : ((Go.bits .and .i64 ba 4) == 0) = true := beq_iff_eq.mpr c35; have c35b1 : ((Go.bits .and .i64 ba 4) != 0) = false := bne_eq_false_iff_eq.mpr c35; clear c35
      by_cases c36 : (Go.bits .and .i64 ba 8) = 0
      ·rw [if_pos c36] at H
       have c36b0 : ((Go.bits .and .i64 ba 8) == 0) = true := beq_iff_eq.mpr c36; have c36b1 : ((Go.bits .and .i64 ba 8) != 0) = false := bne_eq_false_iff_eq.mpr c36; clear c36; simp only [Option.some.injEq, Prod.mk.injEq] at H; obtain ⟨rfl, rfl, rfl, rfl, rfl, rfl, rfl⟩ := H; have gn := bU.out; have gp := bB.out; have gq := bW.out; have gr := bV.out; obtain ⟨gs, gt, gu, gv, gw⟩ := c5e bf; obtain ⟨gx, gy, gz, gA, gB⟩ := z5_ bf; have gC := bJ.out; have gD := dh.out; obtain ⟨gE, gF, gG, gH, gI⟩ := c5e bc; obtain ⟨gJ, gK, gL, gM, gN⟩ := z5_ bc; go_wp2; refine bodyPost_ret (results_cell_row rfl _ _ bn 25 #[.int .i64 bg, .int .i64 bI, .int .i64 bX, .int .i64 0, .int .i64 0] (0, 0) _ rfl (q5 bc) Try.underlying25 rfl (by kernel_rfl)) rfl ?_; exact ⟨er_, IsS81.n, IsS81.nb, nK HK⟩
      ·rw [if_neg c36] at H
       have c36b0 : ((Go.bits .and .i64 ba 8) == 0) = false := beq_eq_false_iff_ne.mpr c36; have c36b1 : ((Go.bits .and .i64 ba 8) != 0) = true := bne_iff_ne.mpr c36; simp only [Option.some.injEq, Prod.mk.injEq] at H; obtain ⟨rfl, rfl, rfl, rfl, rfl, rfl, rfl⟩ := H; have gO := bU.out; have gP := bB.out; have gQ := bW.out; have gR := bV.out; obtain ⟨gS, gT, gU, gV, gW⟩ := c5e bf; obtain ⟨gX, gY, gZ, g0, g1⟩ := z5_ bf; have g2 := bJ.out; have g3 := dh.out; obtain ⟨g4, g5, g6, g7, g8⟩ := c5e bc; obtain ⟨g9, ha, hc, hf, hh⟩ := z5_ bc; go_wp2; refine bodyPost_ret (results_cell_row rfl _ _ bn 25 #[.int .i64 bg, .int .i64 bI, .int .i64 bX, .int .i64 0, .int .i64 bv] (0, 0) _ rfl (p5 bc (k1_ bB.out (nb bc))) Try.underlying25 rfl (by kernel_rfl)) rfl ?_; exact ⟨er_, IsS81.n, IsS81.nb, nK HK⟩
     ·rw [if_neg c35] at H
      have c35b0 : ((Go.bits .and .i64 ba 4) == 0) = false := beq_eq_false_iff_ne.mpr c35; have c35b1 : ((Go.bits .and .i64 ba 4) != 0) = true := bne_iff_ne.mpr c35
      by_cases c47 : (Go.bits .and .i64 ba 8) = 0
      ·rw [if_pos c47] at H
       have c47b0 : ((Go.bits .and .i64 ba 8) == 0) = true := beq_iff_eq.mpr c47; have c47b1 : ((Go.bits .and .i64 ba 8) != 0) = false := bne_eq_false_iff_eq.mpr c47; clear c47; simp only [Option.some.injEq, Prod.mk.injEq] at H; obtain ⟨rfl, rfl, rfl, rfl, rfl, rfl, rfl⟩ := H; have hj := bU.out; have hl := bB.out; have hm := bW.out; have hn := bV.out; obtain ⟨hs, hu, hv, hx, hy⟩ := c5e bf; obtain ⟨hz, hA, hC, hD, hE⟩ := z5_ bf; have hF := bJ.out; have hG := dh.out; obtain ⟨hH, hJ, hK, hL, hM⟩ := c5e bc; obtain ⟨hN, hO, hQ, hR, hS⟩ := z5_ bc; go_wp2; refine bodyPost_ret (results_cell_row rfl _ _ bn 25 #[.int .i64 bg, .int .i64 bI, .int .i64 bX, .int .i64 bl, .int .i64 0] (0, 0) _ rfl (p5 bc (k1_ bB.out (nb bc))) Try.underlying25 rfl (by kernel_rfl)) rfl ?_; exact ⟨er_, IsS81.n, IsS81.nb, nK HK⟩
      ·rw [if_neg c47] at H
       have c47b0 : ((Go.bits .and .i64 ba 8) == 0) = false := beq_eq_false_iff_ne.mpr c47; have c47b1 : ((Go.bits .and .i64 ba 8) != 0) = true := bne_iff_ne.mpr c47; simp only [Option.some.injEq, Prod.mk.injEq] at H; obtain ⟨rfl, rfl, rfl, rfl, rfl, rfl, rfl⟩ := H; have hT := bU.out; have hU := bB.out; have hV := bW.out; have hW := bV.out; obtain ⟨hX, hY, hZ, h0, h1⟩ := c5e bf; obtain ⟨h2, h3, h4, h5, h6⟩ := z5_ bf; have h7 := bJ.out; have h8 := dh.out; obtain ⟨h9, ia, ib, ic, ig⟩ := c5e bc; obtain ⟨ih, ii, ij, ik, il⟩ := z5_ bc; go_wp2; refine bodyPost_ret (results_cell_row rfl _ _ bn 25 #[.int .i64 bg, .int .i64 bI, .int .i64 bX, .int .i64 bl, .int .i64 bv] (0, 0) _ rfl (p5 bc (k2_ bB.out (nb bc))) Try.underlying25 rfl (by kernel_rfl)) rfl ?_; exact ⟨er_, IsS81.n, IsS81.nb, nK HK⟩

end Go.Proofs.Ytopbiecjfhfhdaa.PFnCodes
