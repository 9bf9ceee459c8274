/- Safe contracts: a function that draws hands back a value of its kind and leaves all but its cursor as it was; words for their walks. -/
import Derived.Test.YtpcladboobfkhaaPFnWorkx40
import Derived.Test.YtpcladboobfkhaaEFnWork
namespace Go.Proofs.Ytpcladboobfkhaa.PFnWork
open Go.RowKit Go.Proofs.YtpcladboobfkhaaW.PrintWords Go.Proofs.YtpcladboobfkhaaW.PrintLast Go.Proofs.YtpcladboobfkhaaW.PrintMore Go.Proofs.YtpcladboobfkhaaW.Mine
open Go.Proofs.Ytpcladboobfkhaa.Pure
set_option linter.unusedVariables false
set_option linter.unusedSimpArgs false
def CI (w0 w : World) (g : Nat) : Prop := ∃ l i h, l.length ≤ maxLen ∧ 0 ≤ i ∧ IsS69 w0 w g l i h ∧ Below w0.heap.size w0 w
section
variable {w0 w w1 : World} {g : Nat}
theorem CI.lt (h : CI w0 w g) : g < w.heap.size := by obtain ⟨_, _, _, _, _, h, _⟩ := h; exact h.lt
theorem CI.ge (h : CI w0 w g) : w0.heap.size ≤ g := by obtain ⟨_, _, _, _, _, h, _⟩ := h; exact h.ge
theorem CI.bel (h : CI w0 w g) : Below w0.heap.size w0 w := by obtain ⟨_, _, _, _, _, _, h⟩ := h; exact h
theorem CI.below (h : CI w0 w g) (hb : Below w.heap.size w w1) : CI w0 w1 g := by
  obtain ⟨l, i, j, a, b, c, d⟩ := h; exact ⟨l, i, j, a, b, c.below hb, below_step d hb⟩
theorem CI.alloc (h : CI w0 w g) (o : Obj) : CI w0 (w.alloc o) g := h.below (below_alloc (Below.refl _ _) o)
theorem CI.drew (h : CI w0 w g) : CI w0 w.drew g := by
  obtain ⟨l, i, j, a, b, c, d⟩ := h; exact ⟨l, i, j, a, b, c.drew, below_drew1 d⟩
theorem CI.drewN (h : CI w0 w g) (n : Nat) : CI w0 (w.drewN n) g := by
  obtain ⟨l, i, j, a, b, c, d⟩ := h; exact ⟨l, i, j, a, b, c.drewN n, pw_below_drewN d n⟩
theorem CI.set {b j : Nat} {v : Value} (h : CI w0 w g) (hb : g ≠ b) (h0 : w0.heap.size ≤ b) : CI w0 (w.setCell ⟨b, j, none⟩ v) g := by
  obtain ⟨l, i, k, p, q, c, d⟩ := h; exact ⟨l, i, k, p, q, c.far hb v, below_set d h0⟩
theorem CI.row {b : Nat} {cells : Array Value} {w' : World} (h : CI w0 w g) (hb : g ≠ b) (h0 : w0.heap.size ≤ b) (hr : Aside0 (w' = w.setRow b cells)) : CI w0 w' g := by
  obtain ⟨l, i, k, p, q, c, d⟩ := h
  obtain ⟨A, c0, e, f⟩ := c
  refine ⟨l, i, k, p, q, ⟨A, c0, ?_, f⟩, below_row d h0 hr⟩
  rw [hr.out]; exact (setRow_other w b g cells hb).trans e
end
theorem dCI {w0 w : World} {g : Nat} (h : CI w0 w g := by (repeat' (first | (with_reducible (first | exact Aside0.out (by assumption) | refine CI.alloc ?_ _ | refine CI.drewN ?_ _ | refine CI.drew ?_ | refine CI.set ?_ ?_ ?_ | refine CI.row ?_ ?_ ?_ (by assumption) | refine CI.below ?_ (by assumption))))); (all_goals omega)) : CI w0 w g := h
def SC (f : Nat) (xs : List Value) (P : World → World → Value → Prop) : Prop := ∀ (w0 w : World) (g : Nat), CI w0 w g → Calls Try.prog f (Value.pointer (some ⟨g, 0, none⟩) :: xs).toArray w fun e w' => ∃ v, e = .returned v ∧ P w w' v ∧ CI w0 w' g ∧ KeepBut w w' g none
theorem SC.go {f : Nat} {xs : List Value} {P : World → World → Value → Prop} {w0 W : World} {g : Nat} {Q : Ending → World → Prop} (h : SC f xs P) (k : ∀ v w', P W w' v → Aside0 (CI w0 w' g) → Aside0 (KeepBut W w' g none) → W.heap.size ≤ w'.heap.size → ((∀ h j, h ≠ g → h < W.heap.size → w'.cell? ⟨h, j, none⟩ = W.cell? ⟨h, j, none⟩) ∧ (∀ h j, h ≠ g → h < W.heap.size → w'.frozen? ⟨h, j, none⟩ = W.frozen? ⟨h, j, none⟩) ∧ (∀ h, h ≠ g → h < W.heap.size → dhp w' h = dhp W h)) → Q (.returned v) w')
    (hc : CI w0 W g := by exact dCI) : Calls Try.prog f (Value.pointer (some ⟨g, 0, none⟩) :: xs).toArray W Q :=
  (h w0 W g hc).mono fun e w' he => by
    obtain ⟨v, rfl, hp, hi, hk⟩ := he
    exact k v w' hp ⟨hi⟩ ⟨hk⟩ hk.1 ⟨fun h j hg hl => by unfold World.cell?; rw [hk.2 h hl hg (by simp)], fun h j hg hl => by unfold World.frozen?; rw [hk.2 h hl hg (by simp)], fun h hg hl => hk.2 h hl hg (by simp)⟩
def WV (v : Value) : Prop := ∃ n b x y z s, v = .agg #[.int .i64 n, .bool b, .int .i64 x, .int .i64 y, .int .i64 z, .int .i64 s]
def IV (v : Value) : Prop := ∃ a b c d e, v = .agg #[.int .i64 a, .int .i64 b, .int .i64 c, .int .i64 d, .int .i64 e]
theorem sc16 (n : Int) (hn : 0 < n) : SC 16 [.int .i64 n] (fun _ _ v => ∃ x, v = .int .i64 x ∧ 0 ≤ x ∧ x < n) := by
  intro w0 w g ⟨l, i, h, hl, hi, hI, hB⟩
  obtain ⟨⟨x, i', h'⟩, e, p⟩ := below_T l i h n hl hi hn
  refine (spec_l1Below.calls (h := e) (hI := hI) (hB := hB)).mono ?_
  rintro e w' ⟨rfl, a, b, c⟩
  exact ⟨_, rfl, ⟨_, rfl, p.2⟩, ⟨_, _, _, hl, p.1, a, b⟩, c⟩
theorem sc17 (n : Int) (hn : 0 < n) : SC 17 [.int .i64 n] (fun _ _ v => ∃ x, v = .bool x) := by
  intro w0 w g ⟨l, i, h, hl, hi, hI, hB⟩
  obtain ⟨⟨x, i', h'⟩, e, p⟩ := once_T l i h n hl hi hn
  refine (spec_l1Once.calls (h := e) (hI := hI) (hB := hB)).mono ?_
  rintro e w' ⟨rfl, a, b, c⟩
  exact ⟨_, rfl, ⟨_, rfl⟩, ⟨_, _, _, hl, p, a, b⟩, c⟩
theorem sc18 : SC 18 [] (fun _ _ v => WV v) := by
  intro w0 w g ⟨l, i, h, hl, hi, hI, hB⟩
  obtain ⟨⟨r1, r2, r3, r4, r5, r6, i', h'⟩, e, p⟩ := word_T 0 l i h hl hi
  refine (spec_l3Draw.calls (h := e) (hI := hI) (hB := hB)).mono ?_
  rintro e w' ⟨rfl, a, b, c⟩
  exact ⟨_, rfl, ⟨_, _, _, _, _, _, rfl⟩, ⟨_, _, _, hl, p, a, b⟩, c⟩
theorem sc13 {A : Option Addr} {c : Nat} {l : List Int} {w0 w : World} (hB : Below w0.heap.size w0 w) (hr : Kd.C (Kd.int .u8) w0 A l.length l) (hc : l.length ≤ c) (hl : l.length ≤ maxLen) : Calls Try.prog 13 #[.slice A l.length c] w fun e w' => ∃ g, e = .returned (.pointer (some ⟨g, 0, none⟩)) ∧ CI w0 w' g ∧ Below w.heap.size w w' ∧ w.heap.size ≤ g := by
  obtain ⟨⟨r1, i, h⟩, e, p⟩ := new_T 4001 l (Nat.le_refl _) hl
  refine (spec_l1New.calls (h := e) (hB := hB) (hr0 := hr) (hc0 := hc)).mono ?_
  rintro e w' ⟨g, rfl, a, b, c, d⟩
  exact ⟨g, rfl, ⟨_, _, _, p.1, p.2, a, b⟩, c, d⟩
theorem sc14 {A : Option Addr} {c : Nat} {l : List Int} {w : World} (hr : Kd.C (Kd.int .u8) w A l.length l) (hc : l.length ≤ c) (hl : l.length ≤ maxLen) : Calls Try.prog 14 #[.slice A l.length c] w fun e w' => ∃ v, e = .returned v ∧ IV v ∧ Below w.heap.size w w' := by
  obtain ⟨⟨a, b, c, d, e'⟩, e, p⟩ := one_T 0 l hl
  refine (spec_l6DrawOne.calls (h := e) (w := w) (hr0 := hr) (hc0 := hc)).mono ?_
  rintro e w' ⟨rfl, b⟩
  exact ⟨_, rfl, ⟨_, _, _, _, _, rfl⟩, b⟩
theorem sc15 (b t p s n : Int) (w : World) : Calls Try.prog 15 #[.agg #[.int .i64 b, .int .i64 t, .int .i64 p, .int .i64 s], .int .i64 n] w fun e w' => ∃ v, e = .returned v ∧ WV v ∧ Below w.heap.size w w' := by
  obtain ⟨⟨r1, r2, r3, r4, r5, r6⟩, e, p⟩ := keyWord_T 0 b t p s n
  refine (spec_KeyWord.calls (h := e) (w := w)).mono ?_
  rintro e w' ⟨rfl, b⟩
  exact ⟨_, rfl, ⟨_, _, _, _, _, _, rfl⟩, b⟩
/-- a call of a contract 'some value of a kind, and nothing old has turned' -/
theorem dmv {P : Program} {f : FuncId} {args : Array Value} {W : World} {V : World → Value → Prop} {Q : Ending → World → Prop} (h : Calls P f args W fun e w' => ∃ v, e = .returned v ∧ V w' v ∧ Below W.heap.size W w')
    (k : ∀ v w', V w' v → Below W.heap.size W w' → ((∀ g j, g < W.heap.size → w'.cell? ⟨g, j, none⟩ = W.cell? ⟨g, j, none⟩) ∧ (∀ g j, g < W.heap.size → w'.frozen? ⟨g, j, none⟩ = W.frozen? ⟨g, j, none⟩) ∧ (∀ g : Nat, g < W.heap.size → dhp w' g = dhp W g)) → Q (.returned v) w') : Calls P f args W Q :=
  h.mono fun e w' he => by
    obtain ⟨v, rfl, hv, hb⟩ := he
    exact k v w' hv hb ⟨fun g j h => hb.cell h, fun g j h => by unfold World.frozen?; rw [hb.block g h], fun g h => hb.block g h⟩
def SBl (W : World) (lo : Nat) (g : Option Nat) (w' : World) : Prop := W.heap.size ≤ w'.heap.size ∧ ∀ h, lo ≤ h → h < W.heap.size → some h ≠ g → w'.heap[h]? = W.heap[h]?
theorem SBl.cl {W w' : World} {lo : Nat} {g : Option Nat} (h : SBl W lo g w') : ∀ b j, lo ≤ b → b < W.heap.size → some b ≠ g → w'.cell? ⟨b, j, none⟩ = W.cell? ⟨b, j, none⟩ := fun b j h1 h2 h3 => by unfold World.cell?; rw [h.2 b h1 h2 h3]
theorem SBl.keep {W w w' : World} {lo g : Nat} (h : SBl W lo (some g) w) (hk : Aside0 (KeepBut w w' g none)) : SBl W lo (some g) w' := ⟨Nat.le_trans h.1 hk.out.1, fun b hl hb hg =>
  (hk.out.2 b (by have := h.1; omega) (fun e => hg (by rw [e])) (by simp)).trans (h.2 b hl hb hg)⟩
theorem SBl.below {W w w' : World} {lo : Nat} {g : Option Nat} (h : SBl W lo g w) (hk : Below w.heap.size w w') : SBl W lo g w' := ⟨Nat.le_trans h.1 hk.size, fun b hl hb hg => (hk.block b (by have := h.1; omega)).trans (h.2 b hl hb hg)⟩
theorem SBl.alloc {W w : World} {lo : Nat} {g : Option Nat} {o : Obj} (h : SBl W lo g w) : SBl W lo g (w.alloc o) := h.below (below_alloc (Below.refl _ _) o)
theorem SBl.set {W w : World} {lo b j : Nat} {g : Option Nat} {v : Value} (h : SBl W lo g w) (hb : b < lo ∨ W.heap.size ≤ b ∨ some b = g) : SBl W lo g (w.setCell ⟨b, j, none⟩ v) := ⟨by simpa [World.setCell] using h.1, fun c hl hc hg => by
  refine Eq.trans (Below.heap_setCell w ⟨b, j, none⟩ v c ?_) (h.2 c hl hc hg)
  show c ≠ b
  rintro rfl
  rcases hb with hb | hb | hb
  · omega
  · omega
  · exact hg hb⟩
theorem SBl.drew {W w : World} {lo : Nat} {g : Option Nat} (h : SBl W lo g w) : SBl W lo g w.drew := h
theorem SBl.refl {W : World} {lo : Nat} {g : Option Nat} : SBl W lo g W := ⟨Nat.le_refl _, fun _ _ _ _ => rfl⟩
theorem dSB {W w w' : World} {lo : Nat} {g : Option Nat} (H : SBl W lo g w) (h : SBl W lo g w' := by ((repeat' (with_reducible (first | assumption | exact SBl.refl | refine SBl.set ?_ ?_ | refine SBl.drew ?_ | refine SBl.alloc ?_ | refine SBl.keep ?_ (by assumption) | refine SBl.below ?_ (by assumption)))); (all_goals (first | omega | (simp; done) | (simp; omega) | (refine Or.inr (Or.inr ?_); rfl) | (refine Or.inr (Or.inl ?_); simp; done) | (refine Or.inr (Or.inl ?_); simp; omega))))) : SBl W lo g w' := h
theorem dix {i n : Int} (h0 : 0 ≤ i) (h1 : i < n) : decide (0 ≤ i) = true ∧ decide (i < n) = true ∧ 0 ≤ i ∧ i < n := ⟨decide_eq_true h0, decide_eq_true h1, h0, h1⟩
def rowy : TypeDesc → Bool
  | .struct _ | .array _ _ => true
  | _ => false
section
variable {P : Program} {ops : Array Oper} {Q : Exit → Act → World → Prop} {id n : Nat} {a : Act} {W : World} {T : Bool × List (List Nat × List Nat)} {B : List Nat} {lo : Nat} {g : Option Nat} {ds : List Nat} {md : Region.Mode} {fuel : Nat} {l : Array Bool} {w : World}
theorem dst (lo : Nat) (g : Option Nat) (ds : List Nat) (l : Array Bool) (hT : rtab .any ops = T) (hB : waitsOk T.2 B = true) (h : Aside0 (rtab .any ops = T) → Aside0 (waitsOk T.2 B = true) → SBl W lo g W.drew → wpAnyLast P .any ops Q (SBl W lo g) ds n l a W.drew) (hm : P.follows .mixedOrders = true := by kernel_rfl) (hn : ops.size = n := by rfl) (hl : Array.replicate n false = l := by rfl) : (Code.region id ops true).wp P Q a W :=
  start_ l hm hn hl ⟨Nat.le_refl _, fun _ _ _ _ => rfl⟩ (fun hS => h ⟨hT⟩ ⟨hB⟩ hS)
theorem dT {oi : Oper} {v : Value} {a' : Act} (hT : rtab md ops = T) (hB : waitsOk T.2 B = true) (hS : SBl W lo g w) (i n : Nat) (l' : Array Bool) (h : wpAnyLast P md ops Q (SBl W lo g) ds fuel l' a' w) (hi : ops[i]? = some oi := by exact rfl) (hN : oi.dst = some n := by exact rfl) (hc : takeW T B ds l.toList l'.toList i = true := by kernel_rfl) (hQ : ∀ c a w, Q (.panic c) (a.put oi.dst v) w → Q (.panic c) a w := by exact fun _ _ _ h => h) (hw : Region.wanted oi (yielded ops a.tmps) = true := by rfl) (hy : ∀ w', SBl W lo g w' → (execOp a.eval oi).run P w' = .ok (.value v) w' := by (intro w' hS'; replace hS' := SBl.cl hS'; go_simp; with_reducible rfl)) (ha : a.put (some n) v = a' := by (simp only [Act.put, List.setIfInBounds_toArray, List.set_cons_zero, List.set_cons_succ, i64_w, i32_w]; rfl)) : wpAnyLast P md ops Q (SBl W lo g) ds (fuel + 1) l a w := take_ l' hi hN (take_ofW hT hB hc) hQ (Or.inl ⟨hw, hy⟩) hS ha h
theorem ex_row {oi : Oper} {w' : World} {ty t : TypeId} {b : Nat} {cs : Array Value} {fr : Nat × Nat} {d : TypeDesc} (hx : ∃ x, oi.op = .load ty x ∧ a.eval x = .pointer (some ⟨b, 0, none⟩)) (hu : P.underlying ty = some d) (hg : w'.heap[b]? = some (.cells cs t fr)) (hd : rowy d = true) (hz : (P.info? ty).map (·.size) = some cs.size) : (execOp a.eval oi).run P w' = .ok (.value (.agg cs)) w' := by
  obtain ⟨x, ho, hx⟩ := hx
  have hr := run_loadVar_row (P := P) w' b t ty cs fr d hg hu (by cases d <;> first | rfl | cases hd) hz
  unfold execOp
  simp only [ho, hx, Instr.loadAt, Instr.sureAddr, Sem.run_bind, Sem.run_pure, Result.andThen_ok, hr]
theorem dTr {oi : Oper} {a' : Act} {ty t : TypeId} {b : Nat} {cs : Array Value} {fr : Nat × Nat} {d : TypeDesc} {ob : Option Obj} (hu : P.underlying ty = some d) (hT : rtab md ops = T) (hB : waitsOk T.2 B = true) (hS : SBl W lo g w) (i n : Nat) (l' : Array Bool) (h : wpAnyLast P md ops Q (SBl W lo g) ds fuel l' a' w) (hi : ops[i]? = some oi := by exact rfl) (hN : oi.dst = some n := by exact rfl) (hc : takeW T B ds l.toList l'.toList i = true := by kernel_rfl) (hx : ∃ x, oi.op = .load ty x ∧ a.eval x = .pointer (some ⟨b, 0, none⟩) := by exact ⟨_, rfl, rfl⟩)
    (hg : dhp W b = ob := by (try go_simp); rfl) (ho : ob = some (.cells cs t fr) := by rfl) (hlo : lo ≤ b := by first | omega | (go_simp; done)) (hl : b < W.heap.size := by first | omega | (go_simp; done) | (go_simp; omega)) (hb : some b ≠ g := by first | simp | (simp; omega) | (go_simp; done)) (hQ : ∀ c a w, Q (.panic c) (a.put oi.dst (.agg cs)) w → Q (.panic c) a w := by exact fun _ _ _ h => h) (hw : Region.wanted oi (yielded ops a.tmps) = true := by rfl) (hd : rowy d = true := by rfl) (hz : (P.info? ty).map (·.size) = some cs.size := by kernel_rfl) (ha : a.put (some n) (.agg cs) = a' := by (simp only [Act.put, List.setIfInBounds_toArray, List.set_cons_zero, List.set_cons_succ, i64_w, i32_w]; rfl)) : wpAnyLast P md ops Q (SBl W lo g) ds (fuel + 1) l a w :=
  take_ l' hi hN (take_ofW hT hB hc) hQ (Or.inl ⟨hw, fun w' hS' => ex_row hx hu ((hS'.2 b hlo hl hb).trans (by subst ho; exact hg)) hd hz⟩) hS ha h
theorem dS {S : World → Prop} {oi : Oper} {w1 : World} (hT : rtab md ops = T) (i : Nat) (l' : Array Bool) (h : S w1 → wpAnyLast P md ops Q S ds fuel l' a w1) (hi : ops[i]? = some oi := by exact rfl) (hN : oi.dst = none := by exact rfl) (hc : (readyT T.2 l.toList == [i] && l.toList.set i true == l'.toList) = true := by kernel_rfl) (hd : i ∉ ds := by decide) (hw : Region.wanted oi (yielded ops a.tmps) = true := by rfl) (hrun : (execOp a.eval oi).run P w = .ok .skip w1 := by (go_simp; rfl)) (hS : S w1 := by exact dSB (by assumption)) : wpAnyLast P md ops Q S ds (fuel + 1) l a w :=
  one_ l' hi hN (one_of hT hc) hd (fun K hK => skip_ hw hN hrun (hK.out _ _ hS (fun hS => h hS)))
theorem qA {S : World → Prop} {K : Act → World → Prop} {oi : Oper} {N : Option Tmp} {v : Value} {w1 : World} {a' : Act} {l' : Array Bool} (hK : Shut (∀ a' w', S w' → (S w' → wpAnyLast P md ops Q S ds fuel l' a' w') → K a' w')) (h : S w1 → wpAnyLast P md ops Q S ds fuel l' a' w1) (hN : oi.dst = N := by exact rfl) (hw : Region.wanted oi (yielded ops a.tmps) = true := by rfl) (hrun : (execOp a.eval oi).run P w = .ok (.value v) w1 := by (first | (go_simp; done) | (go_simp; exact ⟨rfl, rfl⟩) | (go_simp; rfl))) (hS : S w1 := by exact dSB (by assumption)) (ha : a.put N v = a' := by (simp only [Act.put, List.setIfInBounds_toArray, List.set_cons_zero, List.set_cons_succ, i64_w, i32_w]; rfl)) : if Region.wanted oi (yielded ops a.tmps) = true then Oper.wp P oi a w K Q else K (a.put N undef) w :=
  value_ hw hN hrun (by rw [ha]; exact hK.out _ _ hS h)
theorem dA {S : World → Prop} {oi : Oper} {N : Option Tmp} {v : Value} {w1 : World} {a' : Act} (hT : rtab md ops = T) (i : Nat) (l' : Array Bool) (h : S w1 → wpAnyLast P md ops Q S ds fuel l' a' w1) (hi : ops[i]? = some oi := by exact rfl) (hN : oi.dst = N := by exact rfl) (hc : (readyT T.2 l.toList == [i] && l.toList.set i true == l'.toList) = true := by kernel_rfl) (hd : i ∉ ds := by decide) (hw : Region.wanted oi (yielded ops a.tmps) = true := by rfl) (hrun : (execOp a.eval oi).run P w = .ok (.value v) w1 := by (first | (go_simp; done) | (go_simp; exact ⟨rfl, rfl⟩) | (go_simp; rfl))) (hS : S w1 := by exact dSB (by assumption)) (ha : a.put N v = a' := by (simp only [Act.put, List.setIfInBounds_toArray, List.set_cons_zero, List.set_cons_succ, i64_w, i32_w]; rfl)) : wpAnyLast P md ops Q S ds (fuel + 1) l a w :=
  one_ l' hi hN (one_of hT hc) hd (fun K hK => qA hK h hN hw hrun hS ha)
theorem dL {S : World → Prop} {oi : Oper} {w1 : World} (hT : rtab md ops = T) (i : Nat) (l' : Array Bool) (h : wpAnyLast P md ops Q S ds fuel l' a w1) (hi : ops[i]? = some oi := by exact rfl) (hN : oi.dst = none := by exact rfl) (hc : (readyT T.2 l.toList == [i] && l.toList.set i true == l'.toList) = true := by kernel_rfl) (hd : i ∈ ds := by decide) (hw : Region.wanted oi (yielded ops a.tmps) = true := by rfl) (hrun : (execOp a.eval oi).run P w = .ok .skip w1 := by (go_simp; rfl)) : wpAnyLast P md ops Q S ds (fuel + 1) l a w :=
  last_ l' hi hN (one_of hT hc) hd (fun K hK => skip_ hw hN hrun (hK.out _ _ h))
theorem dN {S : World → Prop} {a a' : Act} (h : wpAnyLast P md ops Q S ds fuel l a' w) (ha : a = a' := by (simp only [Act.put, List.setIfInBounds_toArray, List.set_cons_zero, List.set_cons_succ, i64_w, i32_w]; rfl)) : wpAnyLast P md ops Q S ds fuel l a w := norm_ ha h
theorem dNs {S : World → Prop} {a a' : Act} {v : Value} {d : Option Tmp} (N : Tmp) (h : wpAnyLast P md ops Q S ds fuel l a' w) (hd : d = some N := by rfl) (ha : a.put (some N) v = a' := by (simp only [Act.put, List.setIfInBounds_toArray, List.set_cons_zero, List.set_cons_succ, i64_w, i32_w]; rfl)) : wpAnyLast P md ops Q S ds fuel l (a.put d v) w := by
  subst hd; exact norm_ ha h
theorem dC {S : World → Prop} {oi : Oper} {f : FuncId} {fn : Func} {as_ : Array Operand} {ts : Array TypeId} (hT : rtab md ops = T) (i : Nat) (N : Option Tmp) (l' : Array Bool) (hf : P.funcs[f]? = some fn) (args : Array Value) (h : Calls P f args w fun e w' => ∃ v, e = .returned v ∧ S w' ∧ (S w' → wpAnyLast P md ops Q S ds fuel l' (a.put N v) w')) (hi : ops[i]? = some oi := by exact rfl) (hN : oi.dst = N := by exact rfl) (hop : oi.op = .call { callee := .value (.func f), args := as_, argTypes := ts } := by rfl) (hargs : as_.map a.eval = args := by (try simp only [List.map_toArray, List.map_cons, List.map_nil]); first | done | rfl) (hname : (fn.name == "runtime.NumGoroutine") = false := by kernel_rfl) (hb : fn.body.isSome = true := by rfl) (hc : (readyT T.2 l.toList == [i] && l.toList.set i true == l'.toList) = true := by kernel_rfl) (hd : i ∉ ds := by decide) (hw : Region.wanted oi (yielded ops a.tmps) = true := by rfl) : wpAnyLast P md ops Q S ds (fuel + 1) l a w :=
  one_ l' hi hN (one_of hT hc) hd (fun K hK => goes_ hf hname hb args hw hN hop hargs (h.mono fun e w' he => by
    obtain ⟨v, rfl, hS, hk⟩ := he
    exact ⟨v, rfl, hK.out _ _ hS hk⟩))
theorem dVc {p : Tmp} {tmps : Array Value} {ty : TypeId} {rs : List ResultVar} {vs : List Value} {b : Nat} {t : TypeId} {cs : Array Value} {fr : Nat × Nat} {d : TypeDesc} {ob : Option Obj} (hu : P.underlying ty = some d) (h : Vals P tmps w rs vs)
    (hp : tmps.getD p undef = .pointer (some ⟨b, 0, none⟩) := by rfl) (hg : dhp w b = ob := by ((try go_simp); rfl)) (ho : ob = some (.cells cs t fr) := by rfl) (hd : (match d with | .struct _ | .array _ _ => true | _ => false) = true := by rfl) (hi : (P.info? ty).map (·.size) = some cs.size := by kernel_rfl) : Vals P tmps w (.cell p ty :: rs) (.agg cs :: vs) := by
  subst ho; exact .cell b t cs fr d hp hg hu hd hi h
end
theorem dBk {w0 w : World} {g : Nat} (h : Aside0 (CI w0 w g)) : Below w0.heap.size w0 w := h.out.bel
theorem dBe {w W : World} (h : Below w.heap.size w W := by (repeat' (with_reducible (first | assumption | exact dBk (by assumption) | exact Below.refl _ _ | refine below_set ?_ ?_ | refine below_alloc ?_ _ | refine below_row ?_ ?_ (by assumption) | refine below_drew1 ?_ | refine pw_below_drewN ?_ _ | refine below_step ?_ (by assumption)))); (all_goals (first | exact Nat.le_refl _ | (simp only [Nat.add_assoc]; exact Nat.le_add_right _ _) | omega))) : Below w.heap.size w W := h
theorem dnew {A : Option Addr} {c : Nat} {l : List Int} {w0 W : World} {Q : Ending → World → Prop} (hr : Kd.C (Kd.int .u8) w0 A l.length l) (hc : l.length ≤ c) (hl : l.length ≤ maxLen)
    (k : ∀ g w', Aside0 (CI w0 w' g) → Below W.heap.size W w' → ((∀ g j, g < W.heap.size → w'.cell? ⟨g, j, none⟩ = W.cell? ⟨g, j, none⟩) ∧ (∀ g j, g < W.heap.size → w'.frozen? ⟨g, j, none⟩ = W.frozen? ⟨g, j, none⟩) ∧ (∀ g : Nat, g < W.heap.size → dhp w' g = dhp W g)) → W.heap.size ≤ g → Q (.returned (.pointer (some ⟨g, 0, none⟩))) w')
    (hB : Below w0.heap.size w0 W := by exact dBe) : Calls Try.prog 13 #[.slice A l.length c] W Q :=
  (sc13 hB hr hc hl).mono fun e w' he => by
    obtain ⟨g, rfl, hi, hb, hn⟩ := he
    exact k g w' ⟨hi⟩ hb ⟨fun g j h => hb.cell h, fun g j h => by unfold World.frozen?; rw [hb.block g h], fun g h => hb.block g h⟩ hn
theorem ddz (w : World) : w.drew.heap = w.heap := Eq.trans (b := w.heap) rfl rfl
theorem ddc (w : World) (a : Addr) : w.drew.cell? a = w.cell? a := Eq.trans (b := w.cell? a) rfl rfl
theorem nn2 (n : Nat) : (n + 1 + 1 = n) = False ∧ (n = n + 1 + 1) = False := by constructor <;> (apply eq_false; omega)
theorem nn3 (n : Nat) : (n + 1 + 1 + 1 = n) = False ∧ (n = n + 1 + 1 + 1) = False := by constructor <;> (apply eq_false; omega)
theorem nn4 (n : Nat) : (n + 1 + 1 + 1 + 1 = n) = False ∧ (n = n + 1 + 1 + 1 + 1) = False := by constructor <;> (apply eq_false; omega)
theorem nn5 (n : Nat) : (n + 1 + 1 + 1 + 1 + 1 = n) = False ∧ (n = n + 1 + 1 + 1 + 1 + 1) = False := by constructor <;> (apply eq_false; omega)
theorem nn6 (n : Nat) : (n + 1 + 1 + 1 + 1 + 1 + 1 = n) = False ∧ (n = n + 1 + 1 + 1 + 1 + 1 + 1) = False := by constructor <;> (apply eq_false; omega)
theorem nn7 (n : Nat) : (n + 1 + 1 + 1 + 1 + 1 + 1 + 1 = n) = False ∧ (n = n + 1 + 1 + 1 + 1 + 1 + 1 + 1) = False := by constructor <;> (apply eq_false; omega)
theorem nn8 (n : Nat) : (n + 1 + 1 + 1 + 1 + 1 + 1 + 1 + 1 = n) = False ∧ (n = n + 1 + 1 + 1 + 1 + 1 + 1 + 1 + 1) = False := by constructor <;> (apply eq_false; omega)
theorem nn9 (n : Nat) : (n + 1 + 1 + 1 + 1 + 1 + 1 + 1 + 1 + 1 = n) = False ∧ (n = n + 1 + 1 + 1 + 1 + 1 + 1 + 1 + 1 + 1) = False := by constructor <;> (apply eq_false; omega)
abbrev DF (n m : Nat) : Prop := n < m ∧ n ≤ m ∧ n ≠ m ∧ m ≠ n ∧ (∀ j, n < m + j) ∧ (∀ j, n ≤ m + j) ∧ (∀ j, n ≠ m + j) ∧ (∀ j, m + j ≠ n)
theorem dz1 {n q m : Nat} (hs : q ≤ m) (h : n + 1 ≤ q := by first | (with_reducible assumption) | omega | (simp; done) | (simp; omega) | (simp only [ddz]; omega) | (simp [ddz]; omega)) : n + 1 ≤ m ∧ DF (n) m := ⟨Nat.le_trans h hs, dl1 (by omega)⟩
theorem dz2 {n q m : Nat} (hs : q ≤ m) (h : n + 1 + 1 ≤ q := by first | (with_reducible assumption) | omega | (simp; done) | (simp; omega) | (simp only [ddz]; omega) | (simp [ddz]; omega)) : n + 1 + 1 ≤ m ∧ DF (n) m ∧ DF (n + 1) m := ⟨Nat.le_trans h hs, dl1 (by omega), dl1 (by omega)⟩
theorem dz3 {n q m : Nat} (hs : q ≤ m) (h : n + 1 + 1 + 1 ≤ q := by first | (with_reducible assumption) | omega | (simp; done) | (simp; omega) | (simp only [ddz]; omega) | (simp [ddz]; omega)) : n + 1 + 1 + 1 ≤ m ∧ DF (n) m ∧ DF (n + 1) m ∧ DF (n + 1 + 1) m := ⟨Nat.le_trans h hs, dl1 (by omega), dl1 (by omega), dl1 (by omega)⟩
theorem dz4 {n q m : Nat} (hs : q ≤ m) (h : n + 1 + 1 + 1 + 1 ≤ q := by first | (with_reducible assumption) | omega | (simp; done) | (simp; omega) | (simp only [ddz]; omega) | (simp [ddz]; omega)) : n + 1 + 1 + 1 + 1 ≤ m ∧ DF (n) m ∧ DF (n + 1) m ∧ DF (n + 1 + 1) m ∧ DF (n + 1 + 1 + 1) m := ⟨Nat.le_trans h hs, dl1 (by omega), dl1 (by omega), dl1 (by omega), dl1 (by omega)⟩
theorem dz5 {n q m : Nat} (hs : q ≤ m) (h : n + 1 + 1 + 1 + 1 + 1 ≤ q := by first | (with_reducible assumption) | omega | (simp; done) | (simp; omega) | (simp only [ddz]; omega) | (simp [ddz]; omega)) : n + 1 + 1 + 1 + 1 + 1 ≤ m ∧ DF (n) m ∧ DF (n + 1) m ∧ DF (n + 1 + 1) m ∧ DF (n + 1 + 1 + 1) m ∧ DF (n + 1 + 1 + 1 + 1) m := ⟨Nat.le_trans h hs, dl1 (by omega), dl1 (by omega), dl1 (by omega), dl1 (by omega), dl1 (by omega)⟩
theorem dz6 {n q m : Nat} (hs : q ≤ m) (h : n + 1 + 1 + 1 + 1 + 1 + 1 ≤ q := by first | (with_reducible assumption) | omega | (simp; done) | (simp; omega) | (simp only [ddz]; omega) | (simp [ddz]; omega)) : n + 1 + 1 + 1 + 1 + 1 + 1 ≤ m ∧ DF (n) m ∧ DF (n + 1) m ∧ DF (n + 1 + 1) m ∧ DF (n + 1 + 1 + 1) m ∧ DF (n + 1 + 1 + 1 + 1) m ∧ DF (n + 1 + 1 + 1 + 1 + 1) m := ⟨Nat.le_trans h hs, dl1 (by omega), dl1 (by omega), dl1 (by omega), dl1 (by omega), dl1 (by omega), dl1 (by omega)⟩
theorem dz7 {n q m : Nat} (hs : q ≤ m) (h : n + 1 + 1 + 1 + 1 + 1 + 1 + 1 ≤ q := by first | (with_reducible assumption) | omega | (simp; done) | (simp; omega) | (simp only [ddz]; omega) | (simp [ddz]; omega)) : n + 1 + 1 + 1 + 1 + 1 + 1 + 1 ≤ m ∧ DF (n) m ∧ DF (n + 1) m ∧ DF (n + 1 + 1) m ∧ DF (n + 1 + 1 + 1) m ∧ DF (n + 1 + 1 + 1 + 1) m ∧ DF (n + 1 + 1 + 1 + 1 + 1) m ∧ DF (n + 1 + 1 + 1 + 1 + 1 + 1) m := ⟨Nat.le_trans h hs, dl1 (by omega), dl1 (by omega), dl1 (by omega), dl1 (by omega), dl1 (by omega), dl1 (by omega), dl1 (by omega)⟩
theorem dz8 {n q m : Nat} (hs : q ≤ m) (h : n + 1 + 1 + 1 + 1 + 1 + 1 + 1 + 1 ≤ q := by first | (with_reducible assumption) | omega | (simp; done) | (simp; omega) | (simp only [ddz]; omega) | (simp [ddz]; omega)) : n + 1 + 1 + 1 + 1 + 1 + 1 + 1 + 1 ≤ m ∧ DF (n) m ∧ DF (n + 1) m ∧ DF (n + 1 + 1) m ∧ DF (n + 1 + 1 + 1) m ∧ DF (n + 1 + 1 + 1 + 1) m ∧ DF (n + 1 + 1 + 1 + 1 + 1) m ∧ DF (n + 1 + 1 + 1 + 1 + 1 + 1) m ∧ DF (n + 1 + 1 + 1 + 1 + 1 + 1 + 1) m := ⟨Nat.le_trans h hs, dl1 (by omega), dl1 (by omega), dl1 (by omega), dl1 (by omega), dl1 (by omega), dl1 (by omega), dl1 (by omega), dl1 (by omega)⟩
theorem dz9 {n q m : Nat} (hs : q ≤ m) (h : n + 1 + 1 + 1 + 1 + 1 + 1 + 1 + 1 + 1 ≤ q := by first | (with_reducible assumption) | omega | (simp; done) | (simp; omega) | (simp only [ddz]; omega) | (simp [ddz]; omega)) : n + 1 + 1 + 1 + 1 + 1 + 1 + 1 + 1 + 1 ≤ m ∧ DF (n) m ∧ DF (n + 1) m ∧ DF (n + 1 + 1) m ∧ DF (n + 1 + 1 + 1) m ∧ DF (n + 1 + 1 + 1 + 1) m ∧ DF (n + 1 + 1 + 1 + 1 + 1) m ∧ DF (n + 1 + 1 + 1 + 1 + 1 + 1) m ∧ DF (n + 1 + 1 + 1 + 1 + 1 + 1 + 1) m ∧ DF (n + 1 + 1 + 1 + 1 + 1 + 1 + 1 + 1) m := ⟨Nat.le_trans h hs, dl1 (by omega), dl1 (by omega), dl1 (by omega), dl1 (by omega), dl1 (by omega), dl1 (by omega), dl1 (by omega), dl1 (by omega), dl1 (by omega)⟩
end Go.Proofs.Ytpcladboobfkhaa.PFnWork
