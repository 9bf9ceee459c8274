/- The row of the law FnExactWrite: at every input the law answers true, and each argument reads behind the call as it read before: out of the pure statement and the walk; no conditions. -/
import Derived.Test.YtbpalnplcgmjjaaRows
import Derived.Test.YtbpalnplcgmjjaaPFnExactWritex9
import Derived.Test.YtbpalnplcgmjjaaPureFnExactWrite
import Derived.WalkKit
import Derived.ProofKit
import Derived.OpenShut
import Derived.ShutString
import Derived.ChangeOld
import Derived.Below
import Derived.SizedLaws
import Derived.Deep.Slices
import Derived.Deep.Fields
import Derived.ChangeSame
import Derived.Lib.SmallJoins
namespace Go.Proofs.Ytbpalnplcgmjjaa.fnExactWrite
open Go.ChangeShapes Go.WideShapes Go.ChangeAt Go.RowKit Go.Proofs.YtbpalnplcgmjjaaW.PrintWords Go.Proofs.Ytbpalnplcgmjjaa.PFnExactWrite
open Go.ChangeMaps (open_string shut_string)
set_option linter.unusedVariables false
set_option linter.unusedSimpArgs false
theorem own : ownKnob Try.prog.godebug = none := by kernel_rfl
theorem laidOut : laidOutB Try.prog = true := by kernel_rfl

theorem C_exists {α : Type} (d : Kd α) (w : World) (ad : Addr) : ∀ (n : Nat), n ≤ 9223372036854775807 → (∀ j, j < n → ∃ p cs, d.K w p cs ∧ ∀ i u, cs[i]? = some u → w.cell? (ad.add (j * d.sz + i)) = some u) → ∃ xs : List α, d.C w (some ad) n xs
  | 0, _, _ => ⟨[], rfl, Nat.zero_le _, fun h => absurd h (Nat.lt_irrefl _)⟩
  | n + 1, hn, h => by
    obtain ⟨xs, h1, h2, h3⟩ := C_exists d w ad n (by omega) (fun j hj => h j (by omega))
    obtain ⟨p, cs, hK, hc⟩ := h n (by omega)
    refine ⟨xs ++ [p], by simp [h1], hn, fun _ => ⟨ad, rfl, fun j q hq => ?_⟩⟩
    rcases Nat.lt_or_ge j n with hj | hj
    · obtain ⟨ad', e, hx⟩ := h3 (by omega)
      cases e
      rw [List.getElem?_append_left (by omega)] at hq
      exact hx j q hq
    · have hl := (List.getElem?_eq_some_iff.1 hq).1
      rw [List.length_append, List.length_singleton] at hl
      obtain rfl : j = n := by omega
      have hq' : p = q := by
        rw [List.getElem?_append_right (by omega), h1] at hq
        simpa using hq
      subst hq'
      exact ⟨cs, d.K_len hK, hK, hc⟩
def SL {α : Type} (d : Kd α) (w : World) (v : Value) : Prop := ∃ (A : Option Addr) (c : Nat) (l : List α), v = .slice A l.length c ∧ d.C w A l.length l ∧ l.length ≤ c ∧ l.length ≤ maxLen
section
variable {H : Type} {enc : TypeId × Value → H} {P : Program} {w : World} {spare : Nat → Bool} {held : Bool}
theorem sl_open {α : Type} {d : Kd α} {t e : TypeId} {fuel : Nat} {cs : List Value} {x : DataW H × List MemPlace} (hu : P.underlying t = some (.slice e)) (hC : P.cellsOf e = d.sz)
    (hel : ∀ cs n y, DataW.trod enc P w 0 spare held n e cs = some y → ∃ p : α, d.K w p cs) (h : DataW.trod enc P w 0 spare held fuel t cs = some x) : ∃ v, cs = [v] ∧ SL d w v := by
  rcases Go.Deep.open_slice hu h with ⟨rfl, _⟩ | ⟨a, len, cap, m, n, D, Pl, rfl, hb, hl, hm, hmm, hx, hi⟩
  · exact ⟨_, rfl, none, 0, [], rfl, ⟨rfl, Nat.zero_le _, fun h => absurd h (Nat.lt_irrefl _)⟩, Nat.le_refl _, Nat.zero_le _⟩
  · have hlm : len ≤ m := by rw [hmm]; split <;> omega
    have hlen : len ≤ 9223372036854775807 := by unfold maxLen at hm; omega
    obtain ⟨xs, hxs⟩ := C_exists d w a len hlen (fun j hj => by
      obtain ⟨cs', hc, ht⟩ := hi j (by omega)
      obtain ⟨p, hp⟩ := hel _ _ _ ht
      obtain ⟨_, _, hat⟩ := World.cells?_some hc
      rw [hC] at hat
      refine ⟨p, cs', hp, fun i u hu => ?_⟩
      have hil := (List.getElem?_eq_some_iff.1 hu).1
      rw [d.K_len hp] at hil
      have := hat i hil
      rw [Go.Deep.add_add, hu] at this
      exact this)
    have e : xs.length = len := hxs.1
    subst e
    exact ⟨_, rfl, some a, cap, xs, rfl, hxs, hl, Nat.le_trans hl hm⟩
theorem agg_cells {t : TypeId} {fs : Array Field} {v : Value} {r : Reach} {b0 : Nat} {d : DataW H} {ps : List MemPlace} (hs : P.underlying t = some (.struct fs)) (hv : Value.okWide P w r b0 t v)
    (h : DataW.Trod enc P w 0 spare held t v d ps) : ∃ cs fuel, v = .agg ⟨cs⟩ ∧ DataW.trod enc P w 0 spare held fuel t cs = some (d, ps) := by
  obtain ⟨cs, rfl, _⟩ := okWide_struct hs hv
  obtain ⟨fuel, hf⟩ := h
  obtain ⟨l⟩ := cs
  exact ⟨l, fuel, rfl, hf⟩
theorem slice_cells {t e : TypeId} {v : Value} {r : Reach} {b0 : Nat} {d : DataW H} {ps : List MemPlace} (hs : P.underlying t = some (.slice e)) (hv : Value.okWide P w r b0 t v)
    (h : DataW.Trod enc P w 0 spare held t v d ps) : ∃ fuel, DataW.trod enc P w 0 spare held fuel t [v] = some (d, ps) := by
  obtain ⟨a, l, c, rfl⟩ := okWide_slice hs hv
  obtain ⟨fuel, hf⟩ := h
  exact ⟨fuel, hf⟩
end

theorem open_27 {H : Type} {enc : TypeId × Value → H} {w : World} {spare : Nat → Bool} {held : Bool} {fuel : Nat} {cs : List Value} {x : DataW H × List MemPlace} (h : DataW.trod enc Try.prog w 0 spare held fuel 27 cs = some x) : ∃ (x_0 : Int) (x_1 : Int) (x_2 : Int) (x_3 : Int), cs = [.int .i64 x_0, .int .i64 x_1, .int .i64 x_2, .int .i64 x_3] ∧ (Lit.int .i64 x_0).wf = true ∧ (Lit.int .i64 x_1).wf = true ∧ (Lit.int .i64 x_2).wf = true ∧ (Lit.int .i64 x_3).wf = true := by
  obtain ⟨xs, n, _, _, hl, hx, hf⟩ := DataW.trod_struct Try.underlying27 h
  have hl : cs.length = 4 := hl.trans (by kernel_rfl)
  match cs, hl with
  | [c0, c1, c2, c3], _ =>
    have h0 : DataW.trod enc Try.prog w 0 spare held n 3 ((List.drop 0 [c0, c1, c2, c3]).take (Try.prog.cellsOf 3)) = xs[0]? := hf 0 _ rfl
    obtain ⟨y0, e0⟩ : ∃ y, xs[0]? = some y := ⟨_, List.getElem?_eq_getElem (by rw [hx]; decide)⟩
    rw [e0, show Try.prog.cellsOf 3 = 1 from by kernel_rfl] at h0
    have h0 : DataW.trod enc Try.prog w 0 spare held n 3 [c0] = some y0 := h0
    obtain ⟨x_0, g0, _, f0⟩ := DataW.trod_int Try.underlying3 h0
    have h1 : DataW.trod enc Try.prog w 0 spare held n 3 ((List.drop 1 [c0, c1, c2, c3]).take (Try.prog.cellsOf 3)) = xs[1]? := hf 1 _ rfl
    obtain ⟨y1, e1⟩ : ∃ y, xs[1]? = some y := ⟨_, List.getElem?_eq_getElem (by rw [hx]; decide)⟩
    rw [e1, show Try.prog.cellsOf 3 = 1 from by kernel_rfl] at h1
    have h1 : DataW.trod enc Try.prog w 0 spare held n 3 [c1] = some y1 := h1
    obtain ⟨x_1, g1, _, f1⟩ := DataW.trod_int Try.underlying3 h1
    have h2 : DataW.trod enc Try.prog w 0 spare held n 3 ((List.drop 2 [c0, c1, c2, c3]).take (Try.prog.cellsOf 3)) = xs[2]? := hf 2 _ rfl
    obtain ⟨y2, e2⟩ : ∃ y, xs[2]? = some y := ⟨_, List.getElem?_eq_getElem (by rw [hx]; decide)⟩
    rw [e2, show Try.prog.cellsOf 3 = 1 from by kernel_rfl] at h2
    have h2 : DataW.trod enc Try.prog w 0 spare held n 3 [c2] = some y2 := h2
    obtain ⟨x_2, g2, _, f2⟩ := DataW.trod_int Try.underlying3 h2
    have h3 : DataW.trod enc Try.prog w 0 spare held n 3 ((List.drop 3 [c0, c1, c2, c3]).take (Try.prog.cellsOf 3)) = xs[3]? := hf 3 _ rfl
    obtain ⟨y3, e3⟩ : ∃ y, xs[3]? = some y := ⟨_, List.getElem?_eq_getElem (by rw [hx]; decide)⟩
    rw [e3, show Try.prog.cellsOf 3 = 1 from by kernel_rfl] at h3
    have h3 : DataW.trod enc Try.prog w 0 spare held n 3 [c3] = some y3 := h3
    obtain ⟨x_3, g3, _, f3⟩ := DataW.trod_int Try.underlying3 h3
    simp only [List.cons.injEq, and_true] at g0
    simp only [List.cons.injEq, and_true] at g1
    simp only [List.cons.injEq, and_true] at g2
    simp only [List.cons.injEq, and_true] at g3
    obtain rfl := g0
    obtain rfl := g1
    obtain rfl := g2
    obtain rfl := g3
    exact ⟨x_0, x_1, x_2, x_3, rfl, f0, f1, f2, f3⟩
theorem open_29 {H : Type} {enc : TypeId × Value → H} {w : World} {spare : Nat → Bool} {held : Bool} {fuel : Nat} {cs : List Value} {x : DataW H × List MemPlace} (h : DataW.trod enc Try.prog w 0 spare held fuel 29 cs = some x) : ∃ (x_0 : Int) (x_1 : Bool) (x_2_0 : Int) (x_2_1 : Int) (x_2_2 : Int) (x_2_3 : Int), cs = [.int .i64 x_0, .bool x_1, .int .i64 x_2_0, .int .i64 x_2_1, .int .i64 x_2_2, .int .i64 x_2_3] ∧ (Lit.int .i64 x_0).wf = true ∧ (Lit.int .i64 x_2_0).wf = true ∧ (Lit.int .i64 x_2_1).wf = true ∧ (Lit.int .i64 x_2_2).wf = true ∧ (Lit.int .i64 x_2_3).wf = true := by
  obtain ⟨xs, n, _, _, hl, hx, hf⟩ := DataW.trod_struct Try.underlying29 h
  have hl : cs.length = 6 := hl.trans (by kernel_rfl)
  match cs, hl with
  | [c0, c1, c2, c3, c4, c5], _ =>
    have h0 : DataW.trod enc Try.prog w 0 spare held n 3 ((List.drop 0 [c0, c1, c2, c3, c4, c5]).take (Try.prog.cellsOf 3)) = xs[0]? := hf 0 _ rfl
    obtain ⟨y0, e0⟩ : ∃ y, xs[0]? = some y := ⟨_, List.getElem?_eq_getElem (by rw [hx]; decide)⟩
    rw [e0, show Try.prog.cellsOf 3 = 1 from by kernel_rfl] at h0
    have h0 : DataW.trod enc Try.prog w 0 spare held n 3 [c0] = some y0 := h0
    obtain ⟨x_0, g0, _, f0⟩ := DataW.trod_int Try.underlying3 h0
    have h1 : DataW.trod enc Try.prog w 0 spare held n 4 ((List.drop 1 [c0, c1, c2, c3, c4, c5]).take (Try.prog.cellsOf 4)) = xs[1]? := hf 1 _ rfl
    obtain ⟨y1, e1⟩ : ∃ y, xs[1]? = some y := ⟨_, List.getElem?_eq_getElem (by rw [hx]; decide)⟩
    rw [e1, show Try.prog.cellsOf 4 = 1 from by kernel_rfl] at h1
    have h1 : DataW.trod enc Try.prog w 0 spare held n 4 [c1] = some y1 := h1
    obtain ⟨x_1, g1, _⟩ := DataW.trod_bool Try.underlying4 h1
    have h2 : DataW.trod enc Try.prog w 0 spare held n 27 ((List.drop 2 [c0, c1, c2, c3, c4, c5]).take (Try.prog.cellsOf 27)) = xs[2]? := hf 2 _ rfl
    obtain ⟨y2, e2⟩ : ∃ y, xs[2]? = some y := ⟨_, List.getElem?_eq_getElem (by rw [hx]; decide)⟩
    rw [e2, show Try.prog.cellsOf 27 = 4 from by kernel_rfl] at h2
    have h2 : DataW.trod enc Try.prog w 0 spare held n 27 [c2, c3, c4, c5] = some y2 := h2
    obtain ⟨x_2_0, x_2_1, x_2_2, x_2_3, g2, f2_0, f2_1, f2_2, f2_3⟩ := open_27 h2
    simp only [List.cons.injEq, and_true] at g0
    simp only [List.cons.injEq, and_true] at g1
    simp only [List.cons.injEq, and_true] at g2
    obtain rfl := g0
    obtain rfl := g1
    obtain ⟨rfl, rfl, rfl, rfl⟩ := g2
    exact ⟨x_0, x_1, x_2_0, x_2_1, x_2_2, x_2_3, rfl, f0, f2_0, f2_1, f2_2, f2_3⟩
theorem open_22 {H : Type} {enc : TypeId × Value → H} {w : World} {spare : Nat → Bool} {held : Bool} {fuel : Nat} {cs : List Value} {x : DataW H × List MemPlace} (h : DataW.trod enc Try.prog w 0 spare held fuel 22 cs = some x) : ∃ v, cs = [v] ∧ SL k29 w v :=
  sl_open Try.underlying22 (by kernel_rfl) (fun cs n y hy => by obtain ⟨x_0, x_1, x_2_0, x_2_1, x_2_2, x_2_3, rfl, _, _, _, _, _⟩ := open_29 hy; exact ⟨(⟨x_0, x_1, (⟨x_2_0, x_2_1, x_2_2, x_2_3⟩ : S27)⟩ : S29), k29_mk w (⟨x_0, x_1, (⟨x_2_0, x_2_1, x_2_2, x_2_3⟩ : S27)⟩ : S29)⟩) h
theorem open_23 {H : Type} {enc : TypeId × Value → H} {w : World} {spare : Nat → Bool} {held : Bool} {fuel : Nat} {cs : List Value} {x : DataW H × List MemPlace} (h : DataW.trod enc Try.prog w 0 spare held fuel 23 cs = some x) : ∃ v, cs = [v] ∧ SL Kd.bool w v :=
  sl_open Try.underlying23 (by kernel_rfl) (fun cs n y hy => by obtain ⟨z, rfl, _⟩ := DataW.trod_bool Try.underlying4 hy; exact ⟨z, rfl⟩) h
theorem open_25 {H : Type} {enc : TypeId × Value → H} {w : World} {spare : Nat → Bool} {held : Bool} {fuel : Nat} {cs : List Value} {x : DataW H × List MemPlace} (h : DataW.trod enc Try.prog w 0 spare held fuel 25 cs = some x) : ∃ (x_0 : Value) (x_1 : Value), cs = [x_0, x_1] ∧ SL k29 w x_0 ∧ SL Kd.bool w x_1 := by
  obtain ⟨xs, n, _, _, hl, hx, hf⟩ := DataW.trod_struct Try.underlying25 h
  have hl : cs.length = 2 := hl.trans (by kernel_rfl)
  match cs, hl with
  | [c0, c1], _ =>
    have h0 : DataW.trod enc Try.prog w 0 spare held n 22 ((List.drop 0 [c0, c1]).take (Try.prog.cellsOf 22)) = xs[0]? := hf 0 _ rfl
    obtain ⟨y0, e0⟩ : ∃ y, xs[0]? = some y := ⟨_, List.getElem?_eq_getElem (by rw [hx]; decide)⟩
    rw [e0, show Try.prog.cellsOf 22 = 1 from by kernel_rfl] at h0
    have h0 : DataW.trod enc Try.prog w 0 spare held n 22 [c0] = some y0 := h0
    obtain ⟨x_0, g0, f0⟩ := open_22 h0
    have h1 : DataW.trod enc Try.prog w 0 spare held n 23 ((List.drop 1 [c0, c1]).take (Try.prog.cellsOf 23)) = xs[1]? := hf 1 _ rfl
    obtain ⟨y1, e1⟩ : ∃ y, xs[1]? = some y := ⟨_, List.getElem?_eq_getElem (by rw [hx]; decide)⟩
    rw [e1, show Try.prog.cellsOf 23 = 1 from by kernel_rfl] at h1
    have h1 : DataW.trod enc Try.prog w 0 spare held n 23 [c1] = some y1 := h1
    obtain ⟨x_1, g1, f1⟩ := open_23 h1
    simp only [List.cons.injEq, and_true] at g0
    simp only [List.cons.injEq, and_true] at g1
    obtain rfl := g0
    obtain rfl := g1
    exact ⟨_, _, rfl, f0, f1⟩
set_option maxRecDepth 100000 in
theorem lifted (os : Os) (started : os.Started) (H : Type) (enc : TypeId × Value → H) :
    ReturnsInHanded {} Try.checked os 3 .any (Rows.fnExactWriteSpec.pre6 enc Try.prog Try.f3 Rows.fnExactWriteRow.domain false) (Rows.fnExactWriteSpec.post enc Try.prog Try.f3 false true false false) := by
  refine returnsInHanded_of_change_sized (C := Try.checked) own started (by kernel_rfl) Try.func3
    (ChangeSpec.witness6 (enc := enc) (C := Try.checked) false ⟨#[], #[.agg #[.slice none 0 0, .slice none 0 0], .agg #[.int .i64 0, .bool false, .int .i64 0, .int .i64 0, .int .i64 0, .int .i64 0], .int .i64 0, .agg #[.int .i64 0, .bool false, .int .i64 0, .int .i64 0, .int .i64 0, .int .i64 0]], []⟩ 8 (by kernel_rfl) (by kernel_rfl) (by kernel_rfl) (by kernel_rfl)) ?_
  intro W base args ds gs before hval0 hW hcnd hsz0 _
  have hsz : (DataW.weightsEach Try.prog (Try.f3.params.toList ++ Rows.fnExactWriteSpec.plain.varTypes Try.prog) (ds ++ gs)).all (· ≤ reachBytes) = true := hsz0
  have hval : ∀ (j : Nat) t v, Try.f3.params[j]? = some t → args[j]? = some v → Value.okWide Try.prog W .any base t v := hval0
  have hW' := hW
  obtain ⟨p, q, hA0, hV, rfl, hfz, hnd⟩ := hW
  have hA : DataW.TrodAll enc Try.prog W 0 (fun _ => true) true Try.f3.params.toList args.toList ds p := hA0
  rw [Try.params3] at hA hval hsz
  obtain ⟨v0, vs0, d0, ds0, p0, q0, hargs, rfl, rfl, h0, r0⟩ := trodAll_cons hA
  obtain ⟨v1, vs1, d1, ds1, p1, q1, rfl, rfl, rfl, h1, r1⟩ := trodAll_cons r0
  obtain ⟨v2, vs2, d2, ds2, p2, q2, rfl, rfl, rfl, h2, r2⟩ := trodAll_cons r1
  obtain ⟨v3, vs3, d3, ds3, p3, q3, rfl, rfl, rfl, h3, r3⟩ := trodAll_cons r2
  obtain ⟨rfl, rfl, rfl⟩ := trodAll_nil r3
  obtain rfl : args = #[v0, v1, v2, v3] := by cases args; simp_all
  obtain ⟨rfl, rfl⟩ := trodVars_none hV
  have k0 := h0
  have lt0 : ∀ x ∈ p0, x.block < W.heap.size := by obtain ⟨m, hm⟩ := k0; exact DataW.trod_lt m _ _ _ hm
  obtain ⟨cs0, fu0, rfl, hf0⟩ := agg_cells Try.underlying25 (hval 0 25 v0 rfl rfl) h0
  obtain ⟨u0_0, u0_1, rfl, ⟨A0_0, c0_0, l0_0, rfl, hr0_0, hc0_0, hm0_0⟩, ⟨A0_1, c0_1, l0_1, rfl, hr0_1, hc0_1, hm0_1⟩⟩ := open_25 hf0
  have k1 := h1
  have lt1 : ∀ x ∈ p1, x.block < W.heap.size := by obtain ⟨m, hm⟩ := k1; exact DataW.trod_lt m _ _ _ hm
  obtain ⟨cs1, fu1, rfl, hf1⟩ := agg_cells Try.underlying29 (hval 1 29 v1 rfl rfl) h1
  obtain ⟨a1_0, a1_1, a1_2, a1_3, a1_4, a1_5, rfl, w1_0, w1_2, w1_3, w1_4, w1_5⟩ := open_29 hf1
  obtain ⟨a2, rfl, rfl, rfl, w2⟩ := open_int Try.underlying3 (hval 2 3 v2 rfl rfl) h2
  have k3 := h3
  have lt3 : ∀ x ∈ p3, x.block < W.heap.size := by obtain ⟨m, hm⟩ := k3; exact DataW.trod_lt m _ _ _ hm
  obtain ⟨cs3, fu3, rfl, hf3⟩ := agg_cells Try.underlying29 (hval 3 29 v3 rfl rfl) h3
  obtain ⟨a3_0, a3_1, a3_2, a3_3, a3_4, a3_5, rfl, w3_0, w3_2, w3_3, w3_4, w3_5⟩ := open_29 hf3
  clear hA0 hval0 hsz0 hsz
  obtain ⟨k, hP⟩ := Pure.FnExactWrite l0_0 l0_1 a1_0 a1_1 a1_2 a1_3 a1_4 a1_5 a2 a3_0 a3_1 a3_2 a3_3 a3_4 a3_5 hm0_0 hm0_1 w1_0 w1_2 w1_3 w1_4 w1_5 w2 w3_0 w3_2 w3_3 w3_4 w3_5
  refine (laws_FnExactWrite.calls k A0_0 c0_0 l0_0 A0_1 c0_1 l0_1 a1_0 a1_1 a1_2 a1_3 a1_4 a1_5 a2 a3_0 a3_1 a3_2 a3_3 a3_4 a3_5 true W hr0_0 hc0_0 hr0_1 hc0_1 hP).mono fun e W' ⟨he, bel0⟩ => ?_
  have bel : Below W.heap.size W W' := bel0
  subst he
  exact ⟨_, rfl, _, _, _, [], _, [], hW', trodAll_mk1 (shut_bool Try.underlying4 _), (trodAll_cons_mk (Below.trod laidOut (by kernel_rfl) (of_decide_eq_true (by kernel_rfl)) k0 bel lt0) (trodAll_cons_mk (Below.trod laidOut (by kernel_rfl) (of_decide_eq_true (by kernel_rfl)) k1 bel lt1) (trodAll_cons_mk (shut_int Try.underlying3 w2) (trodAll_cons_mk (Below.trod laidOut (by kernel_rfl) (of_decide_eq_true (by kernel_rfl)) k3 bel lt3) trodAll_mk0)))), rfl, bel.frame _, fun h => by cases h⟩
theorem over : Rows.fnExactWriteRow.holds Try.pinned (OpenSpec.ofChange Rows.fnExactWriteSpec) :=
  OpenClaim.holds_of_wide 3 Try.f3 rfl rfl rfl rfl rfl rfl rfl ⟨rfl, rfl, rfl, rfl, rfl⟩ rfl rfl rfl rfl rfl (by kernel_rfl) Try.func3 (by kernel_rfl)
    (of_decide_eq_true (by kernel_rfl)) (by unfold Func.isWrapper; first | (rw [if_pos (by decide +kernel)]; kernel_rfl) | (rw [if_neg (by decide +kernel)]; exact ⟨rfl, rfl⟩))
    (fun os started H enc _ => lifted os started H enc)
theorem proved : Rows.FnExactWriteSaid := over
#print axioms proved
end Go.Proofs.Ytbpalnplcgmjjaa.fnExactWrite
namespace Go.Proofs.Ytbpalnplcgmjjaa
/-- The row, under a short name, for the claim. -/
theorem fnExactWrite_holds : Rows.FnExactWriteSaid := fnExactWrite.proved
end Go.Proofs.Ytbpalnplcgmjjaa
