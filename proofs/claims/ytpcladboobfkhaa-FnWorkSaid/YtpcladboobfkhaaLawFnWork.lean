/- The row of the law FnWork: at every input the law answers true, and each argument reads behind the call as it read before: out of the pure statement and the walk; no conditions. -/
import Derived.Test.YtpcladboobfkhaaRows
import Derived.Test.YtpcladboobfkhaaPFnWorkx55
import Derived.Test.YtpcladboobfkhaaPureFnWork
import Derived.WalkKit
import Derived.ProofKit
import Derived.OpenShut
import Derived.ShutString
import Derived.ChangeOld
import Derived.Below
import Derived.SizedLaws
import Derived.Deep.Slices
import Derived.Deep.Fields
import Derived.ChangeSame
import Derived.Lib.SmallJoins
namespace Go.Proofs.Ytpcladboobfkhaa.fnWork
open Go.ChangeShapes Go.WideShapes Go.ChangeAt Go.RowKit Go.Proofs.YtpcladboobfkhaaW.PrintWords Go.Proofs.Ytpcladboobfkhaa.PFnWork
open Go.ChangeMaps (open_string shut_string)
set_option linter.unusedVariables false
set_option linter.unusedSimpArgs false
theorem own : ownKnob Try.prog.godebug = none := by kernel_rfl
theorem laidOut : laidOutB Try.prog = true := by kernel_rfl

theorem C_exists {α : Type} (d : Kd α) (w : World) (ad : Addr) : ∀ (n : Nat), n ≤ 9223372036854775807 → (∀ j, j < n → ∃ p cs, d.K w p cs ∧ ∀ i u, cs[i]? = some u → w.cell? (ad.add (j * d.sz + i)) = some u) → ∃ xs : List α, d.C w (some ad) n xs
  | 0, _, _ => ⟨[], rfl, Nat.zero_le _, fun h => absurd h (Nat.lt_irrefl _)⟩
  | n + 1, hn, h => by
    obtain ⟨xs, h1, h2, h3⟩ := C_exists d w ad n (by omega) (fun j hj => h j (by omega))
    obtain ⟨p, cs, hK, hc⟩ := h n (by omega)
    refine ⟨xs ++ [p], by simp [h1], hn, fun _ => ⟨ad, rfl, fun j q hq => ?_⟩⟩
    rcases Nat.lt_or_ge j n with hj | hj
    · obtain ⟨ad', e, hx⟩ := h3 (by omega)
      cases e
      rw [List.getElem?_append_left (by omega)] at hq
      exact hx j q hq
    · have hl := (List.getElem?_eq_some_iff.1 hq).1
      rw [List.length_append, List.length_singleton] at hl
      obtain rfl : j = n := by omega
      have hq' : p = q := by
        rw [List.getElem?_append_right (by omega), h1] at hq
        simpa using hq
      subst hq'
      exact ⟨cs, d.K_len hK, hK, hc⟩
def SL {α : Type} (d : Kd α) (w : World) (v : Value) : Prop := ∃ (A : Option Addr) (c : Nat) (l : List α), v = .slice A l.length c ∧ d.C w A l.length l ∧ l.length ≤ c ∧ l.length ≤ maxLen
section
variable {H : Type} {enc : TypeId × Value → H} {P : Program} {w : World} {spare : Nat → Bool} {held : Bool}
theorem sl_open {α : Type} {d : Kd α} {t e : TypeId} {fuel : Nat} {cs : List Value} {x : DataW H × List MemPlace} (hu : P.underlying t = some (.slice e)) (hC : P.cellsOf e = d.sz)
    (hel : ∀ cs n y, DataW.trod enc P w 0 spare held n e cs = some y → ∃ p : α, d.K w p cs) (h : DataW.trod enc P w 0 spare held fuel t cs = some x) : ∃ v, cs = [v] ∧ SL d w v := by
  rcases Go.Deep.open_slice hu h with ⟨rfl, _⟩ | ⟨a, len, cap, m, n, D, Pl, rfl, hb, hl, hm, hmm, hx, hi⟩
  · exact ⟨_, rfl, none, 0, [], rfl, ⟨rfl, Nat.zero_le _, fun h => absurd h (Nat.lt_irrefl _)⟩, Nat.le_refl _, Nat.zero_le _⟩
  · have hlm : len ≤ m := by rw [hmm]; split <;> omega
    have hlen : len ≤ 9223372036854775807 := by unfold maxLen at hm; omega
    obtain ⟨xs, hxs⟩ := C_exists d w a len hlen (fun j hj => by
      obtain ⟨cs', hc, ht⟩ := hi j (by omega)
      obtain ⟨p, hp⟩ := hel _ _ _ ht
      obtain ⟨_, _, hat⟩ := World.cells?_some hc
      rw [hC] at hat
      refine ⟨p, cs', hp, fun i u hu => ?_⟩
      have hil := (List.getElem?_eq_some_iff.1 hu).1
      rw [d.K_len hp] at hil
      have := hat i hil
      rw [Go.Deep.add_add, hu] at this
      exact this)
    have e : xs.length = len := hxs.1
    subst e
    exact ⟨_, rfl, some a, cap, xs, rfl, hxs, hl, Nat.le_trans hl hm⟩
theorem agg_cells {t : TypeId} {fs : Array Field} {v : Value} {r : Reach} {b0 : Nat} {d : DataW H} {ps : List MemPlace} (hs : P.underlying t = some (.struct fs)) (hv : Value.okWide P w r b0 t v)
    (h : DataW.Trod enc P w 0 spare held t v d ps) : ∃ cs fuel, v = .agg ⟨cs⟩ ∧ DataW.trod enc P w 0 spare held fuel t cs = some (d, ps) := by
  obtain ⟨cs, rfl, _⟩ := okWide_struct hs hv
  obtain ⟨fuel, hf⟩ := h
  obtain ⟨l⟩ := cs
  exact ⟨l, fuel, rfl, hf⟩
theorem slice_cells {t e : TypeId} {v : Value} {r : Reach} {b0 : Nat} {d : DataW H} {ps : List MemPlace} (hs : P.underlying t = some (.slice e)) (hv : Value.okWide P w r b0 t v)
    (h : DataW.Trod enc P w 0 spare held t v d ps) : ∃ fuel, DataW.trod enc P w 0 spare held fuel t [v] = some (d, ps) := by
  obtain ⟨a, l, c, rfl⟩ := okWide_slice hs hv
  obtain ⟨fuel, hf⟩ := h
  exact ⟨fuel, hf⟩
end

theorem open_22 {H : Type} {enc : TypeId × Value → H} {w : World} {spare : Nat → Bool} {held : Bool} {fuel : Nat} {cs : List Value} {x : DataW H × List MemPlace} (h : DataW.trod enc Try.prog w 0 spare held fuel 22 cs = some x) : ∃ v, cs = [v] ∧ SL (Kd.int .u8) w v :=
  sl_open Try.underlying22 (by kernel_rfl) (fun cs n y hy => by obtain ⟨z, rfl, _, _⟩ := DataW.trod_int Try.underlying5 hy; exact ⟨z, rfl⟩) h
set_option maxRecDepth 100000 in
theorem lifted (os : Os) (started : os.Started) (H : Type) (enc : TypeId × Value → H) :
    ReturnsInHanded {} Try.checked os 3 .any (Rows.fnWorkSpec.pre6 enc Try.prog Try.f3 Rows.fnWorkRow.domain false) (Rows.fnWorkSpec.post enc Try.prog Try.f3 false true false false) := by
  refine returnsInHanded_of_change_sized (C := Try.checked) own started (by kernel_rfl) Try.func3
    (ChangeSpec.witness6 (enc := enc) (C := Try.checked) false ⟨#[], #[.slice none 0 0], []⟩ 8 (by kernel_rfl) (by kernel_rfl) (by kernel_rfl) (by kernel_rfl)) ?_
  intro W base args ds gs before hval0 hW hcnd hsz0 _
  have hsz : (DataW.weightsEach Try.prog (Try.f3.params.toList ++ Rows.fnWorkSpec.plain.varTypes Try.prog) (ds ++ gs)).all (· ≤ reachBytes) = true := hsz0
  have hval : ∀ (j : Nat) t v, Try.f3.params[j]? = some t → args[j]? = some v → Value.okWide Try.prog W .any base t v := hval0
  have hW' := hW
  obtain ⟨p, q, hA0, hV, rfl, hfz, hnd⟩ := hW
  have hA : DataW.TrodAll enc Try.prog W 0 (fun _ => true) true Try.f3.params.toList args.toList ds p := hA0
  rw [Try.params3] at hA hval hsz
  obtain ⟨v0, vs0, d0, ds0, p0, q0, hargs, rfl, rfl, h0, r0⟩ := trodAll_cons hA
  obtain ⟨rfl, rfl, rfl⟩ := trodAll_nil r0
  obtain rfl : args = #[v0] := by cases args; simp_all
  obtain ⟨rfl, rfl⟩ := trodVars_none hV
  have k0 := h0
  have lt0 : ∀ x ∈ p0, x.block < W.heap.size := by obtain ⟨m, hm⟩ := k0; exact DataW.trod_lt m _ _ _ hm
  obtain ⟨fu0, hf0⟩ := slice_cells Try.underlying22 (hval 0 22 v0 rfl rfl) h0
  obtain ⟨u0, g0, A0, c0, l0, e0, hr0, hc0, hm0⟩ := open_22 hf0
  simp only [List.cons.injEq, and_true] at g0
  obtain rfl := g0.trans e0
  clear hA0 hval0 hsz0 hsz
  obtain ⟨k, hP⟩ := Pure.FnWork l0 hm0
  refine (laws_FnWork.calls k A0 c0 l0 true W hr0 hc0 hP).mono fun e W' ⟨he, bel0⟩ => ?_
  have bel : Below W.heap.size W W' := bel0
  subst he
  exact ⟨_, rfl, _, _, _, [], _, [], hW', trodAll_mk1 (shut_bool Try.underlying4 _), (trodAll_cons_mk (Below.trod laidOut (by kernel_rfl) (of_decide_eq_true (by kernel_rfl)) k0 bel lt0) trodAll_mk0), rfl, bel.frame _, fun h => by cases h⟩
theorem over : Rows.fnWorkRow.holds Try.pinned (OpenSpec.ofChange Rows.fnWorkSpec) :=
  OpenClaim.holds_of_wide 3 Try.f3 rfl rfl rfl rfl rfl rfl rfl ⟨rfl, rfl, rfl, rfl, rfl⟩ rfl rfl rfl rfl rfl (by kernel_rfl) Try.func3 (by kernel_rfl)
    (of_decide_eq_true (by kernel_rfl)) (by unfold Func.isWrapper; first | (rw [if_pos (by decide +kernel)]; kernel_rfl) | (rw [if_neg (by decide +kernel)]; exact ⟨rfl, rfl⟩))
    (fun os started H enc _ => lifted os started H enc)
theorem proved : Rows.FnWorkSaid := over
#print axioms proved
end Go.Proofs.Ytpcladboobfkhaa.fnWork
namespace Go.Proofs.Ytpcladboobfkhaa
/-- The row, under a short name, for the claim. -/
theorem fnWork_holds : Rows.FnWorkSaid := fnWork.proved
end Go.Proofs.Ytpcladboobfkhaa
