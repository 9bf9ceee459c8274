-- Written by a program of this session (wip/patch.py turns a copy of the kit's print): the functions that the law reaches, and their walks.
import Derived.Test.YtlmcikjjeidnfaaGreatDoorPFnTextsx0
import Derived.Test.YtlmcikjjeidnfaaGreatDoorPFnTextsx1
import Derived.Test.YtlmcikjjeidnfaaGreatDoorPFnTextsx2
import Derived.Test.YtlmcikjjeidnfaaGreatDoorPFnTextsx3
import Derived.Test.YtlmcikjjeidnfaaGreatDoorPFnTextsx4
import Derived.Test.YtlmcikjjeidnfaaGreatDoorPFnTextsx5
import Derived.Test.YtlmcikjjeidnfaaGreatDoorPFnTextsx7
import Derived.Test.YtlmcikjjeidnfaaGreatDoorPFnTextsx8
import Derived.Test.YtlmcikjjeidnfaaGreatDoorPFnTextsx10
import Derived.Test.YtlmcikjjeidnfaaGreatDoorPFnTextsx11
import Derived.Test.YtlmcikjjeidnfaaGreatDoorPFnTextsx12
import Derived.Test.YtlmcikjjeidnfaaGreatDoorPFnTextsx13
import Derived.Test.YtlmcikjjeidnfaaGreatDoorCFnTexts
namespace Go.Proofs.YtlmcikjjeidnfaaGreatDoor.PFnTexts
open Go.RowKit Go.Proofs.YtlmcikjjeidnfaaGreatDoorW.PrintWords Go.Proofs.YtlmcikjjeidnfaaGreatDoorW.PrintLast Go.Proofs.YtlmcikjjeidnfaaGreatDoorW.PrintMore Go.Proofs.YtlmcikjjeidnfaaGreatDoorW.Mine
attribute [local go_sem] max2_int min2_int max_two min_two max_three min_three max_four min_four   -- for this text's walks alone
set_option linter.unusedVariables false
set_option linter.unusedSimpArgs false

attribute [local go_sem high] eqA25
/-! ### laws_FnTexts: function 3 -/
mutual
def laws_FnTexts.j0 : Nat → List Int → ByteArray → Bool → Int → Int → Int → Int → Int → Option (Bool)
 | 0, _, _, _, _, _, _, _, _ => none
 | k + 1, x0, x4, gH, gI, gJ, gK, gL, gM => if gH = true then (some false) else (if x4.toList = ([] : List UInt8) then (laws_FnTexts.j1 k x0) else ((impl_InsRead.f k x4).bind fun bN => (if bN.2.2.2.2.2 = true then (if (!(bN.1 == gI) || (!(bN.2.1 == gJ) || (!(bN.2.2.1 == gK) || (!(bN.2.2.2.1 == gL) || (!(bN.2.2.2.2.1 == gM)))))) = true then (some false) else (laws_FnTexts.j1 k x0)) else (some false))))
def laws_FnTexts.j1 : Nat → List Int → Option (Bool)
 | 0, _ => none
 | k + 1, x0 => (spec_DrawInsRead.f k x0).bind fun bz => ((impl_InsRead.f k bz).bind fun bK => ((spec_InsRead.f k bz).bind fun da => (if (bK.2.2.2.2.2 != da.2.2.2.2.2) = true then (laws_FnTexts.j2 k x0 true) else (if bK.2.2.2.2.2 = true then ((impl_InsText.f k bK.1 bK.2.1 bK.2.2.1 bK.2.2.2.1 bK.2.2.2.2.1).bind fun bO => (laws_FnTexts.j2 k x0 (bO.toList != bz.toList))) else (laws_FnTexts.j2 k x0 false)))))
def laws_FnTexts.j2 : Nat → List Int → Bool → Option (Bool)
 | 0, _, _ => none
 | k + 1, x0, gN => if gN = true then (some false) else ((spec_DrawCodeText.f k x0).bind fun bn => ((impl_CodeText.f k bn).bind fun bg => ((spec_CodeText.f k bn).bind fun bJ => (if bg.toList = bJ.toList then ((impl_CodeOk.f k bn).bind fun bP => (laws_FnTexts.j3 k x0 bn bg ((bg.toList != ([] : List UInt8)) != bP))) else (laws_FnTexts.j3 k x0 bn bg true)))))
def laws_FnTexts.j3 : Nat → List Int → List (S25) → ByteArray → Bool → Option (Bool)
 | 0, _, _, _, _ => none
 | k + 1, x0, gO, gw, gP => if gP = true then (some false) else (if gw.toList = ([] : List UInt8) then (laws_FnTexts.j4 k x0) else ((impl_CodeRead.f k gw).bind fun db => (if db.2 = true then ((laws_sameIns.f k db.1 gO).bind fun bT => (if bT = true then (laws_FnTexts.j4 k x0) else (some false))) else (some false))))
def laws_FnTexts.j4 : Nat → List Int → Option (Bool)
 | 0, _ => none
 | k + 1, x0 => (spec_DrawCodeRead.f k x0).bind fun bo => ((impl_CodeRead.f k bo).bind fun bV => ((spec_CodeRead.f k bo).bind fun dc => (if (bV.2 == dc.2) = true then (if bV.2 = true then ((impl_CodeText.f k bV.1).bind fun bS => (some (bS.toList == bo.toList))) else (if (bV.1.length : Int) = 0 then (some true) else (some false))) else (some false))))
end
def laws_FnTexts.f (k : Nat) (l0 : List Int) : Option (Bool) := (laws_big.f l0).bind fun b8 => (if b8 = true then (some true) else ((spec_DrawInsText.f k l0).bind fun bb => ((impl_InsText.f k bb.1 bb.2.1 bb.2.2.1 bb.2.2.2.1 bb.2.2.2.2).bind fun bf => ((spec_InsText.f k bb.1 bb.2.1 bb.2.2.1 bb.2.2.2.1 bb.2.2.2.2).bind fun bv => (if bf.toList = bv.toList then ((impl_InsOk.f k bb.1 bb.2.1 bb.2.2.1 bb.2.2.2.1 bb.2.2.2.2).bind fun bA => (laws_FnTexts.j0 k l0 bf ((bf.toList != ([] : List UInt8)) != bA) bb.1 bb.2.1 bb.2.2.1 bb.2.2.2.1 bb.2.2.2.2)) else (laws_FnTexts.j0 k l0 bf true bb.1 bb.2.1 bb.2.2.1 bb.2.2.2.1 bb.2.2.2.2))))))
theorem laws_FnTexts.mono_l : ∀ k, (∀ y0 y1 y2 y3 y4 y5 y6 y7, LeO (laws_FnTexts.j0 k y0 y1 y2 y3 y4 y5 y6 y7) (laws_FnTexts.j0 (k + 1) y0 y1 y2 y3 y4 y5 y6 y7)) ∧ (∀ y0, LeO (laws_FnTexts.j1 k y0) (laws_FnTexts.j1 (k + 1) y0)) ∧ (∀ y0 y1, LeO (laws_FnTexts.j2 k y0 y1) (laws_FnTexts.j2 (k + 1) y0 y1)) ∧ (∀ y0 y1 y2 y3, LeO (laws_FnTexts.j3 k y0 y1 y2 y3) (laws_FnTexts.j3 (k + 1) y0 y1 y2 y3)) ∧ (∀ y0, LeO (laws_FnTexts.j4 k y0) (laws_FnTexts.j4 (k + 1) y0))
 | 0 => ⟨fun _ _ _ _ _ _ _ _ r h => by simp [laws_FnTexts.j0] at h, fun _ r h => by simp [laws_FnTexts.j1] at h, fun _ _ r h => by simp [laws_FnTexts.j2] at h, fun _ _ _ _ r h => by simp [laws_FnTexts.j3] at h, fun _ r h => by simp [laws_FnTexts.j4] at h⟩
 | k + 1 => by
  obtain ⟨ih0, ih1, ih2, ih3, ih4⟩ := laws_FnTexts.mono_l k; refine ⟨?_, ?_, ?_, ?_, ?_⟩
  ·intro y0 y1 y2 y3 y4 y5 y6 y7
   unfold laws_FnTexts.j0
   repeat' first
   | (with_reducible exact ih0 _ _ _ _ _ _ _ _)
   | (with_reducible exact ih1 _)
   | (with_reducible exact ih2 _ _)
   | (with_reducible exact ih3 _ _ _ _)
   | (with_reducible exact ih4 _)
   | (with_reducible exact impl_CodeOk.mono _ _)
   | (with_reducible exact impl_CodeRead.mono _ _)
   | (with_reducible exact impl_CodeText.mono _ _)
   | (with_reducible exact impl_InsOk.mono _ _ _ _ _ _)
   | (with_reducible exact impl_InsRead.mono _ _)
   | (with_reducible exact impl_InsText.mono _ _ _ _ _ _)
   | (with_reducible exact laws_sameIns.mono _ _ _)
   | (with_reducible exact spec_CodeRead.mono _ _)
   | (with_reducible exact spec_CodeText.mono _ _)
   | (with_reducible exact spec_DrawCodeRead.mono _ _)
   | (with_reducible exact spec_DrawCodeText.mono _ _)
   | (with_reducible exact spec_DrawInsRead.mono _ _)
   | (with_reducible exact spec_DrawInsText.mono _ _)
   | (with_reducible exact spec_InsRead.mono _ _)
   | (with_reducible exact spec_InsText.mono _ _ _ _ _ _)
   | (with_reducible exact LeO.refl _)
   | (with_reducible exact LeO.none _)
   | (with_reducible refine LeO.ite ?_ ?_)
   | (with_reducible refine LeO.bind ?_ (fun _ => ?_))
   | exact ih0 _ _ _ _ _ _ _ _
   | exact ih1 _
   | exact ih2 _ _
   | exact ih3 _ _ _ _
   | exact ih4 _
   | exact impl_CodeOk.mono _ _
   | exact impl_CodeRead.mono _ _
   | exact impl_CodeText.mono _ _
   | exact impl_InsOk.mono _ _ _ _ _ _
   | exact impl_InsRead.mono _ _
   | exact impl_InsText.mono _ _ _ _ _ _
   | exact laws_sameIns.mono _ _ _
   | exact spec_CodeRead.mono _ _
   | exact spec_CodeText.mono _ _
   | exact spec_DrawCodeRead.mono _ _
   | exact spec_DrawCodeText.mono _ _
   | exact spec_DrawInsRead.mono _ _
   | exact spec_DrawInsText.mono _ _
   | exact spec_InsRead.mono _ _
   | exact spec_InsText.mono _ _ _ _ _ _
   | exact LeO.none _
   | refine LeO.ite ?_ ?_
   | refine LeO.bind ?_ (fun _ => ?_)
  ·intro y0
   unfold laws_FnTexts.j1
   repeat' first
   | (with_reducible exact ih0 _ _ _ _ _ _ _ _)
   | (with_reducible exact ih1 _)
   | (with_reducible exact ih2 _ _)
   | (with_reducible exact ih3 _ _ _ _)
   | (with_reducible exact ih4 _)
   | (with_reducible exact impl_CodeOk.mono _ _)
   | (with_reducible exact impl_CodeRead.mono _ _)
   | (with_reducible exact impl_CodeText.mono _ _)
   | (with_reducible exact impl_InsOk.mono _ _ _ _ _ _)
   | (with_reducible exact impl_InsRead.mono _ _)
   | (with_reducible exact impl_InsText.mono _ _ _ _ _ _)
   | (with_reducible exact laws_sameIns.mono _ _ _)
   | (with_reducible exact spec_CodeRead.mono _ _)
   | (with_reducible exact spec_CodeText.mono _ _)
   | (with_reducible exact spec_DrawCodeRead.mono _ _)
   | (with_reducible exact spec_DrawCodeText.mono _ _)
   | (with_reducible exact spec_DrawInsRead.mono _ _)
   | (with_reducible exact spec_DrawInsText.mono _ _)
   | (with_reducible exact spec_InsRead.mono _ _)
   | (with_reducible exact spec_InsText.mono _ _ _ _ _ _)
   | (with_reducible exact LeO.refl _)
   | (with_reducible exact LeO.none _)
   | (with_reducible refine LeO.ite ?_ ?_)
   | (with_reducible refine LeO.bind ?_ (fun _ => ?_))
   | exact ih0 _ _ _ _ _ _ _ _
   | exact ih1 _
   | exact ih2 _ _
   | exact ih3 _ _ _ _
   | exact ih4 _
   | exact impl_CodeOk.mono _ _
   | exact impl_CodeRead.mono _ _
   | exact impl_CodeText.mono _ _
   | exact impl_InsOk.mono _ _ _ _ _ _
   | exact impl_InsRead.mono _ _
   | exact impl_InsText.mono _ _ _ _ _ _
   | exact laws_sameIns.mono _ _ _
   | exact spec_CodeRead.mono _ _
   | exact spec_CodeText.mono _ _
   | exact spec_DrawCodeRead.mono _ _
   | exact spec_DrawCodeText.mono _ _
   | exact spec_DrawInsRead.mono _ _
   | exact spec_DrawInsText.mono _ _
   | exact spec_InsRead.mono _ _
   | exact spec_InsText.mono _ _ _ _ _ _
   | exact LeO.none _
   | refine LeO.ite ?_ ?_
   | refine LeO.bind ?_ (fun _ => ?_)
  ·intro y0 y1
   unfold laws_FnTexts.j2
   repeat' first
   | (with_reducible exact ih0 _ _ _ _ _ _ _ _)
   | (with_reducible exact ih1 _)
   | (with_reducible exact ih2 _ _)
   | (with_reducible exact ih3 _ _ _ _)
   | (with_reducible exact ih4 _)
   | (with_reducible exact impl_CodeOk.mono _ _)
   | (with_reducible exact impl_CodeRead.mono _ _)
   | (with_reducible exact impl_CodeText.mono _ _)
   | (with_reducible exact impl_InsOk.mono _ _ _ _ _ _)
   | (with_reducible exact impl_InsRead.mono _ _)
   | (with_reducible exact impl_InsText.mono _ _ _ _ _ _)
   | (with_reducible exact laws_sameIns.mono _ _ _)
   | (with_reducible exact spec_CodeRead.mono _ _)
   | (with_reducible exact spec_CodeText.mono _ _)
   | (with_reducible exact spec_DrawCodeRead.mono _ _)
   | (with_reducible exact spec_DrawCodeText.mono _ _)
   | (with_reducible exact spec_DrawInsRead.mono _ _)
   | (with_reducible exact spec_DrawInsText.mono _ _)
   | (with_reducible exact spec_InsRead.mono _ _)
   | (with_reducible exact spec_InsText.mono _ _ _ _ _ _)
   | (with_reducible exact LeO.refl _)
   | (with_reducible exact LeO.none _)
   | (with_reducible refine LeO.ite ?_ ?_)
   | (with_reducible refine LeO.bind ?_ (fun _ => ?_))
   | exact ih0 _ _ _ _ _ _ _ _
   | exact ih1 _
   | exact ih2 _ _
   | exact ih3 _ _ _ _
   | exact ih4 _
   | exact impl_CodeOk.mono _ _
   | exact impl_CodeRead.mono _ _
   | exact impl_CodeText.mono _ _
   | exact impl_InsOk.mono _ _ _ _ _ _
   | exact impl_InsRead.mono _ _
   | exact impl_InsText.mono _ _ _ _ _ _
   | exact laws_sameIns.mono _ _ _
   | exact spec_CodeRead.mono _ _
   | exact spec_CodeText.mono _ _
   | exact spec_DrawCodeRead.mono _ _
   | exact spec_DrawCodeText.mono _ _
   | exact spec_DrawInsRead.mono _ _
   | exact spec_DrawInsText.mono _ _
   | exact spec_InsRead.mono _ _
   | exact spec_InsText.mono _ _ _ _ _ _
   | exact LeO.none _
   | refine LeO.ite ?_ ?_
   | refine LeO.bind ?_ (fun _ => ?_)
  ·intro y0 y1 y2 y3
   unfold laws_FnTexts.j3
   repeat' first
   | (with_reducible exact ih0 _ _ _ _ _ _ _ _)
   | (with_reducible exact ih1 _)
   | (with_reducible exact ih2 _ _)
   | (with_reducible exact ih3 _ _ _ _)
   | (with_reducible exact ih4 _)
   | (with_reducible exact impl_CodeOk.mono _ _)
   | (with_reducible exact impl_CodeRead.mono _ _)
   | (with_reducible exact impl_CodeText.mono _ _)
   | (with_reducible exact impl_InsOk.mono _ _ _ _ _ _)
   | (with_reducible exact impl_InsRead.mono _ _)
   | (with_reducible exact impl_InsText.mono _ _ _ _ _ _)
   | (with_reducible exact laws_sameIns.mono _ _ _)
   | (with_reducible exact spec_CodeRead.mono _ _)
   | (with_reducible exact spec_CodeText.mono _ _)
   | (with_reducible exact spec_DrawCodeRead.mono _ _)
   | (with_reducible exact spec_DrawCodeText.mono _ _)
   | (with_reducible exact spec_DrawInsRead.mono _ _)
   | (with_reducible exact spec_DrawInsText.mono _ _)
   | (with_reducible exact spec_InsRead.mono _ _)
   | (with_reducible exact spec_InsText.mono _ _ _ _ _ _)
   | (with_reducible exact LeO.refl _)
   | (with_reducible exact LeO.none _)
   | (with_reducible refine LeO.ite ?_ ?_)
   | (with_reducible refine LeO.bind ?_ (fun _ => ?_))
   | exact ih0 _ _ _ _ _ _ _ _
   | exact ih1 _
   | exact ih2 _ _
   | exact ih3 _ _ _ _
   | exact ih4 _
   | exact impl_CodeOk.mono _ _
   | exact impl_CodeRead.mono _ _
   | exact impl_CodeText.mono _ _
   | exact impl_InsOk.mono _ _ _ _ _ _
   | exact impl_InsRead.mono _ _
   | exact impl_InsText.mono _ _ _ _ _ _
   | exact laws_sameIns.mono _ _ _
   | exact spec_CodeRead.mono _ _
   | exact spec_CodeText.mono _ _
   | exact spec_DrawCodeRead.mono _ _
   | exact spec_DrawCodeText.mono _ _
   | exact spec_DrawInsRead.mono _ _
   | exact spec_DrawInsText.mono _ _
   | exact spec_InsRead.mono _ _
   | exact spec_InsText.mono _ _ _ _ _ _
   | exact LeO.none _
   | refine LeO.ite ?_ ?_
   | refine LeO.bind ?_ (fun _ => ?_)
  ·intro y0
   unfold laws_FnTexts.j4
   repeat' first
   | (with_reducible exact ih0 _ _ _ _ _ _ _ _)
   | (with_reducible exact ih1 _)
   | (with_reducible exact ih2 _ _)
   | (with_reducible exact ih3 _ _ _ _)
   | (with_reducible exact ih4 _)
   | (with_reducible exact impl_CodeOk.mono _ _)
   | (with_reducible exact impl_CodeRead.mono _ _)
   | (with_reducible exact impl_CodeText.mono _ _)
   | (with_reducible exact impl_InsOk.mono _ _ _ _ _ _)
   | (with_reducible exact impl_InsRead.mono _ _)
   | (with_reducible exact impl_InsText.mono _ _ _ _ _ _)
   | (with_reducible exact laws_sameIns.mono _ _ _)
   | (with_reducible exact spec_CodeRead.mono _ _)
   | (with_reducible exact spec_CodeText.mono _ _)
   | (with_reducible exact spec_DrawCodeRead.mono _ _)
   | (with_reducible exact spec_DrawCodeText.mono _ _)
   | (with_reducible exact spec_DrawInsRead.mono _ _)
   | (with_reducible exact spec_DrawInsText.mono _ _)
   | (with_reducible exact spec_InsRead.mono _ _)
   | (with_reducible exact spec_InsText.mono _ _ _ _ _ _)
   | (with_reducible exact LeO.refl _)
   | (with_reducible exact LeO.none _)
   | (with_reducible refine LeO.ite ?_ ?_)
   | (with_reducible refine LeO.bind ?_ (fun _ => ?_))
   | exact ih0 _ _ _ _ _ _ _ _
   | exact ih1 _
   | exact ih2 _ _
   | exact ih3 _ _ _ _
   | exact ih4 _
   | exact impl_CodeOk.mono _ _
   | exact impl_CodeRead.mono _ _
   | exact impl_CodeText.mono _ _
   | exact impl_InsOk.mono _ _ _ _ _ _
   | exact impl_InsRead.mono _ _
   | exact impl_InsText.mono _ _ _ _ _ _
   | exact laws_sameIns.mono _ _ _
   | exact spec_CodeRead.mono _ _
   | exact spec_CodeText.mono _ _
   | exact spec_DrawCodeRead.mono _ _
   | exact spec_DrawCodeText.mono _ _
   | exact spec_DrawInsRead.mono _ _
   | exact spec_DrawInsText.mono _ _
   | exact spec_InsRead.mono _ _
   | exact spec_InsText.mono _ _ _ _ _ _
   | exact LeO.none _
   | refine LeO.ite ?_ ?_
   | refine LeO.bind ?_ (fun _ => ?_)
theorem laws_FnTexts.mono : ∀ a0 k, LeO (laws_FnTexts.f k a0) (laws_FnTexts.f (k + 1) a0) := by
 intro a0 k; obtain ⟨ih0, ih1, ih2, ih3, ih4⟩ := laws_FnTexts.mono_l k
 unfold laws_FnTexts.f
 repeat' first
   | (with_reducible exact ih0 _ _ _ _ _ _ _ _)
   | (with_reducible exact ih1 _)
   | (with_reducible exact ih2 _ _)
   | (with_reducible exact ih3 _ _ _ _)
   | (with_reducible exact ih4 _)
   | (with_reducible exact impl_CodeOk.mono _ _)
   | (with_reducible exact impl_CodeRead.mono _ _)
   | (with_reducible exact impl_CodeText.mono _ _)
   | (with_reducible exact impl_InsOk.mono _ _ _ _ _ _)
   | (with_reducible exact impl_InsRead.mono _ _)
   | (with_reducible exact impl_InsText.mono _ _ _ _ _ _)
   | (with_reducible exact laws_sameIns.mono _ _ _)
   | (with_reducible exact spec_CodeRead.mono _ _)
   | (with_reducible exact spec_CodeText.mono _ _)
   | (with_reducible exact spec_DrawCodeRead.mono _ _)
   | (with_reducible exact spec_DrawCodeText.mono _ _)
   | (with_reducible exact spec_DrawInsRead.mono _ _)
   | (with_reducible exact spec_DrawInsText.mono _ _)
   | (with_reducible exact spec_InsRead.mono _ _)
   | (with_reducible exact spec_InsText.mono _ _ _ _ _ _)
   | (with_reducible exact LeO.refl _)
   | (with_reducible exact LeO.none _)
   | (with_reducible refine LeO.ite ?_ ?_)
   | (with_reducible refine LeO.bind ?_ (fun _ => ?_))
   | exact ih0 _ _ _ _ _ _ _ _
   | exact ih1 _
   | exact ih2 _ _
   | exact ih3 _ _ _ _
   | exact ih4 _
   | exact impl_CodeOk.mono _ _
   | exact impl_CodeRead.mono _ _
   | exact impl_CodeText.mono _ _
   | exact impl_InsOk.mono _ _ _ _ _ _
   | exact impl_InsRead.mono _ _
   | exact impl_InsText.mono _ _ _ _ _ _
   | exact laws_sameIns.mono _ _ _
   | exact spec_CodeRead.mono _ _
   | exact spec_CodeText.mono _ _
   | exact spec_DrawCodeRead.mono _ _
   | exact spec_DrawCodeText.mono _ _
   | exact spec_DrawInsRead.mono _ _
   | exact spec_DrawInsText.mono _ _
   | exact spec_InsRead.mono _ _
   | exact spec_InsText.mono _ _ _ _ _ _
   | exact LeO.none _
   | refine LeO.ite ?_ ?_
   | refine LeO.bind ?_ (fun _ => ?_)
set_option maxHeartbeats 8000000 in
set_option maxRecDepth 100000 in
theorem laws_FnTexts.calls (k : Nat) (A0 : Option Addr) (c0 : Nat) (l0 : List Int) (r : Bool) (w : World) (hr0 : Kd.C (Kd.int .u8) w A0 l0.length l0) (hc0 : l0.length ≤ c0) (h : laws_FnTexts.f k l0 = some r) (hT_ : TabW w) :
  Calls Tryz.prog 3 #[.slice A0 l0.length c0] w fun e w' => e = .returned (.bool r) ∧ Below w.heap.size w w' := by
 have HT := Aside0.mk hT_; clear hT_
 have hu25 := Tryz.underlying25; have bW := Aside0.mk hr0; have bX := Aside0.mk hc0; clear hr0 hc0; have HB := Aside0.mk (Below.refl w.heap.size w); have H : ((laws_big.f l0).bind fun b8 => (if b8 = true then (some true) else ((spec_DrawInsText.f k l0).bind fun bb => ((impl_InsText.f k bb.1 bb.2.1 bb.2.2.1 bb.2.2.2.1 bb.2.2.2.2).bind fun bf => ((spec_InsText.f k bb.1 bb.2.1 bb.2.2.1 bb.2.2.2.1 bb.2.2.2.2).bind fun bv => (if bf.toList = bv.toList then ((impl_InsOk.f k bb.1 bb.2.1 bb.2.2.1 bb.2.2.2.1 bb.2.2.2.2).bind fun bA => (laws_FnTexts.j0 k l0 bf ((bf.toList != ([] : List UInt8)) != bA) bb.1 bb.2.1 bb.2.2.1 bb.2.2.2.1 bb.2.2.2.2)) else (laws_FnTexts.j0 k l0 bf true bb.1 bb.2.1 bb.2.2.1 bb.2.2.2.1 bb.2.2.2.2))))))) = some r := h; clear h; replace H := Option.bind_eq_some_iff.mp H; obtain ⟨b8, A20, H⟩ := H; replace H : (if b8 = true then (some true) else ((spec_DrawInsText.f k l0).bind fun bb => ((impl_InsText.f k bb.1 bb.2.1 bb.2.2.1 bb.2.2.2.1 bb.2.2.2.2).bind fun bf => ((spec_InsText.f k bb.1 bb.2.1 bb.2.2.1 bb.2.2.2.1 bb.2.2.2.2).bind fun bv => (if bf.toList = bv.toList then ((impl_InsOk.f k bb.1 bb.2.1 bb.2.2.1 bb.2.2.2.1 bb.2.2.2.2).bind fun bA => (laws_FnTexts.j0 k l0 bf ((bf.toList != ([] : List UInt8)) != bA) bb.1 bb.2.1 bb.2.2.1 bb.2.2.2.1 bb.2.2.2.2)) else (laws_FnTexts.j0 k l0 bf true bb.1 bb.2.1 bb.2.2.1 bb.2.2.2.1 bb.2.2.2.2)))))) = some r := H; have A2 := Aside0.mk A20; clear A20
 by_cases c3 : b8 = true
 ·subst c3
  have H1 : (some true) = some r := by rw [if_pos rfl] at H; exact H
  clear H; have H := H1; clear H1; obtain rfl := Option.some.inj H
  go_enter Tryz.func3, Tryz.ntmps3
  go_wp2_with (first | ((with_reducible refine gate_callee (f := 4) rfl ?_); refine goesM (some 22) rfl rfl Tryz.func4 (by kernel_rfl) rfl #[.slice A0 l0.length c0] rfl ?_; (with_reducible refine (laws_big.calls _ _ l0 true _ ?side1 ?side2 A2.out).mono ?_); (case side1 => exact nC bW); (case side2 => exact bX.out); rintro e w' ⟨rfl, ⟨nd, rfl⟩⟩; refine ⟨_, rfl, ?_⟩))
  go_ret
  exact ⟨er_, nbe HB⟩
 ·replace c3 := Bool.eq_false_iff.mpr c3
  subst c3; have H1 : ((spec_DrawInsText.f k l0).bind fun bb => ((impl_InsText.f k bb.1 bb.2.1 bb.2.2.1 bb.2.2.2.1 bb.2.2.2.2).bind fun bf => ((spec_InsText.f k bb.1 bb.2.1 bb.2.2.1 bb.2.2.2.1 bb.2.2.2.2).bind fun bv => (if bf.toList = bv.toList then ((impl_InsOk.f k bb.1 bb.2.1 bb.2.2.1 bb.2.2.2.1 bb.2.2.2.2).bind fun bA => (laws_FnTexts.j0 k l0 bf ((bf.toList != ([] : List UInt8)) != bA) bb.1 bb.2.1 bb.2.2.1 bb.2.2.2.1 bb.2.2.2.2)) else (laws_FnTexts.j0 k l0 bf true bb.1 bb.2.1 bb.2.2.1 bb.2.2.2.1 bb.2.2.2.2))))) = some r := by rw [if_neg (show ¬ (false = true) by decide)] at H; exact H
  clear H; have H := H1; clear H1; replace H := Option.bind_eq_some_iff.mp H; obtain ⟨⟨bh, bi, bj, bk, bl⟩, A40, H⟩ := H; replace H : ((impl_InsText.f k bh bi bj bk bl).bind fun bf => ((spec_InsText.f k bh bi bj bk bl).bind fun bv => (if bf.toList = bv.toList then ((impl_InsOk.f k bh bi bj bk bl).bind fun bA => (laws_FnTexts.j0 k l0 bf ((bf.toList != ([] : List UInt8)) != bA) bh bi bj bk bl)) else (laws_FnTexts.j0 k l0 bf true bh bi bj bk bl)))) = some r := H; have A4 := Aside0.mk A40; clear A40; replace H := Option.bind_eq_some_iff.mp H; obtain ⟨bf, A50, H⟩ := H; replace H : ((spec_InsText.f k bh bi bj bk bl).bind fun bv => (if bf.toList = bv.toList then ((impl_InsOk.f k bh bi bj bk bl).bind fun bA => (laws_FnTexts.j0 k l0 bf ((bf.toList != ([] : List UInt8)) != bA) bh bi bj bk bl)) else (laws_FnTexts.j0 k l0 bf true bh bi bj bk bl))) = some r := H; have A5 := Aside0.mk A50; clear A50; have eR := Aside0.mk H; clear H
  go_enter Tryz.func3, Tryz.ntmps3
  go_upto_region 5 with (first | ((with_reducible refine gate_callee (f := 4) rfl ?_); refine goesM (some 22) rfl rfl Tryz.func4 (by kernel_rfl) rfl #[.slice A0 l0.length c0] rfl ?_; (with_reducible refine (laws_big.calls _ _ l0 false _ ?side1 ?side2 A2.out).mono ?_); (case side1 => exact nC bW); (case side2 => exact bX.out); rintro e w' ⟨rfl, ⟨nd, rfl⟩⟩; refine ⟨_, rfl, ?_⟩) | ((with_reducible refine gate_callee (f := 5) rfl ?_); refine goesM (some 24) rfl rfl Tryz.func5 (by kernel_rfl) rfl #[.slice A0 l0.length c0] rfl ?_; (with_reducible refine (spec_DrawInsText.calls k _ _ l0 bh bi bj bk bl _ ?side1 ?side2 A4.out).mono ?_); (case side1 => exact nC bW); (case side2 => exact bX.out); rintro e w7 ⟨rfl, hb⟩; refine ⟨_, rfl, ?_⟩; replace HB := nbs HB hb; (try clear hb)) | ((with_reducible refine gate_dst (N := 3) rfl ?_); (try (refine gate_guard (by rfl) ?_; dsimp only)); refine bxe 3 #[.int .i64 0, .int .i64 0, .int .i64 0, .int .i64 0, .int .i64 0] 25 ?_; intro bw hg w8 hbox hb; have ba := hbox; have g1 := nge HB hg; have g2 := nge HB hg; replace HB := nbs HB hb; clear hb hbox hg; obtain ⟨dd, de, df, dg, dh⟩ := c5e ba; obtain ⟨di, dj, dk, dl, dm⟩ := z5_ ba) | ((with_reducible refine gate_callee (f := 6) rfl ?_); refine goesM (some 26) rfl rfl Tryz.func6 (by kernel_rfl) rfl #[.agg #[.int .i64 bh, .int .i64 bi, .int .i64 bj, .int .i64 bk, .int .i64 bl]] rfl ?_; (with_reducible refine (impl_InsText.calls k bh bi bj bk bl bf _ A5.out ?hT).mono ?_); (case hT => exact nT HT HB); rintro e g3 ⟨rfl, hb⟩; refine ⟨_, rfl, ?_⟩; replace ba := Aside0.mk (blk_below (g := bw) (o := .cells #[.int .i64 bh, .int .i64 bi, .int .i64 bj, .int .i64 bk, .int .i64 bl] 25 (0, 0)) (q5 ba) hb); replace HB := nbs HB hb; (try clear hb)))
  (try simp only [Act.put, List.setIfInBounds_toArray, List.set_cons_zero, List.set_cons_succ])
  go_cut [37] (fun gQ wc => ∃ (kq : Nat) (dU : Bool), gQ = .bool dU ∧ Aside0 (laws_FnTexts.j0 kq l0 bf dU bh bi bj bk bl = some r) ∧ Aside0 (kq ≤ k) ∧ Aside0 (wc.heap[bw]? = some (.cells #[.int .i64 bh, .int .i64 bi, .int .i64 bj, .int .i64 bk, .int .i64 bl] 25 (0, 0))) ∧ Aside0 (Below w.heap.size w wc))
  case first =>
   have H := eR.out; clear eR; replace H := Option.bind_eq_some_iff.mp H; obtain ⟨bv, A110, H⟩ := H; replace H : (if bf.toList = bv.toList then ((impl_InsOk.f k bh bi bj bk bl).bind fun bA => (laws_FnTexts.j0 k l0 bf ((bf.toList != ([] : List UInt8)) != bA) bh bi bj bk bl)) else (laws_FnTexts.j0 k l0 bf true bh bi bj bk bl)) = some r := H; have A11 := Aside0.mk A110; clear A110
   by_cases c12 : bf.toList = bv.toList
   ·rw [if_pos c12] at H
    have c12b0 : (bf.toList == bv.toList) = true := beq_iff_eq.mpr c12; have c12b1 : (bf.toList != bv.toList) = false := bne_eq_false_iff_eq.mpr c12; clear c12; (first | rw [c12b0] | (simp only [i64_w, i32_w]; rw [c12b0]) | skip); replace H := Option.bind_eq_some_iff.mp H; obtain ⟨bA, A130, H⟩ := H; replace H : (laws_FnTexts.j0 k l0 bf ((bf.toList != ([] : List UInt8)) != bA) bh bi bj bk bl) = some r := H; have A13 := Aside0.mk A130; clear A130; have H' := Aside0.mk H; clear H; obtain ⟨dn, dp, dq, dr, ds⟩ := c5e ba; obtain ⟨dt, du, dv, dw, dx⟩ := z5_ ba
    go_wp2_with (first | ((with_reducible refine gate_callee (f := 7) rfl ?_); refine goesM (some 29) rfl rfl Tryz.func7 (by kernel_rfl) rfl #[.agg #[.int .i64 bh, .int .i64 bi, .int .i64 bj, .int .i64 bk, .int .i64 bl]] rfl ?_; (with_reducible refine (spec_InsText.calls k bh bi bj bk bl bv _ A11.out).mono ?_); rintro e g4 ⟨rfl, hb⟩; refine ⟨_, rfl, ?_⟩; replace ba := nblk ba hb; replace HB := nbs HB hb; (try clear hb); obtain ⟨dy, dz, dA, dB, dC⟩ := c5e ba; obtain ⟨dD, dE, dF, dG, dH⟩ := z5_ ba) | (go_at_call 8; (with_reducible refine (impl_InsOk.calls k bh bi bj bk bl bA _ A13.out).mono ?_); rintro e g5 ⟨rfl, hb⟩; replace ba := nblk ba hb; replace HB := nbs HB hb; (try clear hb)))
    go_meet
    case rel => exact ⟨_, (((bf.toList != ([] : List UInt8)) != bA)), (by first | rfl | (simp; done) | (simp [*]; done) | (simp; cases bf.toList <;> cases bA <;> rfl)), H', ⟨by first | omega | exact Nat.le_refl _⟩, ⟨nb ba⟩, ⟨nbe HB⟩⟩
   ·rw [if_neg c12] at H
    have c12b0 : (bf.toList == bv.toList) = false := beq_eq_false_iff_ne.mpr c12; have c12b1 : (bf.toList != bv.toList) = true := bne_iff_ne.mpr c12; (first | rw [c12b0] | (simp only [i64_w, i32_w]; rw [c12b0]) | skip); have H' := Aside0.mk H; clear H; obtain ⟨dI, dJ, dK, dL, dM⟩ := c5e ba; obtain ⟨dN, dO, dP, dQ, dR⟩ := z5_ ba
    go_wp2_with (first | ((with_reducible refine gate_callee (f := 7) rfl ?_); refine goesM (some 29) rfl rfl Tryz.func7 (by kernel_rfl) rfl #[.agg #[.int .i64 bh, .int .i64 bi, .int .i64 bj, .int .i64 bk, .int .i64 bl]] rfl ?_; (with_reducible refine (spec_InsText.calls k bh bi bj bk bl bv _ A11.out).mono ?_); rintro e g6 ⟨rfl, hb⟩; refine ⟨_, rfl, ?_⟩; replace ba := nblk ba hb; replace HB := nbs HB hb; (try clear hb)))
    go_meet
    case rel => exact ⟨_, (true), (by first | rfl | (simp; done) | (simp [*]; done)), H', ⟨by first | omega | exact Nat.le_refl _⟩, ⟨nb ba⟩, ⟨nbe HB⟩⟩
  case rest =>
   clear eR; try clear c1
   try clear p2
   try clear c3
   try clear c4
   try clear c5
   try clear c6
   try clear c7
   try clear c12
   try clear c12b0
   try clear c12b1
   try clear dn
   try clear dp
   try clear dq
   try clear dr
   try clear ds
   try clear dy
   try clear dz
   try clear dA
   try clear dB
   try clear dC
   try clear dI
   try clear dJ
   try clear dK
   try clear dL
   try clear dM
   try clear dd
   try clear de
   try clear df
   try clear dg
   try clear dh
   try clear dt
   try clear du
   try clear dv
   try clear dw
   try clear dx
   try clear dD
   try clear dE
   try clear dF
   try clear dG
   try clear dH
   try clear dN
   try clear dO
   try clear dP
   try clear dQ
   try clear dR
   try clear di
   try clear dj
   try clear dk
   try clear dl
   try clear dm
   obtain ⟨kq, dU, rfl, HA, bY, ba, HB⟩ := hcut
   cases kq with
   | zero => exact absurd HA.out (by simp [laws_FnTexts.j0])
   | succ kj5 =>
    have H := HA.out; clear HA; simp only [laws_FnTexts.j0] at H
    by_cases c20 : dU = true
    ·subst c20
     have H1 : (some false) = some r := by rw [if_pos rfl] at H; exact H
     clear H; have H := H1; clear H1; obtain rfl := Option.some.inj H; go_wp2
     go_ret
     exact ⟨er_, nbe HB⟩
    ·replace c20 := Bool.eq_false_iff.mpr c20
     subst c20; have H1 : (if bf.toList = ([] : List UInt8) then (laws_FnTexts.j1 kj5 l0) else ((impl_InsRead.f kj5 bf).bind fun bN => (if bN.2.2.2.2.2 = true then (if (!(bN.1 == bh) || (!(bN.2.1 == bi) || (!(bN.2.2.1 == bj) || (!(bN.2.2.2.1 == bk) || (!(bN.2.2.2.2.1 == bl)))))) = true then (some false) else (laws_FnTexts.j1 kj5 l0)) else (some false)))) = some r := by rw [if_neg (show ¬ (false = true) by decide)] at H; exact H
     clear H; have H := H1; clear H1; have eS := Aside0.mk H; clear H
     go_upto_if 39 with (fail)
     go_cut [] (fun wc => ∃ (kq : Nat), Aside0 (laws_FnTexts.j1 kq l0 = some r) ∧ Aside0 (kq ≤ kj5) ∧ Aside0 (wc.heap[bw]? = some (.cells #[.int .i64 bh, .int .i64 bi, .int .i64 bj, .int .i64 bk, .int .i64 bl] 25 (0, 0))) ∧ Aside0 (Below w.heap.size w wc))
     case first =>
      have H := eS.out; clear eS
      by_cases c22 : bf.toList = ([] : List UInt8)
      ·rw [if_pos c22] at H
       have c22b5 : bf.toList.isEmpty = true := List.isEmpty_iff.mpr c22; have c22b0 : (bf.toList == ([] : List UInt8)) = true := beq_iff_eq.mpr c22; have c22b1 : (bf.toList != ([] : List UInt8)) = false := bne_eq_false_iff_eq.mpr c22; clear c22; (first | rw [c22b0] | (simp only [i64_w, i32_w]; rw [c22b0]) | skip); (try simp only [c22b5, Bool.not_true, Bool.not_false]); have H' := Aside0.mk H; clear H; go_wp2
       go_meet
       case rel => exact ⟨_, H', ⟨by have := bY.out; first | omega | exact Nat.le_refl _⟩, ⟨nb ba⟩, ⟨nbe HB⟩⟩
      ·rw [if_neg c22] at H
       have c22b5 : bf.toList.isEmpty = false := Bool.eq_false_iff.mpr (fun h_ => c22 (List.isEmpty_iff.mp h_)); have c22b0 : (bf.toList == ([] : List UInt8)) = false := beq_eq_false_iff_ne.mpr c22; have c22b1 : (bf.toList != ([] : List UInt8)) = true := bne_iff_ne.mpr c22; (first | rw [c22b0] | (simp only [i64_w, i32_w]; rw [c22b0]) | skip); (try simp only [c22b5, Bool.not_true, Bool.not_false]); replace H := Option.bind_eq_some_iff.mp H; obtain ⟨⟨bZ, b0, b1, b2, b3, gx⟩, A230, H⟩ := H; replace H : (if gx = true then (if (!(bZ == bh) || (!(b0 == bi) || (!(b1 == bj) || (!(b2 == bk) || (!(b3 == bl)))))) = true then (some false) else (laws_FnTexts.j1 kj5 l0)) else (some false)) = some r := H; have A23 := Aside0.mk A230; clear A230
       by_cases c24 : gx = true
       ·subst c24
        have H1 : (if (!(bZ == bh) || (!(b0 == bi) || (!(b1 == bj) || (!(b2 == bk) || (!(b3 == bl)))))) = true then (some false) else (laws_FnTexts.j1 kj5 l0)) = some r := by rw [if_pos rfl] at H; exact H
        clear H; have H := H1; clear H1
        by_cases c25 : (!(bZ == bh) || (!(b0 == bi) || (!(b1 == bj) || (!(b2 == bk) || (!(b3 == bl)))))) = true
        ·rw [if_pos c25] at H
         have c25b0 : (!(bZ == bh) || (!(b0 == bi) || (!(b1 == bj) || (!(b2 == bk) || (!(b3 == bl)))))) = true := c25; clear c25; obtain rfl := Option.some.inj H
         go_wp2_with (first | ((with_reducible refine gate_callee (f := 9) rfl ?_); refine goesM (some 42) rfl rfl Tryz.func9 (by kernel_rfl) rfl #[.string bf] rfl ?_; (with_reducible refine (impl_InsRead.calls kj5 bf bZ b0 b1 b2 b3 true _ A23.out ?hT).mono ?_); (case hT => exact nT HT HB); rintro e g7 ⟨rfl, hb⟩; refine ⟨_, rfl, ?_⟩; replace ba := nblk ba hb; replace HB := nbs HB hb; (try clear hb)) | ((with_reducible refine gate_dst (N := 5) rfl ?_); (try (refine gate_guard (by rfl) ?_; dsimp only)); refine bxe 5 #[.int .i64 0, .int .i64 0, .int .i64 0, .int .i64 0, .int .i64 0] 25 ?_; intro gy hg g8 hbox hb; have b4 := hbox; have gz := nge HB hg; have gA := nge HB hg; have b9 := nlt ba hg; have dS := ngt ba hg; replace ba := nblk ba hb; replace HB := nbs HB hb; clear hb hbox hg; have g9 := dS.out; have ha := b9.out; obtain ⟨dV, dW, dX, dY, dZ⟩ := c5e b4; obtain ⟨d0, d1, d2, d3, d4⟩ := z5_ b4; obtain ⟨d5, d6, d7, d8, d9⟩ := c5e ba; obtain ⟨ea, eb, ec, ed, ee⟩ := z5_ ba))
         go_ret
         exact ⟨er_, nbe HB⟩
        ·rw [if_neg c25] at H
         have c25b0 : (!(bZ == bh) || (!(b0 == bi) || (!(b1 == bj) || (!(b2 == bk) || (!(b3 == bl)))))) = false := by simpa using c25
         clear c25; have H' := Aside0.mk H; clear H
         go_wp2_with (first | ((with_reducible refine gate_callee (f := 9) rfl ?_); refine goesM (some 42) rfl rfl Tryz.func9 (by kernel_rfl) rfl #[.string bf] rfl ?_; (with_reducible refine (impl_InsRead.calls kj5 bf bZ b0 b1 b2 b3 true _ A23.out ?hT).mono ?_); (case hT => exact nT HT HB); rintro e hc ⟨rfl, hb⟩; refine ⟨_, rfl, ?_⟩; replace ba := nblk ba hb; replace HB := nbs HB hb; (try clear hb)) | ((with_reducible refine gate_dst (N := 5) rfl ?_); (try (refine gate_guard (by rfl) ?_; dsimp only)); refine bxe 5 #[.int .i64 0, .int .i64 0, .int .i64 0, .int .i64 0, .int .i64 0] 25 ?_; intro gy hg hf hbox hb; have b4 := hbox; have gz := nge HB hg; have gA := nge HB hg; have b9 := nlt ba hg; have dS := ngt ba hg; replace ba := nblk ba hb; replace HB := nbs HB hb; clear hb hbox hg; have hh := dS.out; have hj := b9.out; obtain ⟨ef, eg, eh, ei, ej⟩ := c5e b4; obtain ⟨ek, el, em, en, eo⟩ := z5_ b4; obtain ⟨ep, er, es, et, eu⟩ := c5e ba; obtain ⟨ev, ew, ex, ey, ez⟩ := z5_ ba))
         go_meet
         case rel => exact ⟨_, H', ⟨by have := bY.out; first | omega | exact Nat.le_refl _⟩, ⟨k5_ b9.out (nb ba)⟩, ⟨nbe HB⟩⟩
       ·replace c24 := Bool.eq_false_iff.mpr c24
        subst c24; have H1 : (some false) = some r := by rw [if_neg (show ¬ (false = true) by decide)] at H; exact H
        clear H; have H := H1; clear H1; obtain rfl := Option.some.inj H
        go_wp2_with (first | ((with_reducible refine gate_callee (f := 9) rfl ?_); refine goesM (some 42) rfl rfl Tryz.func9 (by kernel_rfl) rfl #[.string bf] rfl ?_; (with_reducible refine (impl_InsRead.calls kj5 bf bZ b0 b1 b2 b3 false _ A23.out ?hT).mono ?_); (case hT => exact nT HT HB); rintro e hl ⟨rfl, hb⟩; refine ⟨_, rfl, ?_⟩; replace ba := nblk ba hb; replace HB := nbs HB hb; (try clear hb)) | ((with_reducible refine gate_dst (N := 5) rfl ?_); (try (refine gate_guard (by rfl) ?_; dsimp only)); refine bxe 5 #[.int .i64 0, .int .i64 0, .int .i64 0, .int .i64 0, .int .i64 0] 25 ?_; intro gy hg hm hbox hb; have b4 := hbox; have gz := nge HB hg; have gA := nge HB hg; have b9 := nlt ba hg; have dS := ngt ba hg; replace ba := nblk ba hb; replace HB := nbs HB hb; clear hb hbox hg; have hn := dS.out; have ho := b9.out; obtain ⟨eA, eB, eC, eD, eE⟩ := c5e b4; obtain ⟨eF, eG, eH, eI, eJ⟩ := z5_ b4))
        go_ret
        exact ⟨er_, nbe HB⟩
     case rest =>
      clear eS; try clear c1
      try clear c2
      try clear p2
      try clear c3
      try clear c4
      try clear c5
      try clear c6
      try clear c7
      try clear c9
      try clear c12
      try clear c12b0
      try clear c12b1
      try clear c20
      try clear c22
      try clear c22b0
      try clear c22b1
      try clear c24
      try clear c25
      try clear c25b0
      try clear c28
      try clear c33
      try clear c38
      try clear dn
      try clear dp
      try clear dq
      try clear dr
      try clear ds
      try clear dy
      try clear dz
      try clear dA
      try clear dB
      try clear dC
      try clear dI
      try clear dJ
      try clear dK
      try clear dL
      try clear dM
      try clear dV
      try clear dW
      try clear dX
      try clear dY
      try clear dZ
      try clear d5
      try clear d6
      try clear d7
      try clear d8
      try clear d9
      try clear ef
      try clear eg
      try clear eh
      try clear ei
      try clear ej
      try clear ep
      try clear er
      try clear es
      try clear et
      try clear eu
      try clear eA
      try clear eB
      try clear eC
      try clear eD
      try clear eE
      try clear dd
      try clear de
      try clear df
      try clear dg
      try clear dh
      try clear dt
      try clear du
      try clear dv
      try clear dw
      try clear dx
      try clear dD
      try clear dE
      try clear dF
      try clear dG
      try clear dH
      try clear dN
      try clear dO
      try clear dP
      try clear dQ
      try clear dR
      try clear d0
      try clear d1
      try clear d2
      try clear d3
      try clear d4
      try clear ea
      try clear eb
      try clear ec
      try clear ed
      try clear ee
      try clear ek
      try clear el
      try clear em
      try clear en
      try clear eo
      try clear ev
      try clear ew
      try clear ex
      try clear ey
      try clear ez
      try clear eF
      try clear eG
      try clear eH
      try clear eI
      try clear eJ
      try clear di
      try clear dj
      try clear dk
      try clear dl
      try clear dm
      try clear p2
      obtain ⟨kq, HA, b6, ba, HB⟩ := hcut
      cases kq with
      | zero => exact absurd HA.out (by simp [laws_FnTexts.j1])
      | succ kj20 =>
       have H := HA.out; clear HA; simp only [laws_FnTexts.j1] at H; replace H := Option.bind_eq_some_iff.mp H; obtain ⟨bz, A400, H⟩ := H; replace H : ((impl_InsRead.f kj20 bz).bind fun bK => ((spec_InsRead.f kj20 bz).bind fun da => (if (bK.2.2.2.2.2 != da.2.2.2.2.2) = true then (laws_FnTexts.j2 kj20 l0 true) else (if bK.2.2.2.2.2 = true then ((impl_InsText.f kj20 bK.1 bK.2.1 bK.2.2.1 bK.2.2.2.1 bK.2.2.2.2.1).bind fun bO => (laws_FnTexts.j2 kj20 l0 (bO.toList != bz.toList))) else (laws_FnTexts.j2 kj20 l0 false))))) = some r := H; have A40 := Aside0.mk A400; clear A400; replace H := Option.bind_eq_some_iff.mp H; obtain ⟨⟨bq, br, bs, bt, bu, bL⟩, A410, H⟩ := H; replace H : ((spec_InsRead.f kj20 bz).bind fun da => (if (bL != da.2.2.2.2.2) = true then (laws_FnTexts.j2 kj20 l0 true) else (if bL = true then ((impl_InsText.f kj20 bq br bs bt bu).bind fun bO => (laws_FnTexts.j2 kj20 l0 (bO.toList != bz.toList))) else (laws_FnTexts.j2 kj20 l0 false)))) = some r := H; have A41 := Aside0.mk A410; clear A410; replace H := Option.bind_eq_some_iff.mp H; obtain ⟨⟨bB, bC, bD, bE, bF, bU⟩, A420, H⟩ := H; replace H : (if (bL != bU) = true then (laws_FnTexts.j2 kj20 l0 true) else (if bL = true then ((impl_InsText.f kj20 bq br bs bt bu).bind fun bO => (laws_FnTexts.j2 kj20 l0 (bO.toList != bz.toList))) else (laws_FnTexts.j2 kj20 l0 false))) = some r := H; have A42 := Aside0.mk A420; clear A420; have eT := Aside0.mk H; clear H
       go_upto_region 14 with (first | ((with_reducible refine gate_callee (f := 10) rfl ?_); refine goesM (some 53) rfl rfl Tryz.func10 (by kernel_rfl) rfl #[.slice A0 l0.length c0] rfl ?_; (with_reducible refine (spec_DrawInsRead.calls kj20 _ _ l0 bz _ ?side1 ?side2 A40.out).mono ?_); (case side1 => exact nCb bW HB); (case side2 => exact bX.out); rintro e hp ⟨rfl, hb⟩; refine ⟨_, rfl, ?_⟩; replace ba := nblk ba hb; replace HB := nbs HB hb; (try clear hb)) | ((with_reducible refine gate_callee (f := 9) rfl ?_); refine goesM (some 56) rfl rfl Tryz.func9 (by kernel_rfl) rfl #[.string bz] rfl ?_; (with_reducible refine (impl_InsRead.calls kj20 bz bq br bs bt bu bL _ A41.out ?hT).mono ?_); (case hT => exact nT HT HB); rintro e hq ⟨rfl, hb⟩; refine ⟨_, rfl, ?_⟩; replace ba := nblk ba hb; replace HB := nbs HB hb; (try clear hb)) | ((with_reducible refine gate_dst (N := 8) rfl ?_); (try (refine gate_guard (by rfl) ?_; dsimp only)); refine bxe 8 #[.int .i64 0, .int .i64 0, .int .i64 0, .int .i64 0, .int .i64 0] 25 ?_; intro bG hg hr hbox hb; have bc := hbox; have hs := nge HB hg; have ht := nge HB hg; have gB := nlt ba hg; have gC := ngt ba hg; replace ba := nblk ba hb; replace HB := nbs HB hb; clear hb hbox hg; have hu := gC.out; have hv := gB.out; obtain ⟨eU, eV, eW, eX, eY⟩ := c5e bc; obtain ⟨eZ, e0, e1, e2, e3⟩ := z5_ bc) | ((with_reducible refine gate_callee (f := 11) rfl ?_); refine goesM (some 61) rfl rfl Tryz.func11 (by kernel_rfl) rfl #[.string bz] rfl ?_; (with_reducible refine (spec_InsRead.calls kj20 bz bB bC bD bE bF bU _ A42.out).mono ?_); rintro e hw ⟨rfl, hb⟩; refine ⟨_, rfl, ?_⟩; replace ba := nblk ba hb; replace bc := Aside0.mk (blk_below (g := bG) (o := .cells #[.int .i64 bq, .int .i64 br, .int .i64 bs, .int .i64 bt, .int .i64 bu] 25 (0, 0)) (q5 bc) hb); replace HB := nbs HB hb; (try clear hb)) | ((with_reducible refine gate_dst (N := 10) rfl ?_); (try (refine gate_guard (by rfl) ?_; dsimp only)); refine bxe 10 #[.int .i64 0, .int .i64 0, .int .i64 0, .int .i64 0, .int .i64 0] 25 ?_; intro bH hg hx hbox hb; have bd := hbox; have hy := nge HB hg; have hz := nge HB hg; have e4 := nlt ba hg; have gR := ngt ba hg; have eK := nlt bc hg; have gD := ngt bc hg; replace ba := nblk ba hb; replace bc := nblk bc hb; replace HB := nbs HB hb; clear hb hbox hg; have hA := gR.out; have hB := e4.out; have hC := gD.out; have hD := eK.out; obtain ⟨e5, e6, e7, e8, e9⟩ := c5e bd; obtain ⟨ga, gb, gc, gd, gf⟩ := z5_ bd))
       (try simp only [Act.put, List.setIfInBounds_toArray, List.set_cons_zero, List.set_cons_succ])
       go_cut [75] (fun gS wc => ∃ (kq : Nat) (eL : Bool), gS = .bool eL ∧ Aside0 (laws_FnTexts.j2 kq l0 eL = some r) ∧ Aside0 (kq ≤ kj20) ∧ Aside0 (wc.heap[bw]? = some (.cells #[.int .i64 bh, .int .i64 bi, .int .i64 bj, .int .i64 bk, .int .i64 bl] 25 (0, 0))) ∧ Aside0 (wc.heap[bG]? = some (.cells #[.int .i64 bq, .int .i64 br, .int .i64 bs, .int .i64 bt, .int .i64 bu] 25 (0, 0))) ∧ Aside0 (wc.heap[bH]? = some (.cells #[.int .i64 bB, .int .i64 bC, .int .i64 bD, .int .i64 bE, .int .i64 bF] 25 (0, 0))) ∧ Aside0 (Below w.heap.size w wc))
       case first =>
        have H := eT.out; clear eT
        by_cases c54 : (bL != bU) = true
        ·rw [if_pos c54] at H
         have c54b0 : (bL != bU) = true := c54; (try (have c54b1 : decide (bL = bU) = false := by simpa using c54)); (try (have c54b2 : (bL == bU) = false := by simpa using c54)); (try (have c54b3 : ¬ (bL = bU) := by simpa using c54)); clear c54; (first | rw [c54b0] | (simp only [i64_w, i32_w]; rw [c54b0]) | skip); have H' := Aside0.mk H; clear H; go_wp2
         go_meet
         case rel => exact ⟨_, (true), (by first | rfl | (simp; done) | (simp [*]; done)), H', ⟨by have := bY.out; have := b6.out; first | omega | exact Nat.le_refl _⟩, ⟨k5_ e4.out (nb ba)⟩, ⟨k5_ eK.out (nb bc)⟩, ⟨q5 bd⟩, ⟨nbe HB⟩⟩
        ·rw [if_neg c54] at H
         have c54b0 : (bL != bU) = false := by simpa using c54
         (try (have c54b1 : decide (bL = bU) = true := by simpa using c54)); (try (have c54b2 : (bL == bU) = true := by simpa using c54)); clear c54; (first | rw [c54b0] | (simp only [i64_w, i32_w]; rw [c54b0]) | skip)
         by_cases c55 : bL = true
         ·subst c55
          have H1 : ((impl_InsText.f kj20 bq br bs bt bu).bind fun bO => (laws_FnTexts.j2 kj20 l0 (bO.toList != bz.toList))) = some r := by rw [if_pos rfl] at H; exact H
          clear H; have H := H1; clear H1; replace H := Option.bind_eq_some_iff.mp H; obtain ⟨bO, A560, H⟩ := H; replace H : (laws_FnTexts.j2 kj20 l0 (bO.toList != bz.toList)) = some r := H; have A56 := Aside0.mk A560; clear A560; have H' := Aside0.mk H; clear H; have hE := gC.out; have hF := gB.out; have hG := eK.out; have hH := gD.out; obtain ⟨gg, gh, gi, gj, gl⟩ := c5e bc; obtain ⟨gm, gn, gp, gq, gr⟩ := z5_ bc
          go_wp2_with (first | (go_at_call 6; (with_reducible refine (impl_InsText.calls kj20 bq br bs bt bu bO _ A56.out ?hT).mono ?_); (case hT => exact nT HT HB); rintro e hI ⟨rfl, hb⟩; replace ba := nblk ba hb; replace bc := nblk bc hb; replace bd := Aside0.mk (blk_below (g := bH) (o := .cells #[.int .i64 bB, .int .i64 bC, .int .i64 bD, .int .i64 bE, .int .i64 bF] 25 (0, 0)) (q5 bd) hb); replace HB := nbs HB hb; (try clear hb)))
          go_meet
          case rel => exact ⟨_, ((bO.toList != bz.toList)), (by first | rfl | (simp; done) | (simp [*]; done)), H', ⟨by have := bY.out; have := b6.out; first | omega | exact Nat.le_refl _⟩, ⟨nb ba⟩, ⟨nb bc⟩, ⟨nb bd⟩, ⟨nbe HB⟩⟩
         ·replace c55 := Bool.eq_false_iff.mpr c55
          subst c55; have H1 : (laws_FnTexts.j2 kj20 l0 false) = some r := by rw [if_neg (show ¬ (false = true) by decide)] at H; exact H
          clear H; have H := H1; clear H1; have H' := Aside0.mk H; clear H; go_wp2
          go_meet
          case rel => exact ⟨_, (false), (by first | rfl | (simp; done) | (simp [*]; done)), H', ⟨by have := bY.out; have := b6.out; first | omega | exact Nat.le_refl _⟩, ⟨k5_ e4.out (nb ba)⟩, ⟨k5_ eK.out (nb bc)⟩, ⟨q5 bd⟩, ⟨nbe HB⟩⟩
       case rest =>
        clear eT; try clear c1
        try clear c2
        try clear p2
        try clear c3
        try clear c4
        try clear c5
        try clear c6
        try clear c7
        try clear c9
        try clear c10
        try clear c11
        try clear c12
        try clear c12b0
        try clear c12b1
        try clear c20
        try clear c22
        try clear c22b0
        try clear c22b1
        try clear c24
        try clear c25
        try clear c25b0
        try clear c28
        try clear c33
        try clear c38
        try clear c47
        try clear c51
        try clear c52
        try clear c54
        try clear c54b0
        try clear c54b1
        try clear c54b2
        try clear c55
        try clear c57
        try clear c58
        try clear dn
        try clear dp
        try clear dq
        try clear dr
        try clear ds
        try clear dy
        try clear dz
        try clear dA
        try clear dB
        try clear dC
        try clear dI
        try clear dJ
        try clear dK
        try clear dL
        try clear dM
        try clear dV
        try clear dW
        try clear dX
        try clear dY
        try clear dZ
        try clear d5
        try clear d6
        try clear d7
        try clear d8
        try clear d9
        try clear ef
        try clear eg
        try clear eh
        try clear ei
        try clear ej
        try clear ep
        try clear er
        try clear es
        try clear et
        try clear eu
        try clear eA
        try clear eB
        try clear eC
        try clear eD
        try clear eE
        try clear eU
        try clear eV
        try clear eW
        try clear eX
        try clear eY
        try clear e5
        try clear e6
        try clear e7
        try clear e8
        try clear e9
        try clear gg
        try clear gh
        try clear gi
        try clear gj
        try clear gl
        try clear dd
        try clear de
        try clear df
        try clear dg
        try clear dh
        try clear dt
        try clear du
        try clear dv
        try clear dw
        try clear dx
        try clear dD
        try clear dE
        try clear dF
        try clear dG
        try clear dH
        try clear dN
        try clear dO
        try clear dP
        try clear dQ
        try clear dR
        try clear d0
        try clear d1
        try clear d2
        try clear d3
        try clear d4
        try clear ea
        try clear eb
        try clear ec
        try clear ed
        try clear ee
        try clear ek
        try clear el
        try clear em
        try clear en
        try clear eo
        try clear ev
        try clear ew
        try clear ex
        try clear ey
        try clear ez
        try clear eF
        try clear eG
        try clear eH
        try clear eI
        try clear eJ
        try clear eZ
        try clear e0
        try clear e1
        try clear e2
        try clear e3
        try clear ga
        try clear gb
        try clear gc
        try clear gd
        try clear gf
        try clear gm
        try clear gn
        try clear gp
        try clear gq
        try clear gr
        try clear di
        try clear dj
        try clear dk
        try clear dl
        try clear dm
        try clear p2
        obtain ⟨kq, eL, rfl, HA, eM, ba, bc, bd, HB⟩ := hcut
        cases kq with
        | zero => exact absurd HA.out (by simp [laws_FnTexts.j2])
        | succ kj42 =>
         have H := HA.out; clear HA; simp only [laws_FnTexts.j2] at H
         by_cases c61 : eL = true
         ·subst c61
          have H1 : (some false) = some r := by rw [if_pos rfl] at H; exact H
          clear H; have H := H1; clear H1; obtain rfl := Option.some.inj H; go_wp2
          go_ret
          exact ⟨er_, nbe HB⟩
         ·replace c61 := Bool.eq_false_iff.mpr c61
          subst c61; have H1 : ((spec_DrawCodeText.f kj42 l0).bind fun bn => ((impl_CodeText.f kj42 bn).bind fun bg => ((spec_CodeText.f kj42 bn).bind fun bJ => (if bg.toList = bJ.toList then ((impl_CodeOk.f kj42 bn).bind fun bP => (laws_FnTexts.j3 kj42 l0 bn bg ((bg.toList != ([] : List UInt8)) != bP))) else (laws_FnTexts.j3 kj42 l0 bn bg true))))) = some r := by rw [if_neg (show ¬ (false = true) by decide)] at H; exact H
          clear H; have H := H1; clear H1; replace H := Option.bind_eq_some_iff.mp H; obtain ⟨bn, A620, H⟩ := H; replace H : ((impl_CodeText.f kj42 bn).bind fun bg => ((spec_CodeText.f kj42 bn).bind fun bJ => (if bg.toList = bJ.toList then ((impl_CodeOk.f kj42 bn).bind fun bP => (laws_FnTexts.j3 kj42 l0 bn bg ((bg.toList != ([] : List UInt8)) != bP))) else (laws_FnTexts.j3 kj42 l0 bn bg true)))) = some r := H; have A62 := Aside0.mk A620; clear A620; replace H := Option.bind_eq_some_iff.mp H; obtain ⟨bg, A630, H⟩ := H; replace H : ((spec_CodeText.f kj42 bn).bind fun bJ => (if bg.toList = bJ.toList then ((impl_CodeOk.f kj42 bn).bind fun bP => (laws_FnTexts.j3 kj42 l0 bn bg ((bg.toList != ([] : List UInt8)) != bP))) else (laws_FnTexts.j3 kj42 l0 bn bg true))) = some r := H; have A63 := Aside0.mk A630; clear A630; have gs := Aside0.mk H; clear H
          go_upto_region 18 with (first | ((with_reducible refine gate_callee (f := 12) rfl ?_); refine goesM (some 77) rfl rfl Tryz.func12 (by kernel_rfl) rfl #[.slice A0 l0.length c0] rfl ?_; (with_reducible refine (spec_DrawCodeText.calls kj42 _ _ l0 bn _ ?side1 ?side2 A62.out).mono ?_); (case side1 => exact nCb bW HB); (case side2 => exact bX.out); rintro e hJ ⟨hK, rfl, bm, hb⟩; refine ⟨_, rfl, ?_⟩; have bx := Aside0.mk (Kd.R_lower (Kd.R_newB (Kd.R_newB (Kd.R_newB bm (g := bw) (o := .cells #[.int .i64 bh, .int .i64 bi, .int .i64 bj, .int .i64 bk, .int .i64 bl] 25 (0, 0)) (nb ba)) (g := bG) (o := .cells #[.int .i64 bq, .int .i64 br, .int .i64 bs, .int .i64 bt, .int .i64 bu] 25 (0, 0)) (nb bc)) (g := bH) (o := .cells #[.int .i64 bB, .int .i64 bC, .int .i64 bD, .int .i64 bE, .int .i64 bF] 25 (0, 0)) (nb bd)) (bsz HB)); replace ba := nblk ba hb; replace bc := nblk bc hb; replace bd := nblk bd hb; replace HB := nbs HB hb; (try clear hb); (try clear bm); obtain ⟨eN, eO, gT⟩ := Kd.R_slice bx.out; subst gT) | ((with_reducible refine gate_callee (f := 13) rfl ?_); refine goesM (some 79) rfl rfl Tryz.func13 (by kernel_rfl) rfl #[.slice eN bn.length eO] rfl ?_; (with_reducible refine (impl_CodeText.calls kj42 _ _ bn bg _ ?side1 ?side2 A63.out ?hT).mono ?_); (case hT => exact nT HT HB); (case side1 => repeat (first | exact (Kd.R_reads' bx.out).2.2 | (with_reducible refine Kd.C_alloc ?_ _) | (with_reducible refine Kd.C_drewN ?_ _) | (with_reducible refine Kd.C_drew ?_))); (case side2 => exact (Kd.R_reads' bx.out).2.1); rintro e hL ⟨rfl, hb⟩; refine ⟨_, rfl, ?_⟩; replace bx := nR bx hb; replace ba := nblk ba hb; replace bc := nblk bc hb; replace bd := nblk bd hb; replace HB := nbs HB hb; (try clear hb)))
          (try simp only [Act.put, List.setIfInBounds_toArray, List.set_cons_zero, List.set_cons_succ])
          go_cut [90] (fun gU wc => ∃ (kq : Nat) (eP : Bool), gU = .bool eP ∧ Aside0 (laws_FnTexts.j3 kq l0 bn bg eP = some r) ∧ Aside0 (kq ≤ kj42) ∧ Aside0 (Kd.R k25 25 wc w.heap.size (fun k_ => k_ ≠ bw ∧ k_ ≠ bG ∧ k_ ≠ bH) (.slice eN bn.length eO) bn) ∧ Aside0 (wc.heap[bw]? = some (.cells #[.int .i64 bh, .int .i64 bi, .int .i64 bj, .int .i64 bk, .int .i64 bl] 25 (0, 0))) ∧ Aside0 (wc.heap[bG]? = some (.cells #[.int .i64 bq, .int .i64 br, .int .i64 bs, .int .i64 bt, .int .i64 bu] 25 (0, 0))) ∧ Aside0 (wc.heap[bH]? = some (.cells #[.int .i64 bB, .int .i64 bC, .int .i64 bD, .int .i64 bE, .int .i64 bF] 25 (0, 0))) ∧ Aside0 (Below w.heap.size w wc))
          case first =>
           have H := gs.out; clear gs; replace H := Option.bind_eq_some_iff.mp H; obtain ⟨bJ, A680, H⟩ := H; replace H : (if bg.toList = bJ.toList then ((impl_CodeOk.f kj42 bn).bind fun bP => (laws_FnTexts.j3 kj42 l0 bn bg ((bg.toList != ([] : List UInt8)) != bP))) else (laws_FnTexts.j3 kj42 l0 bn bg true)) = some r := H; have A68 := Aside0.mk A680; clear A680
           by_cases c69 : bg.toList = bJ.toList
           ·rw [if_pos c69] at H
            have c69b0 : (bg.toList == bJ.toList) = true := beq_iff_eq.mpr c69; have c69b1 : (bg.toList != bJ.toList) = false := bne_eq_false_iff_eq.mpr c69; clear c69; (first | rw [c69b0] | (simp only [i64_w, i32_w]; rw [c69b0]) | skip); replace H := Option.bind_eq_some_iff.mp H; obtain ⟨bP, A700, H⟩ := H; replace H : (laws_FnTexts.j3 kj42 l0 bn bg ((bg.toList != ([] : List UInt8)) != bP)) = some r := H; have A70 := Aside0.mk A700; clear A700; have H' := Aside0.mk H; clear H
            go_wp2_with (first | ((with_reducible refine gate_callee (f := 14) rfl ?_); refine goesM (some 82) rfl rfl Tryz.func14 (by kernel_rfl) rfl #[.slice eN bn.length eO] rfl ?_; (with_reducible refine (spec_CodeText.calls kj42 _ _ bn bJ _ ?side1 ?side2 A68.out).mono ?_); (case side1 => repeat (first | exact (Kd.R_reads' bx.out).2.2 | (with_reducible refine Kd.C_alloc ?_ _) | (with_reducible refine Kd.C_drewN ?_ _) | (with_reducible refine Kd.C_drew ?_))); (case side2 => exact (Kd.R_reads' bx.out).2.1); rintro e hM ⟨rfl, hb⟩; refine ⟨_, rfl, ?_⟩; replace bx := nR bx hb; replace ba := nblk ba hb; replace bc := nblk bc hb; replace bd := nblk bd hb; replace HB := nbs HB hb; (try clear hb)) | (go_at_call 15; (with_reducible refine (impl_CodeOk.calls kj42 _ _ bn bP _ ?side1 ?side2 A70.out).mono ?_); (case side1 => repeat (first | exact (Kd.R_reads' bx.out).2.2 | (with_reducible refine Kd.C_alloc ?_ _) | (with_reducible refine Kd.C_drewN ?_ _) | (with_reducible refine Kd.C_drew ?_))); (case side2 => exact (Kd.R_reads' bx.out).2.1); rintro e hN ⟨rfl, hb⟩; replace bx := nR bx hb; replace ba := nblk ba hb; replace bc := nblk bc hb; replace bd := nblk bd hb; replace HB := nbs HB hb; (try clear hb)))
            go_meet
            case rel => exact ⟨_, (((bg.toList != ([] : List UInt8)) != bP)), (by first | rfl | (simp; done) | (simp [*]; done) | (simp; cases bg.toList <;> cases bP <;> rfl)), H', ⟨by have := bY.out; have := b6.out; have := eM.out; first | omega | exact Nat.le_refl _⟩, ⟨by (with_reducible repeat (first | apply Kd.R_alloc | apply Kd.R_drewN | apply Kd.R_drew)); exact Kd.R_mono bx.out (fun _ hk => ⟨hk.1.1.2, ⟨hk.1.2, hk.2⟩⟩)⟩, ⟨nb ba⟩, ⟨nb bc⟩, ⟨nb bd⟩, ⟨nbe HB⟩⟩
           ·rw [if_neg c69] at H
            have c69b0 : (bg.toList == bJ.toList) = false := beq_eq_false_iff_ne.mpr c69; have c69b1 : (bg.toList != bJ.toList) = true := bne_iff_ne.mpr c69; (first | rw [c69b0] | (simp only [i64_w, i32_w]; rw [c69b0]) | skip); have H' := Aside0.mk H; clear H
            go_wp2_with (first | ((with_reducible refine gate_callee (f := 14) rfl ?_); refine goesM (some 82) rfl rfl Tryz.func14 (by kernel_rfl) rfl #[.slice eN bn.length eO] rfl ?_; (with_reducible refine (spec_CodeText.calls kj42 _ _ bn bJ _ ?side1 ?side2 A68.out).mono ?_); (case side1 => repeat (first | exact (Kd.R_reads' bx.out).2.2 | (with_reducible refine Kd.C_alloc ?_ _) | (with_reducible refine Kd.C_drewN ?_ _) | (with_reducible refine Kd.C_drew ?_))); (case side2 => exact (Kd.R_reads' bx.out).2.1); rintro e hO ⟨rfl, hb⟩; refine ⟨_, rfl, ?_⟩; replace bx := nR bx hb; replace ba := nblk ba hb; replace bc := nblk bc hb; replace bd := nblk bd hb; replace HB := nbs HB hb; (try clear hb)))
            go_meet
            case rel => exact ⟨_, (true), (by first | rfl | (simp; done) | (simp [*]; done)), H', ⟨by have := bY.out; have := b6.out; have := eM.out; first | omega | exact Nat.le_refl _⟩, ⟨by (with_reducible repeat (first | apply Kd.R_alloc | apply Kd.R_drewN | apply Kd.R_drew)); exact Kd.R_mono bx.out (fun _ hk => ⟨hk.1.1.2, ⟨hk.1.2, hk.2⟩⟩)⟩, ⟨nb ba⟩, ⟨nb bc⟩, ⟨nb bd⟩, ⟨nbe HB⟩⟩
          case rest =>
           clear gs; try clear c1
           try clear c2
           try clear p2
           try clear c3
           try clear c4
           try clear c5
           try clear c6
           try clear c7
           try clear c9
           try clear c10
           try clear c11
           try clear c12
           try clear c12b0
           try clear c12b1
           try clear c13
           try clear c14
           try clear c20
           try clear c22
           try clear c22b0
           try clear c22b1
           try clear c24
           try clear c25
           try clear c25b0
           try clear c28
           try clear c33
           try clear c38
           try clear c47
           try clear c51
           try clear c52
           try clear c54
           try clear c54b0
           try clear c54b1
           try clear c54b2
           try clear c55
           try clear c57
           try clear c58
           try clear c61
           try clear c69
           try clear c69b0
           try clear c69b1
           try clear dn
           try clear dp
           try clear dq
           try clear dr
           try clear ds
           try clear dy
           try clear dz
           try clear dA
           try clear dB
           try clear dC
           try clear dI
           try clear dJ
           try clear dK
           try clear dL
           try clear dM
           try clear dV
           try clear dW
           try clear dX
           try clear dY
           try clear dZ
           try clear d5
           try clear d6
           try clear d7
           try clear d8
           try clear d9
           try clear ef
           try clear eg
           try clear eh
           try clear ei
           try clear ej
           try clear ep
           try clear er
           try clear es
           try clear et
           try clear eu
           try clear eA
           try clear eB
           try clear eC
           try clear eD
           try clear eE
           try clear eU
           try clear eV
           try clear eW
           try clear eX
           try clear eY
           try clear e5
           try clear e6
           try clear e7
           try clear e8
           try clear e9
           try clear gg
           try clear gh
           try clear gi
           try clear gj
           try clear gl
           try clear dd
           try clear de
           try clear df
           try clear dg
           try clear dh
           try clear dt
           try clear du
           try clear dv
           try clear dw
           try clear dx
           try clear dD
           try clear dE
           try clear dF
           try clear dG
           try clear dH
           try clear dN
           try clear dO
           try clear dP
           try clear dQ
           try clear dR
           try clear d0
           try clear d1
           try clear d2
           try clear d3
           try clear d4
           try clear ea
           try clear eb
           try clear ec
           try clear ed
           try clear ee
           try clear ek
           try clear el
           try clear em
           try clear en
           try clear eo
           try clear ev
           try clear ew
           try clear ex
           try clear ey
           try clear ez
           try clear eF
           try clear eG
           try clear eH
           try clear eI
           try clear eJ
           try clear eZ
           try clear e0
           try clear e1
           try clear e2
           try clear e3
           try clear ga
           try clear gb
           try clear gc
           try clear gd
           try clear gf
           try clear gm
           try clear gn
           try clear gp
           try clear gq
           try clear gr
           try clear di
           try clear dj
           try clear dk
           try clear dl
           try clear dm
           try clear p2
           obtain ⟨kq, eP, rfl, HA, gE, bQ, ba, bc, bd, HB⟩ := hcut
           cases kq with
           | zero => exact absurd HA.out (by simp [laws_FnTexts.j3])
           | succ kj63 =>
            have H := HA.out; clear HA; simp only [laws_FnTexts.j3] at H
            by_cases c74 : eP = true
            ·subst c74
             have H1 : (some false) = some r := by rw [if_pos rfl] at H; exact H
             clear H; have H := H1; clear H1; obtain rfl := Option.some.inj H; go_wp2
             go_ret
             exact ⟨er_, nbe HB⟩
            ·replace c74 := Bool.eq_false_iff.mpr c74
             subst c74; have H1 : (if bg.toList = ([] : List UInt8) then (laws_FnTexts.j4 kj63 l0) else ((impl_CodeRead.f kj63 bg).bind fun db => (if db.2 = true then ((laws_sameIns.f kj63 db.1 bn).bind fun bT => (if bT = true then (laws_FnTexts.j4 kj63 l0) else (some false))) else (some false)))) = some r := by rw [if_neg (show ¬ (false = true) by decide)] at H; exact H
             clear H; have H := H1; clear H1; have gt := Aside0.mk H; clear H
             go_upto_if 92 with (fail)
             go_cut [] (fun wc => ∃ (kq : Nat), Aside0 (laws_FnTexts.j4 kq l0 = some r) ∧ Aside0 (kq ≤ kj63) ∧ Aside0 (wc.heap[bw]? = some (.cells #[.int .i64 bh, .int .i64 bi, .int .i64 bj, .int .i64 bk, .int .i64 bl] 25 (0, 0))) ∧ Aside0 (wc.heap[bG]? = some (.cells #[.int .i64 bq, .int .i64 br, .int .i64 bs, .int .i64 bt, .int .i64 bu] 25 (0, 0))) ∧ Aside0 (wc.heap[bH]? = some (.cells #[.int .i64 bB, .int .i64 bC, .int .i64 bD, .int .i64 bE, .int .i64 bF] 25 (0, 0))) ∧ Aside0 (Below w.heap.size w wc))
             case first =>
              have H := gt.out; clear gt
              by_cases c76 : bg.toList = ([] : List UInt8)
              ·rw [if_pos c76] at H
               have c76b5 : bg.toList.isEmpty = true := List.isEmpty_iff.mpr c76; have c76b0 : (bg.toList == ([] : List UInt8)) = true := beq_iff_eq.mpr c76; have c76b1 : (bg.toList != ([] : List UInt8)) = false := bne_eq_false_iff_eq.mpr c76; clear c76; (first | rw [c76b0] | (simp only [i64_w, i32_w]; rw [c76b0]) | skip); (try simp only [c76b5, Bool.not_true, Bool.not_false]); have H' := Aside0.mk H; clear H; go_wp2
               go_meet
               case rel => exact ⟨_, H', ⟨by have := bY.out; have := b6.out; have := eM.out; have := gE.out; first | omega | exact Nat.le_refl _⟩, ⟨nb ba⟩, ⟨nb bc⟩, ⟨nb bd⟩, ⟨nbe HB⟩⟩
              ·rw [if_neg c76] at H
               have c76b5 : bg.toList.isEmpty = false := Bool.eq_false_iff.mpr (fun h_ => c76 (List.isEmpty_iff.mp h_)); have c76b0 : (bg.toList == ([] : List UInt8)) = false := beq_eq_false_iff_ne.mpr c76; have c76b1 : (bg.toList != ([] : List UInt8)) = true := bne_iff_ne.mpr c76; (first | rw [c76b0] | (simp only [i64_w, i32_w]; rw [c76b0]) | skip); (try simp only [c76b5, Bool.not_true, Bool.not_false]); replace H := Option.bind_eq_some_iff.mp H; obtain ⟨⟨b7, gF⟩, A770, H⟩ := H; replace H : (if gF = true then ((laws_sameIns.f kj63 b7 bn).bind fun bT => (if bT = true then (laws_FnTexts.j4 kj63 l0) else (some false))) else (some false)) = some r := H; have A77 := Aside0.mk A770; clear A770
               by_cases c78 : gF = true
               ·subst c78
                have H1 : ((laws_sameIns.f kj63 b7 bn).bind fun bT => (if bT = true then (laws_FnTexts.j4 kj63 l0) else (some false))) = some r := by rw [if_pos rfl] at H; exact H
                clear H; have H := H1; clear H1; replace H := Option.bind_eq_some_iff.mp H; obtain ⟨bT, A790, H⟩ := H; replace H : (if bT = true then (laws_FnTexts.j4 kj63 l0) else (some false)) = some r := H; have A79 := Aside0.mk A790; clear A790
                by_cases c80 : bT = true
                ·subst c80
                 have H1 : (laws_FnTexts.j4 kj63 l0) = some r := by rw [if_pos rfl] at H; exact H
                 clear H; have H := H1; clear H1; have H' := Aside0.mk H; clear H
                 go_wp2_with (first | ((with_reducible refine gate_callee (f := 16) rfl ?_); refine goesM (some 95) rfl rfl Tryz.func16 (by kernel_rfl) rfl #[.string bg] rfl ?_; (with_reducible refine (impl_CodeRead.calls kj63 bg b7 true _ A77.out ?hT).mono ?_); (case hT => exact nT HT HB); rintro e hQ ⟨gG, rfl, bm, hb⟩; refine ⟨_, rfl, ?_⟩; have b5 := Aside0.mk (Kd.R_lower (Kd.R_newB (Kd.R_newB (Kd.R_newB (Kd.R_new' bm (Kd.R_lt (nRo bQ))) (g := bw) (o := .cells #[.int .i64 bh, .int .i64 bi, .int .i64 bj, .int .i64 bk, .int .i64 bl] 25 (0, 0)) (nb ba)) (g := bG) (o := .cells #[.int .i64 bq, .int .i64 br, .int .i64 bs, .int .i64 bt, .int .i64 bu] 25 (0, 0)) (nb bc)) (g := bH) (o := .cells #[.int .i64 bB, .int .i64 bC, .int .i64 bD, .int .i64 bE, .int .i64 bF] 25 (0, 0)) (nb bd)) (bsz HB)); replace bQ := Aside0.mk (Kd.R_elder' (nRo bQ) (Kd.R_base bm) hb); replace ba := nblk ba hb; replace bc := nblk bc hb; replace bd := nblk bd hb; replace HB := nbs HB hb; (try clear hb); (try clear bm); obtain ⟨hR, hS, gV⟩ := Kd.R_slice b5.out; subst gV) | (go_at_call 17; (with_reducible refine (laws_sameIns.calls kj63 _ _ b7 _ _ bn true _ ?side1 ?side2 ?side3 ?side4 A79.out).mono ?_); (case side1 => repeat (first | exact (Kd.R_reads' b5.out).2.2 | (with_reducible refine Kd.C_alloc ?_ _) | (with_reducible refine Kd.C_drewN ?_ _) | (with_reducible refine Kd.C_drew ?_))); (case side2 => exact (Kd.R_reads' b5.out).2.1); (case side3 => repeat (first | exact (Kd.R_reads' bQ.out).2.2 | (with_reducible refine Kd.C_alloc ?_ _) | (with_reducible refine Kd.C_drewN ?_ _) | (with_reducible refine Kd.C_drew ?_))); (case side4 => exact (Kd.R_reads' bQ.out).2.1); rintro e w' ⟨rfl, ⟨nd, rfl⟩⟩))
                 go_meet
                 case rel => exact ⟨_, H', ⟨by have := bY.out; have := b6.out; have := eM.out; have := gE.out; first | omega | exact Nat.le_refl _⟩, ⟨nb ba⟩, ⟨nb bc⟩, ⟨nb bd⟩, ⟨nbe HB⟩⟩
                ·replace c80 := Bool.eq_false_iff.mpr c80
                 subst c80; have H1 : (some false) = some r := by rw [if_neg (show ¬ (false = true) by decide)] at H; exact H
                 clear H; have H := H1; clear H1; obtain rfl := Option.some.inj H
                 go_wp2_with (first | ((with_reducible refine gate_callee (f := 16) rfl ?_); refine goesM (some 95) rfl rfl Tryz.func16 (by kernel_rfl) rfl #[.string bg] rfl ?_; (with_reducible refine (impl_CodeRead.calls kj63 bg b7 true _ A77.out ?hT).mono ?_); (case hT => exact nT HT HB); rintro e hT ⟨gG, rfl, bm, hb⟩; refine ⟨_, rfl, ?_⟩; have b5 := Aside0.mk (Kd.R_lower (Kd.R_newB (Kd.R_newB (Kd.R_newB (Kd.R_new' bm (Kd.R_lt (nRo bQ))) (g := bw) (o := .cells #[.int .i64 bh, .int .i64 bi, .int .i64 bj, .int .i64 bk, .int .i64 bl] 25 (0, 0)) (nb ba)) (g := bG) (o := .cells #[.int .i64 bq, .int .i64 br, .int .i64 bs, .int .i64 bt, .int .i64 bu] 25 (0, 0)) (nb bc)) (g := bH) (o := .cells #[.int .i64 bB, .int .i64 bC, .int .i64 bD, .int .i64 bE, .int .i64 bF] 25 (0, 0)) (nb bd)) (bsz HB)); replace bQ := Aside0.mk (Kd.R_elder' (nRo bQ) (Kd.R_base bm) hb); replace ba := nblk ba hb; replace bc := nblk bc hb; replace bd := nblk bd hb; replace HB := nbs HB hb; (try clear hb); (try clear bm); obtain ⟨hU, hV, gW⟩ := Kd.R_slice b5.out; subst gW) | (go_at_call 17; (with_reducible refine (laws_sameIns.calls kj63 _ _ b7 _ _ bn false _ ?side1 ?side2 ?side3 ?side4 A79.out).mono ?_); (case side1 => repeat (first | exact (Kd.R_reads' b5.out).2.2 | (with_reducible refine Kd.C_alloc ?_ _) | (with_reducible refine Kd.C_drewN ?_ _) | (with_reducible refine Kd.C_drew ?_))); (case side2 => exact (Kd.R_reads' b5.out).2.1); (case side3 => repeat (first | exact (Kd.R_reads' bQ.out).2.2 | (with_reducible refine Kd.C_alloc ?_ _) | (with_reducible refine Kd.C_drewN ?_ _) | (with_reducible refine Kd.C_drew ?_))); (case side4 => exact (Kd.R_reads' bQ.out).2.1); rintro e w' ⟨rfl, ⟨nd, rfl⟩⟩))
                 go_ret
                 exact ⟨er_, nbe HB⟩
               ·replace c78 := Bool.eq_false_iff.mpr c78
                subst c78; have H1 : (some false) = some r := by rw [if_neg (show ¬ (false = true) by decide)] at H; exact H
                clear H; have H := H1; clear H1; obtain rfl := Option.some.inj H
                go_wp2_with (first | ((with_reducible refine gate_callee (f := 16) rfl ?_); refine goesM (some 95) rfl rfl Tryz.func16 (by kernel_rfl) rfl #[.string bg] rfl ?_; (with_reducible refine (impl_CodeRead.calls kj63 bg b7 false _ A77.out ?hT).mono ?_); (case hT => exact nT HT HB); rintro e hW ⟨gG, rfl, bm, hb⟩; refine ⟨_, rfl, ?_⟩; have b5 := Aside0.mk (Kd.R_lower (Kd.R_newB (Kd.R_newB (Kd.R_newB (Kd.R_new' bm (Kd.R_lt (nRo bQ))) (g := bw) (o := .cells #[.int .i64 bh, .int .i64 bi, .int .i64 bj, .int .i64 bk, .int .i64 bl] 25 (0, 0)) (nb ba)) (g := bG) (o := .cells #[.int .i64 bq, .int .i64 br, .int .i64 bs, .int .i64 bt, .int .i64 bu] 25 (0, 0)) (nb bc)) (g := bH) (o := .cells #[.int .i64 bB, .int .i64 bC, .int .i64 bD, .int .i64 bE, .int .i64 bF] 25 (0, 0)) (nb bd)) (bsz HB)); replace bQ := Aside0.mk (Kd.R_elder' (nRo bQ) (Kd.R_base bm) hb); replace ba := nblk ba hb; replace bc := nblk bc hb; replace bd := nblk bd hb; replace HB := nbs HB hb; (try clear hb); (try clear bm)))
                go_ret
                exact ⟨er_, nbe HB⟩
             case rest =>
              clear gt; try clear c1
              try clear c2
              try clear p2
              try clear c3
              try clear c4
              try clear c5
              try clear c6
              try clear c7
              try clear c8
              try clear c9
              try clear c10
              try clear c11
              try clear c12
              try clear c12b0
              try clear c12b1
              try clear c13
              try clear c14
              try clear c16
              try clear c20
              try clear c22
              try clear c22b0
              try clear c22b1
              try clear c24
              try clear c25
              try clear c25b0
              try clear c28
              try clear c33
              try clear c38
              try clear c47
              try clear c51
              try clear c52
              try clear c54
              try clear c54b0
              try clear c54b1
              try clear c54b2
              try clear c55
              try clear c57
              try clear c58
              try clear c61
              try clear c69
              try clear c69b0
              try clear c69b1
              try clear c74
              try clear c76
              try clear c76b0
              try clear c76b1
              try clear c78
              try clear c80
              try clear dn
              try clear dp
              try clear dq
              try clear dr
              try clear ds
              try clear dy
              try clear dz
              try clear dA
              try clear dB
              try clear dC
              try clear dI
              try clear dJ
              try clear dK
              try clear dL
              try clear dM
              try clear dV
              try clear dW
              try clear dX
              try clear dY
              try clear dZ
              try clear d5
              try clear d6
              try clear d7
              try clear d8
              try clear d9
              try clear ef
              try clear eg
              try clear eh
              try clear ei
              try clear ej
              try clear ep
              try clear er
              try clear es
              try clear et
              try clear eu
              try clear eA
              try clear eB
              try clear eC
              try clear eD
              try clear eE
              try clear eU
              try clear eV
              try clear eW
              try clear eX
              try clear eY
              try clear e5
              try clear e6
              try clear e7
              try clear e8
              try clear e9
              try clear gg
              try clear gh
              try clear gi
              try clear gj
              try clear gl
              try clear dd
              try clear de
              try clear df
              try clear dg
              try clear dh
              try clear dt
              try clear du
              try clear dv
              try clear dw
              try clear dx
              try clear dD
              try clear dE
              try clear dF
              try clear dG
              try clear dH
              try clear dN
              try clear dO
              try clear dP
              try clear dQ
              try clear dR
              try clear d0
              try clear d1
              try clear d2
              try clear d3
              try clear d4
              try clear ea
              try clear eb
              try clear ec
              try clear ed
              try clear ee
              try clear ek
              try clear el
              try clear em
              try clear en
              try clear eo
              try clear ev
              try clear ew
              try clear ex
              try clear ey
              try clear ez
              try clear eF
              try clear eG
              try clear eH
              try clear eI
              try clear eJ
              try clear eZ
              try clear e0
              try clear e1
              try clear e2
              try clear e3
              try clear ga
              try clear gb
              try clear gc
              try clear gd
              try clear gf
              try clear gm
              try clear gn
              try clear gp
              try clear gq
              try clear gr
              try clear di
              try clear dj
              try clear dk
              try clear dl
              try clear dm
              try clear p2
              obtain ⟨kq, HA, hX, ba, bc, bd, HB⟩ := hcut
              cases kq with
              | zero => exact absurd HA.out (by simp [laws_FnTexts.j4])
              | succ kj74 =>
               have H := HA.out; clear HA; simp only [laws_FnTexts.j4] at H; replace H := Option.bind_eq_some_iff.mp H; obtain ⟨bo, A860, H⟩ := H; replace H : ((impl_CodeRead.f kj74 bo).bind fun bV => ((spec_CodeRead.f kj74 bo).bind fun dc => (if (bV.2 == dc.2) = true then (if bV.2 = true then ((impl_CodeText.f kj74 bV.1).bind fun bS => (some (bS.toList == bo.toList))) else (if (bV.1.length : Int) = 0 then (some true) else (some false))) else (some false)))) = some r := H; have A86 := Aside0.mk A860; clear A860; replace H := Option.bind_eq_some_iff.mp H; obtain ⟨⟨bI, bM⟩, A870, H⟩ := H; replace H : ((spec_CodeRead.f kj74 bo).bind fun dc => (if (bM == dc.2) = true then (if bM = true then ((impl_CodeText.f kj74 bI).bind fun bS => (some (bS.toList == bo.toList))) else (if (bI.length : Int) = 0 then (some true) else (some false))) else (some false))) = some r := H; have A87 := Aside0.mk A870; clear A870; replace H := Option.bind_eq_some_iff.mp H; obtain ⟨⟨eQ, bR⟩, A880, H⟩ := H; replace H : (if (bM == bR) = true then (if bM = true then ((impl_CodeText.f kj74 bI).bind fun bS => (some (bS.toList == bo.toList))) else (if (bI.length : Int) = 0 then (some true) else (some false))) else (some false)) = some r := H; have A88 := Aside0.mk A880; clear A880
               by_cases c89 : (bM == bR) = true
               ·rw [if_pos c89] at H
                have c89b0 : (bM == bR) = true := c89; (try (have c89b1 : decide (bM = bR) = true := by simpa using c89)); (try (have c89b2 : (bM == bR) = true := by simpa using c89)); clear c89
                by_cases c90 : bM = true
                ·subst c90
                 have H1 : ((impl_CodeText.f kj74 bI).bind fun bS => (some (bS.toList == bo.toList))) = some r := by rw [if_pos rfl] at H; exact H
                 clear H; have H := H1; clear H1; replace H := Option.bind_eq_some_iff.mp H; obtain ⟨bS, A910, H⟩ := H; replace H : (some (bS.toList == bo.toList)) = some r := H; have A91 := Aside0.mk A910; clear A910; obtain rfl := Option.some.inj H
                 go_wp2_with (first | ((with_reducible refine gate_callee (f := 18) rfl ?_); refine goesM (some 107) rfl rfl Tryz.func18 (by kernel_rfl) rfl #[.slice A0 l0.length c0] rfl ?_; (with_reducible refine (spec_DrawCodeRead.calls kj74 _ _ l0 bo _ ?side1 ?side2 A86.out).mono ?_); (case side1 => exact nCb bW HB); (case side2 => exact bX.out); rintro e hY ⟨rfl, hb⟩; refine ⟨_, rfl, ?_⟩; replace ba := nblk ba hb; replace bc := nblk bc hb; replace bd := nblk bd hb; replace HB := nbs HB hb; (try clear hb)) | ((with_reducible refine gate_callee (f := 16) rfl ?_); refine goesM (some 110) rfl rfl Tryz.func16 (by kernel_rfl) rfl #[.string bo] rfl ?_; (with_reducible refine (impl_CodeRead.calls kj74 bo bI true _ A87.out ?hT).mono ?_); (case hT => exact nT HT HB); rintro e hZ ⟨gu, rfl, bm, hb⟩; refine ⟨_, rfl, ?_⟩; have bp := Aside0.mk (Kd.R_lower (Kd.R_newB (Kd.R_newB (Kd.R_newB bm (g := bw) (o := .cells #[.int .i64 bh, .int .i64 bi, .int .i64 bj, .int .i64 bk, .int .i64 bl] 25 (0, 0)) (nb ba)) (g := bG) (o := .cells #[.int .i64 bq, .int .i64 br, .int .i64 bs, .int .i64 bt, .int .i64 bu] 25 (0, 0)) (nb bc)) (g := bH) (o := .cells #[.int .i64 bB, .int .i64 bC, .int .i64 bD, .int .i64 bE, .int .i64 bF] 25 (0, 0)) (nb bd)) (bsz HB)); replace ba := nblk ba hb; replace bc := nblk bc hb; replace bd := nblk bd hb; replace HB := nbs HB hb; (try clear hb); (try clear bm)) | ((with_reducible refine gate_callee (f := 19) rfl ?_); refine goesM (some 115) rfl rfl Tryz.func19 (by kernel_rfl) rfl #[.string bo] rfl ?_; (with_reducible refine (spec_CodeRead.calls kj74 bo eQ bR _ A88.out).mono ?_); rintro e h0 ⟨gv, rfl, bm, hb⟩; refine ⟨_, rfl, ?_⟩; have dT := Aside0.mk (Kd.R_lower (Kd.R_newB (Kd.R_newB (Kd.R_newB (Kd.R_new' bm (Kd.R_lt (nRo bp))) (g := bw) (o := .cells #[.int .i64 bh, .int .i64 bi, .int .i64 bj, .int .i64 bk, .int .i64 bl] 25 (0, 0)) (nb ba)) (g := bG) (o := .cells #[.int .i64 bq, .int .i64 br, .int .i64 bs, .int .i64 bt, .int .i64 bu] 25 (0, 0)) (nb bc)) (g := bH) (o := .cells #[.int .i64 bB, .int .i64 bC, .int .i64 bD, .int .i64 bE, .int .i64 bF] 25 (0, 0)) (nb bd)) (bsz HB)); replace bp := Aside0.mk (Kd.R_elder' (nRo bp) (Kd.R_base bm) hb); replace ba := nblk ba hb; replace bc := nblk bc hb; replace bd := nblk bd hb; replace HB := nbs HB hb; (try clear hb); (try clear bm); obtain ⟨h2, h3, gX⟩ := Kd.R_slice bp.out; subst gX) | (go_at_call 13; (with_reducible refine (impl_CodeText.calls kj74 _ _ bI bS _ ?side1 ?side2 A91.out ?hT).mono ?_); (case hT => exact nT HT HB); (case side1 => repeat (first | exact (Kd.R_reads' bp.out).2.2 | (with_reducible refine Kd.C_alloc ?_ _) | (with_reducible refine Kd.C_drewN ?_ _) | (with_reducible refine Kd.C_drew ?_))); (case side2 => exact (Kd.R_reads' bp.out).2.1); rintro e h4 ⟨rfl, hb⟩; replace bp := nR bp hb; replace dT := nR dT hb; replace ba := nblk ba hb; replace bc := nblk bc hb; replace bd := nblk bd hb; replace HB := nbs HB hb; (try clear hb)))
                 go_ret
                 exact ⟨er_, nbe HB⟩
                ·replace c90 := Bool.eq_false_iff.mpr c90
                 subst c90; have H1 : (if (bI.length : Int) = 0 then (some true) else (some false)) = some r := by rw [if_neg (show ¬ (false = true) by decide)] at H; exact H
                 clear H; have H := H1; clear H1
                 by_cases c97 : (bI.length : Int) = 0
                 ·rw [if_pos c97] at H
                  have c97b0 : ((bI.length : Int) == 0) = true := beq_iff_eq.mpr c97; have c97b1 : ((bI.length : Int) != 0) = false := bne_eq_false_iff_eq.mpr c97; clear c97; obtain rfl := Option.some.inj H
                  go_wp2_with (first | ((with_reducible refine gate_callee (f := 18) rfl ?_); refine goesM (some 107) rfl rfl Tryz.func18 (by kernel_rfl) rfl #[.slice A0 l0.length c0] rfl ?_; (with_reducible refine (spec_DrawCodeRead.calls kj74 _ _ l0 bo _ ?side1 ?side2 A86.out).mono ?_); (case side1 => exact nCb bW HB); (case side2 => exact bX.out); rintro e h5 ⟨rfl, hb⟩; refine ⟨_, rfl, ?_⟩; replace ba := nblk ba hb; replace bc := nblk bc hb; replace bd := nblk bd hb; replace HB := nbs HB hb; (try clear hb)) | ((with_reducible refine gate_callee (f := 16) rfl ?_); refine goesM (some 110) rfl rfl Tryz.func16 (by kernel_rfl) rfl #[.string bo] rfl ?_; (with_reducible refine (impl_CodeRead.calls kj74 bo bI false _ A87.out ?hT).mono ?_); (case hT => exact nT HT HB); rintro e h6 ⟨gu, rfl, bm, hb⟩; refine ⟨_, rfl, ?_⟩; have bp := Aside0.mk (Kd.R_lower (Kd.R_newB (Kd.R_newB (Kd.R_newB bm (g := bw) (o := .cells #[.int .i64 bh, .int .i64 bi, .int .i64 bj, .int .i64 bk, .int .i64 bl] 25 (0, 0)) (nb ba)) (g := bG) (o := .cells #[.int .i64 bq, .int .i64 br, .int .i64 bs, .int .i64 bt, .int .i64 bu] 25 (0, 0)) (nb bc)) (g := bH) (o := .cells #[.int .i64 bB, .int .i64 bC, .int .i64 bD, .int .i64 bE, .int .i64 bF] 25 (0, 0)) (nb bd)) (bsz HB)); replace ba := nblk ba hb; replace bc := nblk bc hb; replace bd := nblk bd hb; replace HB := nbs HB hb; (try clear hb); (try clear bm)) | ((with_reducible refine gate_callee (f := 19) rfl ?_); refine goesM (some 115) rfl rfl Tryz.func19 (by kernel_rfl) rfl #[.string bo] rfl ?_; (with_reducible refine (spec_CodeRead.calls kj74 bo eQ bR _ A88.out).mono ?_); rintro e h7 ⟨gv, rfl, bm, hb⟩; refine ⟨_, rfl, ?_⟩; have dT := Aside0.mk (Kd.R_lower (Kd.R_newB (Kd.R_newB (Kd.R_newB (Kd.R_new' bm (Kd.R_lt (nRo bp))) (g := bw) (o := .cells #[.int .i64 bh, .int .i64 bi, .int .i64 bj, .int .i64 bk, .int .i64 bl] 25 (0, 0)) (nb ba)) (g := bG) (o := .cells #[.int .i64 bq, .int .i64 br, .int .i64 bs, .int .i64 bt, .int .i64 bu] 25 (0, 0)) (nb bc)) (g := bH) (o := .cells #[.int .i64 bB, .int .i64 bC, .int .i64 bD, .int .i64 bE, .int .i64 bF] 25 (0, 0)) (nb bd)) (bsz HB)); replace bp := Aside0.mk (Kd.R_elder' (nRo bp) (Kd.R_base bm) hb); replace ba := nblk ba hb; replace bc := nblk bc hb; replace bd := nblk bd hb; replace HB := nbs HB hb; (try clear hb); (try clear bm); obtain ⟨h8, h9, gY⟩ := Kd.R_slice bp.out; subst gY))
                  go_ret
                  exact ⟨er_, nbe HB⟩
                 ·rw [if_neg c97] at H
                  have c97b0 : ((bI.length : Int) == 0) = false := beq_eq_false_iff_ne.mpr c97; have c97b1 : ((bI.length : Int) != 0) = true := bne_iff_ne.mpr c97; have c97b2 : ¬ (bI = []) := fun h_ => c97 (by rw [h_]; rfl)
                  obtain rfl := Option.some.inj H
                  go_wp2_with (first | ((with_reducible refine gate_callee (f := 18) rfl ?_); refine goesM (some 107) rfl rfl Tryz.func18 (by kernel_rfl) rfl #[.slice A0 l0.length c0] rfl ?_; (with_reducible refine (spec_DrawCodeRead.calls kj74 _ _ l0 bo _ ?side1 ?side2 A86.out).mono ?_); (case side1 => exact nCb bW HB); (case side2 => exact bX.out); rintro e ia ⟨rfl, hb⟩; refine ⟨_, rfl, ?_⟩; replace ba := nblk ba hb; replace bc := nblk bc hb; replace bd := nblk bd hb; replace HB := nbs HB hb; (try clear hb)) | ((with_reducible refine gate_callee (f := 16) rfl ?_); refine goesM (some 110) rfl rfl Tryz.func16 (by kernel_rfl) rfl #[.string bo] rfl ?_; (with_reducible refine (impl_CodeRead.calls kj74 bo bI false _ A87.out ?hT).mono ?_); (case hT => exact nT HT HB); rintro e ib ⟨gu, rfl, bm, hb⟩; refine ⟨_, rfl, ?_⟩; have bp := Aside0.mk (Kd.R_lower (Kd.R_newB (Kd.R_newB (Kd.R_newB bm (g := bw) (o := .cells #[.int .i64 bh, .int .i64 bi, .int .i64 bj, .int .i64 bk, .int .i64 bl] 25 (0, 0)) (nb ba)) (g := bG) (o := .cells #[.int .i64 bq, .int .i64 br, .int .i64 bs, .int .i64 bt, .int .i64 bu] 25 (0, 0)) (nb bc)) (g := bH) (o := .cells #[.int .i64 bB, .int .i64 bC, .int .i64 bD, .int .i64 bE, .int .i64 bF] 25 (0, 0)) (nb bd)) (bsz HB)); replace ba := nblk ba hb; replace bc := nblk bc hb; replace bd := nblk bd hb; replace HB := nbs HB hb; (try clear hb); (try clear bm)) | ((with_reducible refine gate_callee (f := 19) rfl ?_); refine goesM (some 115) rfl rfl Tryz.func19 (by kernel_rfl) rfl #[.string bo] rfl ?_; (with_reducible refine (spec_CodeRead.calls kj74 bo eQ bR _ A88.out).mono ?_); rintro e ic ⟨gv, rfl, bm, hb⟩; refine ⟨_, rfl, ?_⟩; have dT := Aside0.mk (Kd.R_lower (Kd.R_newB (Kd.R_newB (Kd.R_newB (Kd.R_new' bm (Kd.R_lt (nRo bp))) (g := bw) (o := .cells #[.int .i64 bh, .int .i64 bi, .int .i64 bj, .int .i64 bk, .int .i64 bl] 25 (0, 0)) (nb ba)) (g := bG) (o := .cells #[.int .i64 bq, .int .i64 br, .int .i64 bs, .int .i64 bt, .int .i64 bu] 25 (0, 0)) (nb bc)) (g := bH) (o := .cells #[.int .i64 bB, .int .i64 bC, .int .i64 bD, .int .i64 bE, .int .i64 bF] 25 (0, 0)) (nb bd)) (bsz HB)); replace bp := Aside0.mk (Kd.R_elder' (nRo bp) (Kd.R_base bm) hb); replace ba := nblk ba hb; replace bc := nblk bc hb; replace bd := nblk bd hb; replace HB := nbs HB hb; (try clear hb); (try clear bm); obtain ⟨ig, ih, gZ⟩ := Kd.R_slice bp.out; subst gZ))
                  go_ret
                  exact ⟨er_, nbe HB⟩
               ·rw [if_neg c89] at H
                have c89b0 : (bM == bR) = false := by simpa using c89
                (try (have c89b1 : decide (bM = bR) = false := by simpa using c89)); (try (have c89b2 : (bM == bR) = false := by simpa using c89)); (try (have c89b3 : ¬ (bM = bR) := by simpa using c89)); clear c89; obtain rfl := Option.some.inj H
                go_wp2_with (first | ((with_reducible refine gate_callee (f := 18) rfl ?_); refine goesM (some 107) rfl rfl Tryz.func18 (by kernel_rfl) rfl #[.slice A0 l0.length c0] rfl ?_; (with_reducible refine (spec_DrawCodeRead.calls kj74 _ _ l0 bo _ ?side1 ?side2 A86.out).mono ?_); (case side1 => exact nCb bW HB); (case side2 => exact bX.out); rintro e ii ⟨rfl, hb⟩; refine ⟨_, rfl, ?_⟩; replace ba := nblk ba hb; replace bc := nblk bc hb; replace bd := nblk bd hb; replace HB := nbs HB hb; (try clear hb)) | ((with_reducible refine gate_callee (f := 16) rfl ?_); refine goesM (some 110) rfl rfl Tryz.func16 (by kernel_rfl) rfl #[.string bo] rfl ?_; (with_reducible refine (impl_CodeRead.calls kj74 bo bI bM _ A87.out ?hT).mono ?_); (case hT => exact nT HT HB); rintro e ij ⟨gu, rfl, bm, hb⟩; refine ⟨_, rfl, ?_⟩; have bp := Aside0.mk (Kd.R_lower (Kd.R_newB (Kd.R_newB (Kd.R_newB bm (g := bw) (o := .cells #[.int .i64 bh, .int .i64 bi, .int .i64 bj, .int .i64 bk, .int .i64 bl] 25 (0, 0)) (nb ba)) (g := bG) (o := .cells #[.int .i64 bq, .int .i64 br, .int .i64 bs, .int .i64 bt, .int .i64 bu] 25 (0, 0)) (nb bc)) (g := bH) (o := .cells #[.int .i64 bB, .int .i64 bC, .int .i64 bD, .int .i64 bE, .int .i64 bF] 25 (0, 0)) (nb bd)) (bsz HB)); replace ba := nblk ba hb; replace bc := nblk bc hb; replace bd := nblk bd hb; replace HB := nbs HB hb; (try clear hb); (try clear bm)) | ((with_reducible refine gate_callee (f := 19) rfl ?_); refine goesM (some 115) rfl rfl Tryz.func19 (by kernel_rfl) rfl #[.string bo] rfl ?_; (with_reducible refine (spec_CodeRead.calls kj74 bo eQ bR _ A88.out).mono ?_); rintro e ik ⟨gv, rfl, bm, hb⟩; refine ⟨_, rfl, ?_⟩; have dT := Aside0.mk (Kd.R_lower (Kd.R_newB (Kd.R_newB (Kd.R_newB (Kd.R_new' bm (Kd.R_lt (nRo bp))) (g := bw) (o := .cells #[.int .i64 bh, .int .i64 bi, .int .i64 bj, .int .i64 bk, .int .i64 bl] 25 (0, 0)) (nb ba)) (g := bG) (o := .cells #[.int .i64 bq, .int .i64 br, .int .i64 bs, .int .i64 bt, .int .i64 bu] 25 (0, 0)) (nb bc)) (g := bH) (o := .cells #[.int .i64 bB, .int .i64 bC, .int .i64 bD, .int .i64 bE, .int .i64 bF] 25 (0, 0)) (nb bd)) (bsz HB)); replace bp := Aside0.mk (Kd.R_elder' (nRo bp) (Kd.R_base bm) hb); replace ba := nblk ba hb; replace bc := nblk bc hb; replace bd := nblk bd hb; replace HB := nbs HB hb; (try clear hb); (try clear bm)))
                go_ret
                exact ⟨er_, nbe HB⟩


end Go.Proofs.YtlmcikjjeidnfaaGreatDoor.PFnTexts
