/- In a truth each part is as Out says, and the car as Clean says, and there is a truth just if Least is at most Wrong: for every list of numbers of the size that Go can hold. -/
import Derived.Test.YtkkmfcdikkiodaaCStripTrue1
import Derived.Test.YtkkmfcdikkiodaaCStripTrue2
import Derived.Test.YtkkmfcdikkiodaaCStripTrue5
import Derived.Test.YtkkmfcdikkiodaaCStripTrue4
import Derived.SizedLaws
import Derived.ChangeSlices
import Derived.Test.YtkkmfcdikkiodaaRows
import Derived.WalkKit
import Derived.ProofKit
import Derived.OpenShut
import Derived.ShutString
import Derived.ChangeOld
import Derived.Below
namespace Go.Proofs.Ytkkmfcdikkiodaa.PC4
open Go.RowKit Go.Proofs.YtkkmfcdikkiodaaW.PrintWords Go.Proofs.YtkkmfcdikkiodaaW.PrintLast Go.Proofs.YtkkmfcdikkiodaaW.PrintMore
attribute [local go_sem] max2_int min2_int max_two min_two max_three min_three max_four min_four
set_option linter.unusedVariables false
set_option linter.unusedSimpArgs false
mutual
def swarflaw04_StripTrue.j0 : Nat → List Bool → List Int → Int → Bool → Int → List (S50) → Int → List (S61) → Int → List Int → Option (Bool)
  | 0, _, _, _, _, _, _, _, _, _, _ => none
  | k + 1, x5, x6, x10, x68, x548000, x564000, x564001, x564002, x564003, x564004 => if x68 = true then (some false) else (swarflaw04_StripTrue.l0 k x5 x6 x10 0 x548000 x564000 x564001 x564002 x564003 x564004)
def swarflaw04_StripTrue.l0 : Nat → List Bool → List Int → Int → Int → Int → List (S50) → Int → List (S61) → Int → List Int → Option (Bool)
  | 0, _, _, _, _, _, _, _, _, _, _ => none
  | k + 1, x5, x6, x10, x12, x548000, x564000, x564001, x564002, x564003, x564004 => if x12 < (x6.length : Int) then (if 0 ≤ x12 then (if x12 < (x5.length : Int) then ((swarflaw04_fits.f (rd x6 x12) (rdOf false x5 x12)).bind fun t576 => (if t576 = true then (swarflaw04_StripTrue.l0 k x5 x6 x10 (wrap64 (x12 + 1)) x548000 x564000 x564001 x564002 x564003 x564004) else (some false))) else (none)) else (none)) else ((swarfkit_CopyCar.f k x564000 x564001 x564002 x564003 x564004).bind fun bt577 => ((swarfkit_Feed_Below.f x548000 (wrap64 ((x564002.length : Int) + 1))).bind fun bt589 => ((strip_Out.f bt577.1 bt577.2.1 bt577.2.2.1 bt589.1 bt577.2.2.2.2).bind fun bt591 => (if bt589.1 < x10 then (if bt591.2 = 9 then ((swarflaw04_awake.f k).bind fun t595 => (some t595)) else (some false)) else (if bt591.2 = 0 then ((swarflaw04_awake.f k).bind fun t596 => (some t596)) else (some false))))))
end
def swarflaw04_StripTrue.f (k : Nat) (l0 : List Int) : Option (Bool) := (swarfkit_FeedOf.f l0).bind fun t546 => ((swarfkit_CarOf.f k t546 9 12).bind fun bt548 => ((strip_Out.f bt548.1 bt548.2.1 bt548.2.2.1 bt548.2.2.2.1 bt548.2.2.2.2.1).bind fun bt564 => ((strip_Clean.f bt548.1 bt548.2.1 bt548.2.2.1 bt548.2.2.2.1 bt548.2.2.2.2.1).bind fun bt568 => ((strip_Least.f bt548.1 bt548.2.1 bt548.2.2.1 bt548.2.2.2.1 bt548.2.2.2.2.1).bind fun bt570 => (if bt564.2 = 0 then (if bt568.2 = 0 then (if bt570.2 = 0 then (if bt570.1 > bt548.2.2.2.1 then (swarflaw04_StripTrue.j0 k bt548.2.2.2.2.2.1 bt564.1 bt570.1 true bt548.2.2.2.2.2.2 bt548.1 bt548.2.1 bt548.2.2.1 bt548.2.2.2.1 bt548.2.2.2.2.1) else (if (bt564.1.length : Int) = (bt548.2.2.2.2.2.1.length : Int) then ((swarfref04_IsClean.f k bt548.1 bt548.2.1 bt548.2.2.1 bt548.2.2.2.1 bt548.2.2.2.2.1 bt548.2.2.2.2.2.1).bind fun t572 => ((swarflaw04_fits.f bt568.1 t572).bind fun t573 => (swarflaw04_StripTrue.j0 k bt548.2.2.2.2.2.1 bt564.1 bt570.1 (!t573) bt548.2.2.2.2.2.2 bt548.1 bt548.2.1 bt548.2.2.1 bt548.2.2.2.1 bt548.2.2.2.2.1))) else (swarflaw04_StripTrue.j0 k bt548.2.2.2.2.2.1 bt564.1 bt570.1 true bt548.2.2.2.2.2.2 bt548.1 bt548.2.1 bt548.2.2.1 bt548.2.2.2.1 bt548.2.2.2.2.1))) else (swarflaw04_StripTrue.j0 k bt548.2.2.2.2.2.1 bt564.1 bt570.1 true bt548.2.2.2.2.2.2 bt548.1 bt548.2.1 bt548.2.2.1 bt548.2.2.2.1 bt548.2.2.2.2.1)) else (swarflaw04_StripTrue.j0 k bt548.2.2.2.2.2.1 bt564.1 bt570.1 true bt548.2.2.2.2.2.2 bt548.1 bt548.2.1 bt548.2.2.1 bt548.2.2.2.1 bt548.2.2.2.2.1)) else (swarflaw04_StripTrue.j0 k bt548.2.2.2.2.2.1 bt564.1 bt570.1 true bt548.2.2.2.2.2.2 bt548.1 bt548.2.1 bt548.2.2.1 bt548.2.2.2.1 bt548.2.2.2.2.1))))))
theorem swarflaw04_StripTrue.mono_l : ∀ k, (∀ y0 y1 y2 y3 y4 y5 y6 y7 y8 y9, LeO (swarflaw04_StripTrue.j0 k y0 y1 y2 y3 y4 y5 y6 y7 y8 y9) (swarflaw04_StripTrue.j0 (k + 1) y0 y1 y2 y3 y4 y5 y6 y7 y8 y9)) ∧ (∀ y0 y1 y2 y3 y4 y5 y6 y7 y8 y9, LeO (swarflaw04_StripTrue.l0 k y0 y1 y2 y3 y4 y5 y6 y7 y8 y9) (swarflaw04_StripTrue.l0 (k + 1) y0 y1 y2 y3 y4 y5 y6 y7 y8 y9))
  | 0 => ⟨fun _ _ _ _ _ _ _ _ _ _ r h => by simp [swarflaw04_StripTrue.j0] at h, fun _ _ _ _ _ _ _ _ _ _ r h => by simp [swarflaw04_StripTrue.l0] at h⟩
  | k + 1 => by
    obtain ⟨ih0, ih1⟩ := swarflaw04_StripTrue.mono_l k
    refine ⟨?_, ?_⟩
    · intro y0 y1 y2 y3 y4 y5 y6 y7 y8 y9
      unfold swarflaw04_StripTrue.j0
      repeat' first
      | (with_reducible exact ih0 _ _ _ _ _ _ _ _ _ _)
      | (with_reducible exact ih1 _ _ _ _ _ _ _ _ _ _)
      | (with_reducible exact swarfkit_CarOf.mono _ _ _ _)
      | (with_reducible exact swarfkit_CopyCar.mono _ _ _ _ _ _)
      | (with_reducible exact swarflaw04_awake.mono _)
      | (with_reducible exact swarfref04_IsClean.mono _ _ _ _ _ _ _)
      | (with_reducible exact LeO.refl _)
      | (with_reducible exact LeO.none _)
      | (with_reducible refine LeO.ite ?_ ?_)
      | (with_reducible refine LeO.bind ?_ (fun _ => ?_))
      | exact ih0 _ _ _ _ _ _ _ _ _ _
      | exact ih1 _ _ _ _ _ _ _ _ _ _
      | exact swarfkit_CarOf.mono _ _ _ _
      | exact swarfkit_CopyCar.mono _ _ _ _ _ _
      | exact swarflaw04_awake.mono _
      | exact swarfref04_IsClean.mono _ _ _ _ _ _ _
      | exact LeO.none _
      | refine LeO.ite ?_ ?_
      | refine LeO.bind ?_ (fun _ => ?_)
    · intro y0 y1 y2 y3 y4 y5 y6 y7 y8 y9
      unfold swarflaw04_StripTrue.l0
      repeat' first
      | (with_reducible exact ih0 _ _ _ _ _ _ _ _ _ _)
      | (with_reducible exact ih1 _ _ _ _ _ _ _ _ _ _)
      | (with_reducible exact swarfkit_CarOf.mono _ _ _ _)
      | (with_reducible exact swarfkit_CopyCar.mono _ _ _ _ _ _)
      | (with_reducible exact swarflaw04_awake.mono _)
      | (with_reducible exact swarfref04_IsClean.mono _ _ _ _ _ _ _)
      | (with_reducible exact LeO.refl _)
      | (with_reducible exact LeO.none _)
      | (with_reducible refine LeO.ite ?_ ?_)
      | (with_reducible refine LeO.bind ?_ (fun _ => ?_))
      | exact ih0 _ _ _ _ _ _ _ _ _ _
      | exact ih1 _ _ _ _ _ _ _ _ _ _
      | exact swarfkit_CarOf.mono _ _ _ _
      | exact swarfkit_CopyCar.mono _ _ _ _ _ _
      | exact swarflaw04_awake.mono _
      | exact swarfref04_IsClean.mono _ _ _ _ _ _ _
      | exact LeO.none _
      | refine LeO.ite ?_ ?_
      | refine LeO.bind ?_ (fun _ => ?_)
theorem swarflaw04_StripTrue.mono : ∀ a0 k, LeO (swarflaw04_StripTrue.f k a0) (swarflaw04_StripTrue.f (k + 1) a0) := by
  intro a0 k
  obtain ⟨ih0, ih1⟩ := swarflaw04_StripTrue.mono_l k
  unfold swarflaw04_StripTrue.f
  repeat' first
      | (with_reducible exact ih0 _ _ _ _ _ _ _ _ _ _)
      | (with_reducible exact ih1 _ _ _ _ _ _ _ _ _ _)
      | (with_reducible exact swarfkit_CarOf.mono _ _ _ _)
      | (with_reducible exact swarfkit_CopyCar.mono _ _ _ _ _ _)
      | (with_reducible exact swarflaw04_awake.mono _)
      | (with_reducible exact swarfref04_IsClean.mono _ _ _ _ _ _ _)
      | (with_reducible exact LeO.refl _)
      | (with_reducible exact LeO.none _)
      | (with_reducible refine LeO.ite ?_ ?_)
      | (with_reducible refine LeO.bind ?_ (fun _ => ?_))
      | exact ih0 _ _ _ _ _ _ _ _ _ _
      | exact ih1 _ _ _ _ _ _ _ _ _ _
      | exact swarfkit_CarOf.mono _ _ _ _
      | exact swarfkit_CopyCar.mono _ _ _ _ _ _
      | exact swarflaw04_awake.mono _
      | exact swarfref04_IsClean.mono _ _ _ _ _ _ _
      | exact LeO.none _
      | refine LeO.ite ?_ ?_
      | refine LeO.bind ?_ (fun _ => ?_)
set_option maxHeartbeats 8000000 in
set_option maxRecDepth 100000 in
theorem swarflaw04_StripTrue.calls (k : Nat) (A0 : Option Addr) (c0 : Nat) (l0 : List Int) (r : Bool) (hrt : Aside0 (r = true)) (w : World) (hr0 : Kd.C (Kd.int .i64) w A0 l0.length l0) (hc0 : l0.length ≤ c0) (h : swarflaw04_StripTrue.f k l0 = some r) :
    Calls Try.prog 9 #[.slice A0 l0.length c0] w fun e w' => e = .returned (.bool r) ∧ Below w.heap.size w w' := by
  have hu26 := Try.underlying26
  have HR0 := Aside0.mk hr0
  have HC0 := Aside0.mk hc0
  clear hr0 hc0
  have HB := Aside0.mk (Below.refl w.heap.size w)
  have H : ((swarfkit_FeedOf.f l0).bind fun t546 => ((swarfkit_CarOf.f k t546 9 12).bind fun bt548 => ((strip_Out.f bt548.1 bt548.2.1 bt548.2.2.1 bt548.2.2.2.1 bt548.2.2.2.2.1).bind fun bt564 => ((strip_Clean.f bt548.1 bt548.2.1 bt548.2.2.1 bt548.2.2.2.1 bt548.2.2.2.2.1).bind fun bt568 => ((strip_Least.f bt548.1 bt548.2.1 bt548.2.2.1 bt548.2.2.2.1 bt548.2.2.2.2.1).bind fun bt570 => (if bt564.2 = 0 then (if bt568.2 = 0 then (if bt570.2 = 0 then (if bt570.1 > bt548.2.2.2.1 then (swarflaw04_StripTrue.j0 k bt548.2.2.2.2.2.1 bt564.1 bt570.1 true bt548.2.2.2.2.2.2 bt548.1 bt548.2.1 bt548.2.2.1 bt548.2.2.2.1 bt548.2.2.2.2.1) else (if (bt564.1.length : Int) = (bt548.2.2.2.2.2.1.length : Int) then ((swarfref04_IsClean.f k bt548.1 bt548.2.1 bt548.2.2.1 bt548.2.2.2.1 bt548.2.2.2.2.1 bt548.2.2.2.2.2.1).bind fun t572 => ((swarflaw04_fits.f bt568.1 t572).bind fun t573 => (swarflaw04_StripTrue.j0 k bt548.2.2.2.2.2.1 bt564.1 bt570.1 (!t573) bt548.2.2.2.2.2.2 bt548.1 bt548.2.1 bt548.2.2.1 bt548.2.2.2.1 bt548.2.2.2.2.1))) else (swarflaw04_StripTrue.j0 k bt548.2.2.2.2.2.1 bt564.1 bt570.1 true bt548.2.2.2.2.2.2 bt548.1 bt548.2.1 bt548.2.2.1 bt548.2.2.2.1 bt548.2.2.2.2.1))) else (swarflaw04_StripTrue.j0 k bt548.2.2.2.2.2.1 bt564.1 bt570.1 true bt548.2.2.2.2.2.2 bt548.1 bt548.2.1 bt548.2.2.1 bt548.2.2.2.1 bt548.2.2.2.2.1)) else (swarflaw04_StripTrue.j0 k bt548.2.2.2.2.2.1 bt564.1 bt570.1 true bt548.2.2.2.2.2.2 bt548.1 bt548.2.1 bt548.2.2.1 bt548.2.2.2.1 bt548.2.2.2.2.1)) else (swarflaw04_StripTrue.j0 k bt548.2.2.2.2.2.1 bt564.1 bt570.1 true bt548.2.2.2.2.2.2 bt548.1 bt548.2.1 bt548.2.2.1 bt548.2.2.2.1 bt548.2.2.2.2.1))))))) = some r := h
  clear h
  replace H := Option.bind_eq_some_iff.mp H
  obtain ⟨t546, A20, H⟩ := H
  replace H : ((swarfkit_CarOf.f k t546 9 12).bind fun bt548 => ((strip_Out.f bt548.1 bt548.2.1 bt548.2.2.1 bt548.2.2.2.1 bt548.2.2.2.2.1).bind fun bt564 => ((strip_Clean.f bt548.1 bt548.2.1 bt548.2.2.1 bt548.2.2.2.1 bt548.2.2.2.2.1).bind fun bt568 => ((strip_Least.f bt548.1 bt548.2.1 bt548.2.2.1 bt548.2.2.2.1 bt548.2.2.2.2.1).bind fun bt570 => (if bt564.2 = 0 then (if bt568.2 = 0 then (if bt570.2 = 0 then (if bt570.1 > bt548.2.2.2.1 then (swarflaw04_StripTrue.j0 k bt548.2.2.2.2.2.1 bt564.1 bt570.1 true bt548.2.2.2.2.2.2 bt548.1 bt548.2.1 bt548.2.2.1 bt548.2.2.2.1 bt548.2.2.2.2.1) else (if (bt564.1.length : Int) = (bt548.2.2.2.2.2.1.length : Int) then ((swarfref04_IsClean.f k bt548.1 bt548.2.1 bt548.2.2.1 bt548.2.2.2.1 bt548.2.2.2.2.1 bt548.2.2.2.2.2.1).bind fun t572 => ((swarflaw04_fits.f bt568.1 t572).bind fun t573 => (swarflaw04_StripTrue.j0 k bt548.2.2.2.2.2.1 bt564.1 bt570.1 (!t573) bt548.2.2.2.2.2.2 bt548.1 bt548.2.1 bt548.2.2.1 bt548.2.2.2.1 bt548.2.2.2.2.1))) else (swarflaw04_StripTrue.j0 k bt548.2.2.2.2.2.1 bt564.1 bt570.1 true bt548.2.2.2.2.2.2 bt548.1 bt548.2.1 bt548.2.2.1 bt548.2.2.2.1 bt548.2.2.2.2.1))) else (swarflaw04_StripTrue.j0 k bt548.2.2.2.2.2.1 bt564.1 bt570.1 true bt548.2.2.2.2.2.2 bt548.1 bt548.2.1 bt548.2.2.1 bt548.2.2.2.1 bt548.2.2.2.2.1)) else (swarflaw04_StripTrue.j0 k bt548.2.2.2.2.2.1 bt564.1 bt570.1 true bt548.2.2.2.2.2.2 bt548.1 bt548.2.1 bt548.2.2.1 bt548.2.2.2.1 bt548.2.2.2.2.1)) else (swarflaw04_StripTrue.j0 k bt548.2.2.2.2.2.1 bt564.1 bt570.1 true bt548.2.2.2.2.2.2 bt548.1 bt548.2.1 bt548.2.2.1 bt548.2.2.2.1 bt548.2.2.2.2.1)))))) = some r := H
  have A2 := Aside0.mk A20
  clear A20
  replace H := Option.bind_eq_some_iff.mp H
  obtain ⟨⟨t548, t551, t552, t555, t556, t559, t562⟩, A30, H⟩ := H
  replace H : ((strip_Out.f t548 t551 t552 t555 t556).bind fun bt564 => ((strip_Clean.f t548 t551 t552 t555 t556).bind fun bt568 => ((strip_Least.f t548 t551 t552 t555 t556).bind fun bt570 => (if bt564.2 = 0 then (if bt568.2 = 0 then (if bt570.2 = 0 then (if bt570.1 > t555 then (swarflaw04_StripTrue.j0 k t559 bt564.1 bt570.1 true t562 t548 t551 t552 t555 t556) else (if (bt564.1.length : Int) = (t559.length : Int) then ((swarfref04_IsClean.f k t548 t551 t552 t555 t556 t559).bind fun t572 => ((swarflaw04_fits.f bt568.1 t572).bind fun t573 => (swarflaw04_StripTrue.j0 k t559 bt564.1 bt570.1 (!t573) t562 t548 t551 t552 t555 t556))) else (swarflaw04_StripTrue.j0 k t559 bt564.1 bt570.1 true t562 t548 t551 t552 t555 t556))) else (swarflaw04_StripTrue.j0 k t559 bt564.1 bt570.1 true t562 t548 t551 t552 t555 t556)) else (swarflaw04_StripTrue.j0 k t559 bt564.1 bt570.1 true t562 t548 t551 t552 t555 t556)) else (swarflaw04_StripTrue.j0 k t559 bt564.1 bt570.1 true t562 t548 t551 t552 t555 t556))))) = some r := H
  have A3 := Aside0.mk A30
  clear A30
  replace H := Option.bind_eq_some_iff.mp H
  obtain ⟨⟨t564, t567⟩, A40, H⟩ := H
  replace H : ((strip_Clean.f t548 t551 t552 t555 t556).bind fun bt568 => ((strip_Least.f t548 t551 t552 t555 t556).bind fun bt570 => (if t567 = 0 then (if bt568.2 = 0 then (if bt570.2 = 0 then (if bt570.1 > t555 then (swarflaw04_StripTrue.j0 k t559 t564 bt570.1 true t562 t548 t551 t552 t555 t556) else (if (t564.length : Int) = (t559.length : Int) then ((swarfref04_IsClean.f k t548 t551 t552 t555 t556 t559).bind fun t572 => ((swarflaw04_fits.f bt568.1 t572).bind fun t573 => (swarflaw04_StripTrue.j0 k t559 t564 bt570.1 (!t573) t562 t548 t551 t552 t555 t556))) else (swarflaw04_StripTrue.j0 k t559 t564 bt570.1 true t562 t548 t551 t552 t555 t556))) else (swarflaw04_StripTrue.j0 k t559 t564 bt570.1 true t562 t548 t551 t552 t555 t556)) else (swarflaw04_StripTrue.j0 k t559 t564 bt570.1 true t562 t548 t551 t552 t555 t556)) else (swarflaw04_StripTrue.j0 k t559 t564 bt570.1 true t562 t548 t551 t552 t555 t556)))) = some r := H
  have A4 := Aside0.mk A40
  clear A40
  replace H := Option.bind_eq_some_iff.mp H
  obtain ⟨⟨t568, t569⟩, A50, H⟩ := H
  replace H : ((strip_Least.f t548 t551 t552 t555 t556).bind fun bt570 => (if t567 = 0 then (if t569 = 0 then (if bt570.2 = 0 then (if bt570.1 > t555 then (swarflaw04_StripTrue.j0 k t559 t564 bt570.1 true t562 t548 t551 t552 t555 t556) else (if (t564.length : Int) = (t559.length : Int) then ((swarfref04_IsClean.f k t548 t551 t552 t555 t556 t559).bind fun t572 => ((swarflaw04_fits.f t568 t572).bind fun t573 => (swarflaw04_StripTrue.j0 k t559 t564 bt570.1 (!t573) t562 t548 t551 t552 t555 t556))) else (swarflaw04_StripTrue.j0 k t559 t564 bt570.1 true t562 t548 t551 t552 t555 t556))) else (swarflaw04_StripTrue.j0 k t559 t564 bt570.1 true t562 t548 t551 t552 t555 t556)) else (swarflaw04_StripTrue.j0 k t559 t564 bt570.1 true t562 t548 t551 t552 t555 t556)) else (swarflaw04_StripTrue.j0 k t559 t564 bt570.1 true t562 t548 t551 t552 t555 t556))) = some r := H
  have A5 := Aside0.mk A50
  clear A50
  replace H := Option.bind_eq_some_iff.mp H
  obtain ⟨⟨t570, t571⟩, A60, H⟩ := H
  replace H : (if t567 = 0 then (if t569 = 0 then (if t571 = 0 then (if t570 > t555 then (swarflaw04_StripTrue.j0 k t559 t564 t570 true t562 t548 t551 t552 t555 t556) else (if (t564.length : Int) = (t559.length : Int) then ((swarfref04_IsClean.f k t548 t551 t552 t555 t556 t559).bind fun t572 => ((swarflaw04_fits.f t568 t572).bind fun t573 => (swarflaw04_StripTrue.j0 k t559 t564 t570 (!t573) t562 t548 t551 t552 t555 t556))) else (swarflaw04_StripTrue.j0 k t559 t564 t570 true t562 t548 t551 t552 t555 t556))) else (swarflaw04_StripTrue.j0 k t559 t564 t570 true t562 t548 t551 t552 t555 t556)) else (swarflaw04_StripTrue.j0 k t559 t564 t570 true t562 t548 t551 t552 t555 t556)) else (swarflaw04_StripTrue.j0 k t559 t564 t570 true t562 t548 t551 t552 t555 t556)) = some r := H
  have A6 := Aside0.mk A60
  clear A60
  have HC7 := Aside0.mk H
  clear H
  go_enter Try.func9, Try.ntmps9
  go_upto_region 6 with (first | (go_at_call 18; (with_reducible refine (swarfkit_FeedOf.calls _ _ l0 t546 w _ ?side1 ?side2 ?side3 A2.out).mono ?_); (case side1 => repeat (first | (with_reducible first | exact HB.out | apply below_alloc | apply pw_below_drewN | apply below_drew1) | exact HB.out)); (case side2 => exact HR0.out); (case side3 => exact HC0.out); rintro e w8 ⟨g547, rfl, hi, hb, hb2⟩; have n0_ := Aside0.mk (hb); have n1_ := Aside0.mk (hi); clear HB; have HB := n0_; have HI547 := n1_; clear n0_ n1_; (try clear hb); (try clear hb2); (try clear hk); (try clear hi)) | (go_at_call 17; (with_reducible refine (swarfkit_CarOf.calls k g547 t546 9 12 t548 t551 t552 t555 t556 t559 t562 w _ ?side1 ?side2 A3.out).mono ?_); (case side1 => repeat (first | (with_reducible first | exact HI547.out | apply IsS79.alloc | apply IsS79.drewN | apply IsS79.drew | apply IsS79.set_0) | exact HI547.out)); (case side2 => repeat (first | (with_reducible first | exact HB.out | apply below_alloc | apply pw_below_drewN | apply below_drew1 | refine below_set ?_ (IsS79.ge HI547.out)) | exact HB.out)); rintro e w9 ⟨v549, v553, v557, v560, rfl, ho0, ho1, ho2, ho3, hi, hb, hk⟩; have n0_ := Aside0.mk (Kd.S_lower ho0 (below_size (by repeat (first | (with_reducible first | exact HB.out | apply below_alloc | apply pw_below_drewN | apply below_drew1 | refine below_set ?_ (IsS79.ge HI547.out)) | exact HB.out)))); have n1_ := Aside0.mk (Kd.R_lower ho1 (below_size (by repeat (first | (with_reducible first | exact HB.out | apply below_alloc | apply pw_below_drewN | apply below_drew1 | refine below_set ?_ (IsS79.ge HI547.out)) | exact HB.out)))); have n2_ := Aside0.mk (Kd.R_lower ho2 (below_size (by repeat (first | (with_reducible first | exact HB.out | apply below_alloc | apply pw_below_drewN | apply below_drew1 | refine below_set ?_ (IsS79.ge HI547.out)) | exact HB.out)))); have n3_ := Aside0.mk (Kd.R_lower ho3 (below_size (by repeat (first | (with_reducible first | exact HB.out | apply below_alloc | apply pw_below_drewN | apply below_drew1 | refine below_set ?_ (IsS79.ge HI547.out)) | exact HB.out)))); have n4_ := Aside0.mk (hb); have n5_ := Aside0.mk (hi); clear HB; clear HI547; have HO550 := n0_; have HO554 := n1_; have HO558 := n2_; have HO561 := n3_; have HB := n4_; have HI547 := n5_; clear n0_ n1_ n2_ n3_ n4_ n5_; (try clear hb); (try clear hb2); (try clear hk); (try clear hi); (try clear ho0); (try clear ho1); (try clear ho2); (try clear ho3)) | ((with_reducible refine gate_dst (N := 4) rfl ?_); (try (refine gate_guard (by rfl) ?_; dsimp only)); refine box_event ?hg (N := 4) ?hd (cs := #[.slice none 0 0, .int .i64 0, .slice none 0 0, .int .i64 0, .slice none 0 0]) (t := 26) ?hr ?_; (case hd => rfl); (case hg => rfl); (case hr => first | (go_simp; done) | (go_simp; rfl)); intro gb563 hg w10 hbox hb; have n0_ := Aside0.mk (Kd.S_below (by (with_reducible repeat (first | apply Kd.S_alloc | apply Kd.S_drewN | apply Kd.S_drew)); exact HO550.out) hb); have n1_ := Aside0.mk (Kd.R_below (by (with_reducible repeat (first | apply Kd.R_alloc | apply Kd.R_drewN | apply Kd.R_drew)); exact HO554.out) hb); have n2_ := Aside0.mk (Kd.R_below (by (with_reducible repeat (first | apply Kd.R_alloc | apply Kd.R_drewN | apply Kd.R_drew)); exact HO558.out) hb); have n3_ := Aside0.mk (Kd.R_below (by (with_reducible repeat (first | apply Kd.R_alloc | apply Kd.R_drewN | apply Kd.R_drew)); exact HO561.out) hb); have n4_ := Aside0.mk (IsS79.below (by repeat (first | (with_reducible first | exact HI547.out | apply IsS79.alloc | apply IsS79.drewN | apply IsS79.drew | apply IsS79.set_0) | exact HI547.out)) hb); have n5_ := Aside0.mk (below_step (by repeat (first | (with_reducible first | exact HB.out | apply below_alloc | apply pw_below_drewN | apply below_drew1 | refine below_set ?_ (IsS79.ge HI547.out)) | exact HB.out)) hb); have n6_ := Aside0.mk (hbox); have n7_ := Aside0.mk ((by rw [hg]; exact (below_size (by repeat (first | (with_reducible first | exact HB.out | apply below_alloc | apply pw_below_drewN | apply below_drew1 | refine below_set ?_ (IsS79.ge HI547.out)) | exact HB.out))) : w.heap.size ≤ gb563)); have n8_ := Aside0.mk ((by rw [hg]; exact (below_size (by repeat (first | (with_reducible first | exact HB.out | apply below_alloc | apply pw_below_drewN | apply below_drew1 | refine below_set ?_ (IsS79.ge HI547.out)) | exact HB.out))) : w.heap.size ≤ gb563)); have n9_ := Aside0.mk ((by rw [hg]; exact Nat.ne_of_lt (IsS79.lt (show IsS79 w _ g547 t562 from by repeat (first | (with_reducible first | exact HI547.out | apply IsS79.alloc | apply IsS79.drewN | apply IsS79.drew | apply IsS79.set_0) | exact HI547.out))) : g547 ≠ gb563)); have n10_ := Aside0.mk ((by rw [hg]; exact Nat.ne_of_gt (IsS79.lt (show IsS79 w _ g547 t562 from by repeat (first | (with_reducible first | exact HI547.out | apply IsS79.alloc | apply IsS79.drewN | apply IsS79.drew | apply IsS79.set_0) | exact HI547.out))) : gb563 ≠ g547)); clear HO550; clear HO554; clear HO558; clear HO561; clear HI547; clear HB; have HO550 := n0_; have HO554 := n1_; have HO558 := n2_; have HO561 := n3_; have HI547 := n4_; have HB := n5_; have BK563 := n6_; have GW563 := n7_; have GE563 := n8_; have NB547_563 := n9_; have NB563_547 := n10_; clear n0_ n1_ n2_ n3_ n4_ n5_ n6_ n7_ n8_ n9_ n10_; clear hb hbox hg; obtain ⟨Ao11, co11, eo11⟩ := Kd.S_slice HO550.out; subst eo11; have hnb12 := NB563_547.out; have hnc12 := NB547_563.out; have hcz13_0 : w10.cell? ⟨gb563, 0, none⟩ = some (.slice none 0 0) := (blk_cell BK563.out 0).trans rfl; have hcz13_1 : w10.cell? ⟨gb563, 1, none⟩ = some (.int .i64 0) := (blk_cell BK563.out 1).trans rfl; have hcz13_2 : w10.cell? ⟨gb563, 2, none⟩ = some (.slice none 0 0) := (blk_cell BK563.out 2).trans rfl; have hcz13_3 : w10.cell? ⟨gb563, 3, none⟩ = some (.int .i64 0) := (blk_cell BK563.out 3).trans rfl; have hcz13_4 : w10.cell? ⟨gb563, 4, none⟩ = some (.slice none 0 0) := (blk_cell BK563.out 4).trans rfl; have hfz13_0 := blk_frozen BK563.out 0; have hfz13_1 := blk_frozen BK563.out 1; have hfz13_2 := blk_frozen BK563.out 2; have hfz13_3 := blk_frozen BK563.out 3; have hfz13_4 := blk_frozen BK563.out 4; obtain ⟨Ao14, co14, eo14⟩ := Kd.R_slice HO554.out; subst eo14; obtain ⟨Ao15, co15, eo15⟩ := Kd.R_slice HO558.out; subst eo15) | (go_at_call 26; (with_reducible refine (strip_Out.calls _ _ t548 t551 _ _ t552 t555 _ _ t556 t564 t567 _ ?side1 ?side2 ?side3 ?side4 ?side5 ?side6 A4.out).mono ?_); (case side1 => refine (Kd.S_reads' (e := 50) (base := w.heap.size) (ok := fun k_ => some k_ ≠ (.slice Ao15 t556.length co15 : Value).ownBlock) (n := t548.length) (c := co11) ?_).2.2; exact (by (with_reducible repeat (first | apply Kd.S_alloc | apply Kd.S_drewN | apply Kd.S_drew)); exact (Kd.S_mono (Kd.S_far (p := ⟨gb563, 4, none⟩) (Kd.S_far (p := ⟨gb563, 3, none⟩) (Kd.S_far (p := ⟨gb563, 2, none⟩) (Kd.S_far (p := ⟨gb563, 1, none⟩) (Kd.S_far (p := ⟨gb563, 0, none⟩) (Kd.S_types HO550.out BK563.out (by decide)) (fun _ hk => hk.2) (.slice Ao11 t548.length co11)) (fun _ hk => hk.2) (.int .i64 t551)) (fun _ hk => hk.2) (.slice Ao14 t552.length co14)) (fun _ hk => hk.2) (.int .i64 t555)) (fun _ hk => hk.2) (.slice Ao15 t556.length co15)) (fun _ h_ => h_.1)))); (case side2 => exact (Kd.S_reads' HO550.out).2.1); (case side3 => refine (Kd.R_reads' (e := 61) (base := w.heap.size) (ok := fun k_ => True) (n := t552.length) (c := co14) ?_).2.2; exact (by (with_reducible repeat (first | apply Kd.R_alloc | apply Kd.R_drewN | apply Kd.R_drew)); exact (Kd.R_mono (Kd.R_far (p := ⟨gb563, 4, none⟩) (Kd.R_far (p := ⟨gb563, 3, none⟩) (Kd.R_far (p := ⟨gb563, 2, none⟩) (Kd.R_far (p := ⟨gb563, 1, none⟩) (Kd.R_far (p := ⟨gb563, 0, none⟩) (Kd.R_types HO554.out BK563.out (by decide)) (fun _ hk => hk.2) (.slice Ao11 t548.length co11)) (fun _ hk => hk.2) (.int .i64 t551)) (fun _ hk => hk.2) (.slice Ao14 t552.length co14)) (fun _ hk => hk.2) (.int .i64 t555)) (fun _ hk => hk.2) (.slice Ao15 t556.length co15)) (fun _ h_ => h_.1)))); (case side4 => exact (Kd.R_reads' HO554.out).2.1); (case side5 => refine (Kd.R_reads' (e := 3) (base := w.heap.size) (ok := fun k_ => True) (n := t556.length) (c := co15) ?_).2.2; exact (by (with_reducible repeat (first | apply Kd.R_alloc | apply Kd.R_drewN | apply Kd.R_drew)); exact (Kd.R_mono (Kd.R_far (p := ⟨gb563, 4, none⟩) (Kd.R_far (p := ⟨gb563, 3, none⟩) (Kd.R_far (p := ⟨gb563, 2, none⟩) (Kd.R_far (p := ⟨gb563, 1, none⟩) (Kd.R_far (p := ⟨gb563, 0, none⟩) (Kd.R_types HO558.out BK563.out (by decide)) (fun _ hk => hk.2) (.slice Ao11 t548.length co11)) (fun _ hk => hk.2) (.int .i64 t551)) (fun _ hk => hk.2) (.slice Ao14 t552.length co14)) (fun _ hk => hk.2) (.int .i64 t555)) (fun _ hk => hk.2) (.slice Ao15 t556.length co15)) (fun _ h_ => h_.1)))); (case side6 => exact (Kd.R_reads' HO558.out).2.1); rintro e w16 ⟨v565, rfl, ho0, hb⟩; have n0_ := Aside0.mk (Kd.S_elder' (by (with_reducible repeat (first | apply Kd.S_alloc | apply Kd.S_drewN | apply Kd.S_drew)); exact (Kd.S_mono (Kd.S_far (p := ⟨gb563, 4, none⟩) (Kd.S_far (p := ⟨gb563, 3, none⟩) (Kd.S_far (p := ⟨gb563, 2, none⟩) (Kd.S_far (p := ⟨gb563, 1, none⟩) (Kd.S_far (p := ⟨gb563, 0, none⟩) (Kd.S_types HO550.out BK563.out (by decide)) (fun _ hk => hk.2) (.slice Ao11 t548.length co11)) (fun _ hk => hk.2) (.int .i64 t551)) (fun _ hk => hk.2) (.slice Ao14 t552.length co14)) (fun _ hk => hk.2) (.int .i64 t555)) (fun _ hk => hk.2) (.slice Ao15 t556.length co15)) (fun _ h_ => h_.1))) (Kd.R_base ho0) hb); have n1_ := Aside0.mk (Kd.R_below (by (with_reducible repeat (first | apply Kd.R_alloc | apply Kd.R_drewN | apply Kd.R_drew)); exact (Kd.R_mono (Kd.R_far (p := ⟨gb563, 4, none⟩) (Kd.R_far (p := ⟨gb563, 3, none⟩) (Kd.R_far (p := ⟨gb563, 2, none⟩) (Kd.R_far (p := ⟨gb563, 1, none⟩) (Kd.R_far (p := ⟨gb563, 0, none⟩) (Kd.R_types HO554.out BK563.out (by decide)) (fun _ hk => hk.2) (.slice Ao11 t548.length co11)) (fun _ hk => hk.2) (.int .i64 t551)) (fun _ hk => hk.2) (.slice Ao14 t552.length co14)) (fun _ hk => hk.2) (.int .i64 t555)) (fun _ hk => hk.2) (.slice Ao15 t556.length co15)) (fun _ h_ => h_.1))) hb); have n2_ := Aside0.mk (Kd.R_elder' (by (with_reducible repeat (first | apply Kd.R_alloc | apply Kd.R_drewN | apply Kd.R_drew)); exact (Kd.R_mono (Kd.R_far (p := ⟨gb563, 4, none⟩) (Kd.R_far (p := ⟨gb563, 3, none⟩) (Kd.R_far (p := ⟨gb563, 2, none⟩) (Kd.R_far (p := ⟨gb563, 1, none⟩) (Kd.R_far (p := ⟨gb563, 0, none⟩) (Kd.R_types HO558.out BK563.out (by decide)) (fun _ hk => hk.2) (.slice Ao11 t548.length co11)) (fun _ hk => hk.2) (.int .i64 t551)) (fun _ hk => hk.2) (.slice Ao14 t552.length co14)) (fun _ hk => hk.2) (.int .i64 t555)) (fun _ hk => hk.2) (.slice Ao15 t556.length co15)) (fun _ h_ => h_.1))) (Kd.R_base ho0) hb); have n3_ := Aside0.mk (Kd.R_below (by (with_reducible repeat (first | apply Kd.R_alloc | apply Kd.R_drewN | apply Kd.R_drew)); exact (Kd.R_mono (Kd.R_far (p := ⟨gb563, 4, none⟩) (Kd.R_far (p := ⟨gb563, 3, none⟩) (Kd.R_far (p := ⟨gb563, 2, none⟩) (Kd.R_far (p := ⟨gb563, 1, none⟩) (Kd.R_far (p := ⟨gb563, 0, none⟩) (Kd.R_types HO561.out BK563.out (by decide)) (fun _ hk => hk.2) (.slice Ao11 t548.length co11)) (fun _ hk => hk.2) (.int .i64 t551)) (fun _ hk => hk.2) (.slice Ao14 t552.length co14)) (fun _ hk => hk.2) (.int .i64 t555)) (fun _ hk => hk.2) (.slice Ao15 t556.length co15)) (fun _ h_ => h_.1))) hb); have n4_ := Aside0.mk (Kd.R_lower (Kd.R_new' ho0 (Kd.R_lt (by (with_reducible repeat (first | apply Kd.R_alloc | apply Kd.R_drewN | apply Kd.R_drew)); exact (Kd.R_mono (Kd.R_far (p := ⟨gb563, 4, none⟩) (Kd.R_far (p := ⟨gb563, 3, none⟩) (Kd.R_far (p := ⟨gb563, 2, none⟩) (Kd.R_far (p := ⟨gb563, 1, none⟩) (Kd.R_far (p := ⟨gb563, 0, none⟩) (Kd.R_types HO558.out BK563.out (by decide)) (fun _ hk => hk.2) (.slice Ao11 t548.length co11)) (fun _ hk => hk.2) (.int .i64 t551)) (fun _ hk => hk.2) (.slice Ao14 t552.length co14)) (fun _ hk => hk.2) (.int .i64 t555)) (fun _ hk => hk.2) (.slice Ao15 t556.length co15)) (fun _ h_ => h_.1))))) (below_size (by repeat (first | (with_reducible first | exact HB.out | apply below_alloc | apply pw_below_drewN | apply below_drew1 | refine below_set ?_ (IsS79.ge HI547.out) | refine below_set ?_ GE563.out) | exact HB.out)))); have n5_ := Aside0.mk (IsS79.below (show IsS79 w (((((w10.setCell ⟨gb563, 0, none⟩ (.slice Ao11 t548.length co11)).setCell ⟨gb563, 1, none⟩ (.int .i64 t551)).setCell ⟨gb563, 2, none⟩ (.slice Ao14 t552.length co14)).setCell ⟨gb563, 3, none⟩ (.int .i64 t555)).setCell ⟨gb563, 4, none⟩ (.slice Ao15 t556.length co15)) g547 t562 from by repeat (first | (with_reducible first | exact HI547.out | apply IsS79.alloc | apply IsS79.drewN | apply IsS79.drew | apply IsS79.set_0 | refine IsS79.far ?_ NB547_563.out _) | exact HI547.out)) hb); have n6_ := Aside0.mk (blk_below (g := gb563) (o := .cells #[.slice Ao11 t548.length co11, .int .i64 t551, .slice Ao14 t552.length co14, .int .i64 t555, .slice Ao15 t556.length co15] 26 (0, 0)) (by (with_reducible repeat (first | refine blk_drewN ?_ _ | refine blk_drew ?_ | refine blk_alloc ?_ _)); refine blk_put (cs := #[.slice Ao11 t548.length co11, .int .i64 t551, .slice Ao14 t552.length co14, .int .i64 t555, .slice none 0 0]) ?_ 4 _ rfl; (with_reducible repeat (first | refine blk_drewN ?_ _ | refine blk_drew ?_ | refine blk_alloc ?_ _)); refine blk_put (cs := #[.slice Ao11 t548.length co11, .int .i64 t551, .slice Ao14 t552.length co14, .int .i64 0, .slice none 0 0]) ?_ 3 _ rfl; (with_reducible repeat (first | refine blk_drewN ?_ _ | refine blk_drew ?_ | refine blk_alloc ?_ _)); refine blk_put (cs := #[.slice Ao11 t548.length co11, .int .i64 t551, .slice none 0 0, .int .i64 0, .slice none 0 0]) ?_ 2 _ rfl; (with_reducible repeat (first | refine blk_drewN ?_ _ | refine blk_drew ?_ | refine blk_alloc ?_ _)); refine blk_put (cs := #[.slice Ao11 t548.length co11, .int .i64 0, .slice none 0 0, .int .i64 0, .slice none 0 0]) ?_ 1 _ rfl; (with_reducible repeat (first | refine blk_drewN ?_ _ | refine blk_drew ?_ | refine blk_alloc ?_ _)); refine blk_put (cs := #[.slice none 0 0, .int .i64 0, .slice none 0 0, .int .i64 0, .slice none 0 0]) ?_ 0 _ rfl; (with_reducible repeat (first | refine blk_drewN ?_ _ | refine blk_drew ?_ | refine blk_alloc ?_ _)); exact BK563.out) hb); have n7_ := Aside0.mk (below_step (by repeat (first | (with_reducible first | exact HB.out | apply below_alloc | apply pw_below_drewN | apply below_drew1 | refine below_set ?_ (IsS79.ge HI547.out) | refine below_set ?_ GE563.out) | exact HB.out)) hb); clear HO550; clear HO554; clear HO558; clear HO561; clear HI547; clear BK563; clear HB; have HO550 := n0_; have HO554 := n1_; have HO558 := n2_; have HO561 := n3_; have HO566 := n4_; have HI547 := n5_; have BK563 := n6_; have HB := n7_; clear n0_ n1_ n2_ n3_ n4_ n5_ n6_ n7_; (try clear hb); (try clear hb2); (try clear hk); (try clear hi); (try clear ho0); have hcz17_0 : w16.cell? ⟨gb563, 0, none⟩ = some (.slice Ao11 t548.length co11) := (blk_cell BK563.out 0).trans rfl; have hcz17_1 : w16.cell? ⟨gb563, 1, none⟩ = some (.int .i64 t551) := (blk_cell BK563.out 1).trans rfl; have hcz17_2 : w16.cell? ⟨gb563, 2, none⟩ = some (.slice Ao14 t552.length co14) := (blk_cell BK563.out 2).trans rfl; have hcz17_3 : w16.cell? ⟨gb563, 3, none⟩ = some (.int .i64 t555) := (blk_cell BK563.out 3).trans rfl; have hcz17_4 : w16.cell? ⟨gb563, 4, none⟩ = some (.slice Ao15 t556.length co15) := (blk_cell BK563.out 4).trans rfl; have hfz17_0 := blk_frozen BK563.out 0; have hfz17_1 := blk_frozen BK563.out 1; have hfz17_2 := blk_frozen BK563.out 2; have hfz17_3 := blk_frozen BK563.out 3; have hfz17_4 := blk_frozen BK563.out 4) | (go_at_call 27; (with_reducible refine (strip_Clean.calls _ _ t548 t551 _ _ t552 t555 _ _ t556 t568 t569 _ ?side1 ?side2 ?side3 ?side4 ?side5 ?side6 A5.out).mono ?_); (case side1 => repeat (first | exact (Kd.S_reads' HO550.out).2.2 | (with_reducible refine Kd.C_alloc ?_ _) | (with_reducible refine Kd.C_drewN ?_ _) | (with_reducible refine Kd.C_drew ?_))); (case side2 => exact (Kd.S_reads' HO550.out).2.1); (case side3 => repeat (first | exact (Kd.R_reads' HO554.out).2.2 | (with_reducible refine Kd.C_alloc ?_ _) | (with_reducible refine Kd.C_drewN ?_ _) | (with_reducible refine Kd.C_drew ?_))); (case side4 => exact (Kd.R_reads' HO554.out).2.1); (case side5 => repeat (first | exact (Kd.R_reads' HO558.out).2.2 | (with_reducible refine Kd.C_alloc ?_ _) | (with_reducible refine Kd.C_drewN ?_ _) | (with_reducible refine Kd.C_drew ?_))); (case side6 => exact (Kd.R_reads' HO558.out).2.1); rintro e w18 ⟨rfl, hb⟩; have n0_ := Aside0.mk (Kd.S_below (by (with_reducible repeat (first | apply Kd.S_alloc | apply Kd.S_drewN | apply Kd.S_drew)); exact HO550.out) hb); have n1_ := Aside0.mk (Kd.R_below (by (with_reducible repeat (first | apply Kd.R_alloc | apply Kd.R_drewN | apply Kd.R_drew)); exact HO554.out) hb); have n2_ := Aside0.mk (Kd.R_below (by (with_reducible repeat (first | apply Kd.R_alloc | apply Kd.R_drewN | apply Kd.R_drew)); exact HO558.out) hb); have n3_ := Aside0.mk (Kd.R_below (by (with_reducible repeat (first | apply Kd.R_alloc | apply Kd.R_drewN | apply Kd.R_drew)); exact HO561.out) hb); have n4_ := Aside0.mk (Kd.R_below (by (with_reducible repeat (first | apply Kd.R_alloc | apply Kd.R_drewN | apply Kd.R_drew)); exact HO566.out) hb); have n5_ := Aside0.mk (IsS79.below (by repeat (first | (with_reducible first | exact HI547.out | apply IsS79.alloc | apply IsS79.drewN | apply IsS79.drew | apply IsS79.set_0 | refine IsS79.far ?_ NB547_563.out _) | exact HI547.out)) hb); have n6_ := Aside0.mk (blk_below (g := gb563) (o := .cells #[.slice Ao11 t548.length co11, .int .i64 t551, .slice Ao14 t552.length co14, .int .i64 t555, .slice Ao15 t556.length co15] 26 (0, 0)) (by (with_reducible repeat (first | refine blk_drewN ?_ _ | refine blk_drew ?_ | refine blk_alloc ?_ _)); exact BK563.out) hb); have n7_ := Aside0.mk (below_step (by repeat (first | (with_reducible first | exact HB.out | apply below_alloc | apply pw_below_drewN | apply below_drew1 | refine below_set ?_ (IsS79.ge HI547.out) | refine below_set ?_ GE563.out) | exact HB.out)) hb); clear HO550; clear HO554; clear HO558; clear HO561; clear HO566; clear HI547; clear BK563; clear HB; have HO550 := n0_; have HO554 := n1_; have HO558 := n2_; have HO561 := n3_; have HO566 := n4_; have HI547 := n5_; have BK563 := n6_; have HB := n7_; clear n0_ n1_ n2_ n3_ n4_ n5_ n6_ n7_; (try clear hb); (try clear hb2); (try clear hk); (try clear hi); have hcz19_0 : w18.cell? ⟨gb563, 0, none⟩ = some (.slice Ao11 t548.length co11) := (blk_cell BK563.out 0).trans rfl; have hcz19_1 : w18.cell? ⟨gb563, 1, none⟩ = some (.int .i64 t551) := (blk_cell BK563.out 1).trans rfl; have hcz19_2 : w18.cell? ⟨gb563, 2, none⟩ = some (.slice Ao14 t552.length co14) := (blk_cell BK563.out 2).trans rfl; have hcz19_3 : w18.cell? ⟨gb563, 3, none⟩ = some (.int .i64 t555) := (blk_cell BK563.out 3).trans rfl; have hcz19_4 : w18.cell? ⟨gb563, 4, none⟩ = some (.slice Ao15 t556.length co15) := (blk_cell BK563.out 4).trans rfl; have hfz19_0 := blk_frozen BK563.out 0; have hfz19_1 := blk_frozen BK563.out 1; have hfz19_2 := blk_frozen BK563.out 2; have hfz19_3 := blk_frozen BK563.out 3; have hfz19_4 := blk_frozen BK563.out 4) | (go_at_call 38; (with_reducible refine (strip_Least.calls _ _ t548 t551 _ _ t552 t555 _ _ t556 t570 t571 _ ?side1 ?side2 ?side3 ?side4 ?side5 ?side6 A6.out).mono ?_); (case side1 => repeat (first | exact (Kd.S_reads' HO550.out).2.2 | (with_reducible refine Kd.C_alloc ?_ _) | (with_reducible refine Kd.C_drewN ?_ _) | (with_reducible refine Kd.C_drew ?_))); (case side2 => exact (Kd.S_reads' HO550.out).2.1); (case side3 => repeat (first | exact (Kd.R_reads' HO554.out).2.2 | (with_reducible refine Kd.C_alloc ?_ _) | (with_reducible refine Kd.C_drewN ?_ _) | (with_reducible refine Kd.C_drew ?_))); (case side4 => exact (Kd.R_reads' HO554.out).2.1); (case side5 => repeat (first | exact (Kd.R_reads' HO558.out).2.2 | (with_reducible refine Kd.C_alloc ?_ _) | (with_reducible refine Kd.C_drewN ?_ _) | (with_reducible refine Kd.C_drew ?_))); (case side6 => exact (Kd.R_reads' HO558.out).2.1); rintro e w20 ⟨rfl, hb⟩; have n0_ := Aside0.mk (Kd.S_below (by (with_reducible repeat (first | apply Kd.S_alloc | apply Kd.S_drewN | apply Kd.S_drew)); exact HO550.out) hb); have n1_ := Aside0.mk (Kd.R_below (by (with_reducible repeat (first | apply Kd.R_alloc | apply Kd.R_drewN | apply Kd.R_drew)); exact HO554.out) hb); have n2_ := Aside0.mk (Kd.R_below (by (with_reducible repeat (first | apply Kd.R_alloc | apply Kd.R_drewN | apply Kd.R_drew)); exact HO558.out) hb); have n3_ := Aside0.mk (Kd.R_below (by (with_reducible repeat (first | apply Kd.R_alloc | apply Kd.R_drewN | apply Kd.R_drew)); exact HO561.out) hb); have n4_ := Aside0.mk (Kd.R_below (by (with_reducible repeat (first | apply Kd.R_alloc | apply Kd.R_drewN | apply Kd.R_drew)); exact HO566.out) hb); have n5_ := Aside0.mk (IsS79.below (by repeat (first | (with_reducible first | exact HI547.out | apply IsS79.alloc | apply IsS79.drewN | apply IsS79.drew | apply IsS79.set_0 | refine IsS79.far ?_ NB547_563.out _) | exact HI547.out)) hb); have n6_ := Aside0.mk (blk_below (g := gb563) (o := .cells #[.slice Ao11 t548.length co11, .int .i64 t551, .slice Ao14 t552.length co14, .int .i64 t555, .slice Ao15 t556.length co15] 26 (0, 0)) (by (with_reducible repeat (first | refine blk_drewN ?_ _ | refine blk_drew ?_ | refine blk_alloc ?_ _)); exact BK563.out) hb); have n7_ := Aside0.mk (below_step (by repeat (first | (with_reducible first | exact HB.out | apply below_alloc | apply pw_below_drewN | apply below_drew1 | refine below_set ?_ (IsS79.ge HI547.out) | refine below_set ?_ GE563.out) | exact HB.out)) hb); clear HO550; clear HO554; clear HO558; clear HO561; clear HO566; clear HI547; clear BK563; clear HB; have HO550 := n0_; have HO554 := n1_; have HO558 := n2_; have HO561 := n3_; have HO566 := n4_; have HI547 := n5_; have BK563 := n6_; have HB := n7_; clear n0_ n1_ n2_ n3_ n4_ n5_ n6_ n7_; (try clear hb); (try clear hb2); (try clear hk); (try clear hi)))
  (try simp only [Act.put, List.setIfInBounds_toArray, List.set_cons_zero, List.set_cons_succ])
  go_cut [68] (fun v68 wc => ∃ (kq : Nat) (x68_6 : Bool), v68 = .bool x68_6 ∧ Aside0 (swarflaw04_StripTrue.j0 kq t559 t564 t570 x68_6 t562 t548 t551 t552 t555 t556 = some r) ∧ Aside0 (kq ≤ k) ∧ Aside0 (Kd.R Kd.bool 4 wc w.heap.size (fun _ => True) v560 t559) ∧ Aside0 (Kd.R (Kd.int .i64) 3 wc w.heap.size (fun k_ => some k_ ≠ ((.slice Ao15 t556.length co15) : Value).ownBlock) v565 t564) ∧ Aside0 (Kd.S k50 50 wc w.heap.size (fun k_ => some k_ ≠ (v565 : Value).ownBlock ∧ some k_ ≠ ((.slice Ao15 t556.length co15) : Value).ownBlock) (.slice Ao11 t548.length co11) t548) ∧ Aside0 (Kd.R k61 61 wc w.heap.size (fun _ => True) (.slice Ao14 t552.length co14) t552) ∧ Aside0 (Kd.R (Kd.int .i64) 3 wc w.heap.size (fun k_ => some k_ ≠ (v565 : Value).ownBlock) (.slice Ao15 t556.length co15) t556) ∧ Aside0 (wc.heap[gb563]? = some (.cells #[(.slice Ao11 t548.length co11), .int .i64 t551, (.slice Ao14 t552.length co14), .int .i64 t555, (.slice Ao15 t556.length co15)] 26 (0, 0))) ∧ Aside0 (IsS79 w wc g547 t562) ∧ Aside0 (Below w.heap.size w wc))
  case first =>
    have H := HC7.out
    clear HC7
    by_cases c21 : t567 = 0
    · rw [if_pos c21] at H
      have c21b0 : (t567 == 0) = true := beq_iff_eq.mpr c21
      have c21b1 : (t567 != 0) = false := bne_eq_false_iff_eq.mpr c21
      clear c21
      (first | rw [c21b0] | (simp only [i64_w, i32_w]; rw [c21b0]) | skip)
      by_cases c22 : t569 = 0
      · rw [if_pos c22] at H
        have c22b0 : (t569 == 0) = true := beq_iff_eq.mpr c22
        have c22b1 : (t569 != 0) = false := bne_eq_false_iff_eq.mpr c22
        clear c22
        by_cases c23 : t571 = 0
        · rw [if_pos c23] at H
          have c23b0 : (t571 == 0) = true := beq_iff_eq.mpr c23
          have c23b1 : (t571 != 0) = false := bne_eq_false_iff_eq.mpr c23
          clear c23
          by_cases c24 : t570 > t555
          · rw [if_pos c24] at H
            have c24b0 : decide (t555 < t570) = true := decide_eq_true c24
            clear c24
            have H' := Aside0.mk H
            clear H
            have hnb25 := NB563_547.out
            have hnc25 := NB547_563.out
            have hcz26_0 : w20.cell? ⟨gb563, 0, none⟩ = some (.slice Ao11 t548.length co11) := (blk_cell BK563.out 0).trans rfl
            have hcz26_1 : w20.cell? ⟨gb563, 1, none⟩ = some (.int .i64 t551) := (blk_cell BK563.out 1).trans rfl
            have hcz26_2 : w20.cell? ⟨gb563, 2, none⟩ = some (.slice Ao14 t552.length co14) := (blk_cell BK563.out 2).trans rfl
            have hcz26_3 : w20.cell? ⟨gb563, 3, none⟩ = some (.int .i64 t555) := (blk_cell BK563.out 3).trans rfl
            have hcz26_4 : w20.cell? ⟨gb563, 4, none⟩ = some (.slice Ao15 t556.length co15) := (blk_cell BK563.out 4).trans rfl
            have hfz26_0 := blk_frozen BK563.out 0
            have hfz26_1 := blk_frozen BK563.out 1
            have hfz26_2 := blk_frozen BK563.out 2
            have hfz26_3 := blk_frozen BK563.out 3
            have hfz26_4 := blk_frozen BK563.out 4
            go_wp2
            go_meet
            case rel => exact ⟨_, (true), (by first | rfl | (simp; done) | (simp [*]; done)), H', ⟨by first | omega | exact Nat.le_refl _⟩, ⟨by (with_reducible repeat (first | apply Kd.R_alloc | apply Kd.R_drewN | apply Kd.R_drew)); exact HO561.out⟩, ⟨by (with_reducible repeat (first | apply Kd.R_alloc | apply Kd.R_drewN | apply Kd.R_drew)); exact Kd.R_mono HO566.out (fun _ hk => hk.2)⟩, ⟨by (with_reducible repeat (first | apply Kd.S_alloc | apply Kd.S_drewN | apply Kd.S_drew)); exact Kd.S_mono HO550.out (fun _ hk => ⟨hk.2, hk.1⟩)⟩, ⟨by (with_reducible repeat (first | apply Kd.R_alloc | apply Kd.R_drewN | apply Kd.R_drew)); exact HO554.out⟩, ⟨by (with_reducible repeat (first | apply Kd.R_alloc | apply Kd.R_drewN | apply Kd.R_drew)); exact Kd.R_mono HO558.out (fun _ hk => hk.2)⟩, ⟨by (with_reducible repeat (first | refine blk_drewN ?_ _ | refine blk_drew ?_ | refine blk_alloc ?_ _)); exact BK563.out⟩, ⟨by repeat (first | (with_reducible first | exact HI547.out | apply IsS79.alloc | apply IsS79.drewN | apply IsS79.drew | apply IsS79.set_0 | refine IsS79.far ?_ NB547_563.out _) | exact HI547.out)⟩, ⟨by repeat (first | (with_reducible first | exact HB.out | apply below_alloc | apply pw_below_drewN | apply below_drew1 | refine below_set ?_ (IsS79.ge HI547.out) | refine below_set ?_ GE563.out) | exact HB.out)⟩⟩
          · rw [if_neg c24] at H
            have c24b0 : decide (t555 < t570) = false := decide_eq_false c24
            clear c24
            by_cases c27 : (t564.length : Int) = (t559.length : Int)
            · rw [if_pos c27] at H
              have c27b0 : ((t564.length : Int) == (t559.length : Int)) = true := beq_iff_eq.mpr c27
              have c27b1 : ((t564.length : Int) != (t559.length : Int)) = false := bne_eq_false_iff_eq.mpr c27
              have c27b2 : (t564.length == t559.length) = true := by first | simpa using c27 | (simp at c27 ⊢; omega)
              clear c27
              replace H := Option.bind_eq_some_iff.mp H
              obtain ⟨t572, A280, H⟩ := H
              replace H : ((swarflaw04_fits.f t568 t572).bind fun t573 => (swarflaw04_StripTrue.j0 k t559 t564 t570 (!t573) t562 t548 t551 t552 t555 t556)) = some r := H
              have A28 := Aside0.mk A280
              clear A280
              replace H := Option.bind_eq_some_iff.mp H
              obtain ⟨t573, A290, H⟩ := H
              replace H : (swarflaw04_StripTrue.j0 k t559 t564 t570 (!t573) t562 t548 t551 t552 t555 t556) = some r := H
              have A29 := Aside0.mk A290
              clear A290
              have H' := Aside0.mk H
              clear H
              have hnb30 := NB563_547.out
              have hnc30 := NB547_563.out
              have hcz31_0 : w20.cell? ⟨gb563, 0, none⟩ = some (.slice Ao11 t548.length co11) := (blk_cell BK563.out 0).trans rfl
              have hcz31_1 : w20.cell? ⟨gb563, 1, none⟩ = some (.int .i64 t551) := (blk_cell BK563.out 1).trans rfl
              have hcz31_2 : w20.cell? ⟨gb563, 2, none⟩ = some (.slice Ao14 t552.length co14) := (blk_cell BK563.out 2).trans rfl
              have hcz31_3 : w20.cell? ⟨gb563, 3, none⟩ = some (.int .i64 t555) := (blk_cell BK563.out 3).trans rfl
              have hcz31_4 : w20.cell? ⟨gb563, 4, none⟩ = some (.slice Ao15 t556.length co15) := (blk_cell BK563.out 4).trans rfl
              have hfz31_0 := blk_frozen BK563.out 0
              have hfz31_1 := blk_frozen BK563.out 1
              have hfz31_2 := blk_frozen BK563.out 2
              have hfz31_3 := blk_frozen BK563.out 3
              have hfz31_4 := blk_frozen BK563.out 4
              obtain ⟨Ao32, co32, eo32⟩ := Kd.R_slice HO566.out
              subst eo32
              obtain ⟨Ao33, co33, eo33⟩ := Kd.R_slice HO561.out
              subst eo33
              go_wp2_with (first | (go_at_call 29; (with_reducible refine (swarfref04_IsClean.calls k _ _ t548 t551 _ _ t552 t555 _ _ t556 _ _ t559 t572 _ ?side1 ?side2 ?side3 ?side4 ?side5 ?side6 ?side7 ?side8 A28.out).mono ?_); (case side1 => repeat (first | exact (Kd.S_reads' HO550.out).2.2 | (with_reducible refine Kd.C_alloc ?_ _) | (with_reducible refine Kd.C_drewN ?_ _) | (with_reducible refine Kd.C_drew ?_))); (case side2 => exact (Kd.S_reads' HO550.out).2.1); (case side3 => repeat (first | exact (Kd.R_reads' HO554.out).2.2 | (with_reducible refine Kd.C_alloc ?_ _) | (with_reducible refine Kd.C_drewN ?_ _) | (with_reducible refine Kd.C_drew ?_))); (case side4 => exact (Kd.R_reads' HO554.out).2.1); (case side5 => repeat (first | exact (Kd.R_reads' HO558.out).2.2 | (with_reducible refine Kd.C_alloc ?_ _) | (with_reducible refine Kd.C_drewN ?_ _) | (with_reducible refine Kd.C_drew ?_))); (case side6 => exact (Kd.R_reads' HO558.out).2.1); (case side7 => repeat (first | exact (Kd.R_reads' HO561.out).2.2 | (with_reducible refine Kd.C_alloc ?_ _) | (with_reducible refine Kd.C_drewN ?_ _) | (with_reducible refine Kd.C_drew ?_))); (case side8 => exact (Kd.R_reads' HO561.out).2.1); rintro e w34 ⟨rfl, hb⟩; have n0_ := Aside0.mk (Kd.S_below (by (with_reducible repeat (first | apply Kd.S_alloc | apply Kd.S_drewN | apply Kd.S_drew)); exact HO550.out) hb); have n1_ := Aside0.mk (Kd.R_below (by (with_reducible repeat (first | apply Kd.R_alloc | apply Kd.R_drewN | apply Kd.R_drew)); exact HO554.out) hb); have n2_ := Aside0.mk (Kd.R_below (by (with_reducible repeat (first | apply Kd.R_alloc | apply Kd.R_drewN | apply Kd.R_drew)); exact HO558.out) hb); have n3_ := Aside0.mk (Kd.R_below (by (with_reducible repeat (first | apply Kd.R_alloc | apply Kd.R_drewN | apply Kd.R_drew)); exact HO561.out) hb); have n4_ := Aside0.mk (Kd.R_below (by (with_reducible repeat (first | apply Kd.R_alloc | apply Kd.R_drewN | apply Kd.R_drew)); exact HO566.out) hb); have n5_ := Aside0.mk (IsS79.below (by repeat (first | (with_reducible first | exact HI547.out | apply IsS79.alloc | apply IsS79.drewN | apply IsS79.drew | apply IsS79.set_0 | refine IsS79.far ?_ NB547_563.out _) | exact HI547.out)) hb); have n6_ := Aside0.mk (blk_below (g := gb563) (o := .cells #[.slice Ao11 t548.length co11, .int .i64 t551, .slice Ao14 t552.length co14, .int .i64 t555, .slice Ao15 t556.length co15] 26 (0, 0)) (by (with_reducible repeat (first | refine blk_drewN ?_ _ | refine blk_drew ?_ | refine blk_alloc ?_ _)); exact BK563.out) hb); have n7_ := Aside0.mk (below_step (by repeat (first | (with_reducible first | exact HB.out | apply below_alloc | apply pw_below_drewN | apply below_drew1 | refine below_set ?_ (IsS79.ge HI547.out) | refine below_set ?_ GE563.out) | exact HB.out)) hb); clear HO550; clear HO554; clear HO558; clear HO561; clear HO566; clear HI547; clear BK563; clear HB; have HO550 := n0_; have HO554 := n1_; have HO558 := n2_; have HO561 := n3_; have HO566 := n4_; have HI547 := n5_; have BK563 := n6_; have HB := n7_; clear n0_ n1_ n2_ n3_ n4_ n5_ n6_ n7_; (try clear hb); (try clear hb2); (try clear hk); (try clear hi)) | (go_at_call 41; (with_reducible refine (swarflaw04_fits.calls t568 t572 t573 _ A29.out).mono ?_); rintro e w' ⟨rfl, ⟨nd, rfl⟩⟩; (try first | exact ⟨rfl, _, World.drewN_drewN _ _ _⟩ | exact ⟨rfl, _, Eq.trans (World.drewN_drewN _ _ _) (congrArg (World.drewN _) (Nat.add_assoc _ _ _))⟩)))
              go_meet
              case rel => exact ⟨_, (!t573), (by first | rfl | (simp; done) | (simp [*]; done)), H', ⟨by first | omega | exact Nat.le_refl _⟩, ⟨by (with_reducible repeat (first | apply Kd.R_alloc | apply Kd.R_drewN | apply Kd.R_drew)); exact HO561.out⟩, ⟨by (with_reducible repeat (first | apply Kd.R_alloc | apply Kd.R_drewN | apply Kd.R_drew)); exact Kd.R_mono HO566.out (fun _ hk => hk.2)⟩, ⟨by (with_reducible repeat (first | apply Kd.S_alloc | apply Kd.S_drewN | apply Kd.S_drew)); exact Kd.S_mono HO550.out (fun _ hk => ⟨hk.2, hk.1⟩)⟩, ⟨by (with_reducible repeat (first | apply Kd.R_alloc | apply Kd.R_drewN | apply Kd.R_drew)); exact HO554.out⟩, ⟨by (with_reducible repeat (first | apply Kd.R_alloc | apply Kd.R_drewN | apply Kd.R_drew)); exact Kd.R_mono HO558.out (fun _ hk => hk.2)⟩, ⟨by (with_reducible repeat (first | refine blk_drewN ?_ _ | refine blk_drew ?_ | refine blk_alloc ?_ _)); exact BK563.out⟩, ⟨by repeat (first | (with_reducible first | exact HI547.out | apply IsS79.alloc | apply IsS79.drewN | apply IsS79.drew | apply IsS79.set_0 | refine IsS79.far ?_ NB547_563.out _) | exact HI547.out)⟩, ⟨by repeat (first | (with_reducible first | exact HB.out | apply below_alloc | apply pw_below_drewN | apply below_drew1 | refine below_set ?_ (IsS79.ge HI547.out) | refine below_set ?_ GE563.out) | exact HB.out)⟩⟩
            · rw [if_neg c27] at H
              have c27b0 : ((t564.length : Int) == (t559.length : Int)) = false := beq_eq_false_iff_ne.mpr c27
              have c27b1 : ((t564.length : Int) != (t559.length : Int)) = true := bne_iff_ne.mpr c27
              have c27b2 : (t564.length == t559.length) = false := by first | simpa using c27 | (simp at c27 ⊢; omega)
              have H' := Aside0.mk H
              clear H
              have hnb35 := NB563_547.out
              have hnc35 := NB547_563.out
              have hcz36_0 : w20.cell? ⟨gb563, 0, none⟩ = some (.slice Ao11 t548.length co11) := (blk_cell BK563.out 0).trans rfl
              have hcz36_1 : w20.cell? ⟨gb563, 1, none⟩ = some (.int .i64 t551) := (blk_cell BK563.out 1).trans rfl
              have hcz36_2 : w20.cell? ⟨gb563, 2, none⟩ = some (.slice Ao14 t552.length co14) := (blk_cell BK563.out 2).trans rfl
              have hcz36_3 : w20.cell? ⟨gb563, 3, none⟩ = some (.int .i64 t555) := (blk_cell BK563.out 3).trans rfl
              have hcz36_4 : w20.cell? ⟨gb563, 4, none⟩ = some (.slice Ao15 t556.length co15) := (blk_cell BK563.out 4).trans rfl
              have hfz36_0 := blk_frozen BK563.out 0
              have hfz36_1 := blk_frozen BK563.out 1
              have hfz36_2 := blk_frozen BK563.out 2
              have hfz36_3 := blk_frozen BK563.out 3
              have hfz36_4 := blk_frozen BK563.out 4
              obtain ⟨Ao37, co37, eo37⟩ := Kd.R_slice HO566.out
              subst eo37
              obtain ⟨Ao38, co38, eo38⟩ := Kd.R_slice HO561.out
              subst eo38
              go_wp2
              go_meet
              case rel => exact ⟨_, (true), (by first | rfl | (simp; done) | (simp [*]; done)), H', ⟨by first | omega | exact Nat.le_refl _⟩, ⟨by (with_reducible repeat (first | apply Kd.R_alloc | apply Kd.R_drewN | apply Kd.R_drew)); exact HO561.out⟩, ⟨by (with_reducible repeat (first | apply Kd.R_alloc | apply Kd.R_drewN | apply Kd.R_drew)); exact Kd.R_mono HO566.out (fun _ hk => hk.2)⟩, ⟨by (with_reducible repeat (first | apply Kd.S_alloc | apply Kd.S_drewN | apply Kd.S_drew)); exact Kd.S_mono HO550.out (fun _ hk => ⟨hk.2, hk.1⟩)⟩, ⟨by (with_reducible repeat (first | apply Kd.R_alloc | apply Kd.R_drewN | apply Kd.R_drew)); exact HO554.out⟩, ⟨by (with_reducible repeat (first | apply Kd.R_alloc | apply Kd.R_drewN | apply Kd.R_drew)); exact Kd.R_mono HO558.out (fun _ hk => hk.2)⟩, ⟨by (with_reducible repeat (first | refine blk_drewN ?_ _ | refine blk_drew ?_ | refine blk_alloc ?_ _)); exact BK563.out⟩, ⟨by repeat (first | (with_reducible first | exact HI547.out | apply IsS79.alloc | apply IsS79.drewN | apply IsS79.drew | apply IsS79.set_0 | refine IsS79.far ?_ NB547_563.out _) | exact HI547.out)⟩, ⟨by repeat (first | (with_reducible first | exact HB.out | apply below_alloc | apply pw_below_drewN | apply below_drew1 | refine below_set ?_ (IsS79.ge HI547.out) | refine below_set ?_ GE563.out) | exact HB.out)⟩⟩
        · rw [if_neg c23] at H
          have c23b0 : (t571 == 0) = false := beq_eq_false_iff_ne.mpr c23
          have c23b1 : (t571 != 0) = true := bne_iff_ne.mpr c23
          have H' := Aside0.mk H
          clear H
          go_wp2
          go_meet
          case rel => exact ⟨_, (true), (by first | rfl | (simp; done) | (simp [*]; done)), H', ⟨by first | omega | exact Nat.le_refl _⟩, ⟨by (with_reducible repeat (first | apply Kd.R_alloc | apply Kd.R_drewN | apply Kd.R_drew)); exact HO561.out⟩, ⟨by (with_reducible repeat (first | apply Kd.R_alloc | apply Kd.R_drewN | apply Kd.R_drew)); exact Kd.R_mono HO566.out (fun _ hk => hk.2)⟩, ⟨by (with_reducible repeat (first | apply Kd.S_alloc | apply Kd.S_drewN | apply Kd.S_drew)); exact Kd.S_mono HO550.out (fun _ hk => ⟨hk.2, hk.1⟩)⟩, ⟨by (with_reducible repeat (first | apply Kd.R_alloc | apply Kd.R_drewN | apply Kd.R_drew)); exact HO554.out⟩, ⟨by (with_reducible repeat (first | apply Kd.R_alloc | apply Kd.R_drewN | apply Kd.R_drew)); exact Kd.R_mono HO558.out (fun _ hk => hk.2)⟩, ⟨by (with_reducible repeat (first | refine blk_drewN ?_ _ | refine blk_drew ?_ | refine blk_alloc ?_ _)); exact BK563.out⟩, ⟨by repeat (first | (with_reducible first | exact HI547.out | apply IsS79.alloc | apply IsS79.drewN | apply IsS79.drew | apply IsS79.set_0 | refine IsS79.far ?_ NB547_563.out _) | exact HI547.out)⟩, ⟨by repeat (first | (with_reducible first | exact HB.out | apply below_alloc | apply pw_below_drewN | apply below_drew1 | refine below_set ?_ (IsS79.ge HI547.out) | refine below_set ?_ GE563.out) | exact HB.out)⟩⟩
      · rw [if_neg c22] at H
        have c22b0 : (t569 == 0) = false := beq_eq_false_iff_ne.mpr c22
        have c22b1 : (t569 != 0) = true := bne_iff_ne.mpr c22
        have H' := Aside0.mk H
        clear H
        go_wp2
        go_meet
        case rel => exact ⟨_, (true), (by first | rfl | (simp; done) | (simp [*]; done)), H', ⟨by first | omega | exact Nat.le_refl _⟩, ⟨by (with_reducible repeat (first | apply Kd.R_alloc | apply Kd.R_drewN | apply Kd.R_drew)); exact HO561.out⟩, ⟨by (with_reducible repeat (first | apply Kd.R_alloc | apply Kd.R_drewN | apply Kd.R_drew)); exact Kd.R_mono HO566.out (fun _ hk => hk.2)⟩, ⟨by (with_reducible repeat (first | apply Kd.S_alloc | apply Kd.S_drewN | apply Kd.S_drew)); exact Kd.S_mono HO550.out (fun _ hk => ⟨hk.2, hk.1⟩)⟩, ⟨by (with_reducible repeat (first | apply Kd.R_alloc | apply Kd.R_drewN | apply Kd.R_drew)); exact HO554.out⟩, ⟨by (with_reducible repeat (first | apply Kd.R_alloc | apply Kd.R_drewN | apply Kd.R_drew)); exact Kd.R_mono HO558.out (fun _ hk => hk.2)⟩, ⟨by (with_reducible repeat (first | refine blk_drewN ?_ _ | refine blk_drew ?_ | refine blk_alloc ?_ _)); exact BK563.out⟩, ⟨by repeat (first | (with_reducible first | exact HI547.out | apply IsS79.alloc | apply IsS79.drewN | apply IsS79.drew | apply IsS79.set_0 | refine IsS79.far ?_ NB547_563.out _) | exact HI547.out)⟩, ⟨by repeat (first | (with_reducible first | exact HB.out | apply below_alloc | apply pw_below_drewN | apply below_drew1 | refine below_set ?_ (IsS79.ge HI547.out) | refine below_set ?_ GE563.out) | exact HB.out)⟩⟩
    · rw [if_neg c21] at H
      have c21b0 : (t567 == 0) = false := beq_eq_false_iff_ne.mpr c21
      have c21b1 : (t567 != 0) = true := bne_iff_ne.mpr c21
      (first | rw [c21b0] | (simp only [i64_w, i32_w]; rw [c21b0]) | skip)
      have H' := Aside0.mk H
      clear H
      go_wp2
      go_meet
      case rel => exact ⟨_, (true), (by first | rfl | (simp; done) | (simp [*]; done)), H', ⟨by first | omega | exact Nat.le_refl _⟩, ⟨by (with_reducible repeat (first | apply Kd.R_alloc | apply Kd.R_drewN | apply Kd.R_drew)); exact HO561.out⟩, ⟨by (with_reducible repeat (first | apply Kd.R_alloc | apply Kd.R_drewN | apply Kd.R_drew)); exact Kd.R_mono HO566.out (fun _ hk => hk.2)⟩, ⟨by (with_reducible repeat (first | apply Kd.S_alloc | apply Kd.S_drewN | apply Kd.S_drew)); exact Kd.S_mono HO550.out (fun _ hk => ⟨hk.2, hk.1⟩)⟩, ⟨by (with_reducible repeat (first | apply Kd.R_alloc | apply Kd.R_drewN | apply Kd.R_drew)); exact HO554.out⟩, ⟨by (with_reducible repeat (first | apply Kd.R_alloc | apply Kd.R_drewN | apply Kd.R_drew)); exact Kd.R_mono HO558.out (fun _ hk => hk.2)⟩, ⟨by (with_reducible repeat (first | refine blk_drewN ?_ _ | refine blk_drew ?_ | refine blk_alloc ?_ _)); exact BK563.out⟩, ⟨by repeat (first | (with_reducible first | exact HI547.out | apply IsS79.alloc | apply IsS79.drewN | apply IsS79.drew | apply IsS79.set_0 | refine IsS79.far ?_ NB547_563.out _) | exact HI547.out)⟩, ⟨by repeat (first | (with_reducible first | exact HB.out | apply below_alloc | apply pw_below_drewN | apply below_drew1 | refine below_set ?_ (IsS79.ge HI547.out) | refine below_set ?_ GE563.out) | exact HB.out)⟩⟩
  case rest =>
    clear HC7
    try clear c1
    try clear c2
    try clear p2
    try clear c3
    try clear c9
    try clear c12
    try clear c21
    try clear c21b0
    try clear c21b1
    try clear c22
    try clear c22b0
    try clear c22b1
    try clear c23
    try clear c23b0
    try clear c23b1
    try clear c24
    try clear c24b0
    try clear c25
    try clear c27
    try clear c27b0
    try clear c27b1
    try clear c27b2
    try clear c30
    try clear c35
    try clear hcz13_0
    try clear hcz13_1
    try clear hcz13_2
    try clear hcz13_3
    try clear hcz13_4
    try clear hcz17_0
    try clear hcz17_1
    try clear hcz17_2
    try clear hcz17_3
    try clear hcz17_4
    try clear hcz19_0
    try clear hcz19_1
    try clear hcz19_2
    try clear hcz19_3
    try clear hcz19_4
    try clear hcz26_0
    try clear hcz26_1
    try clear hcz26_2
    try clear hcz26_3
    try clear hcz26_4
    try clear hcz31_0
    try clear hcz31_1
    try clear hcz31_2
    try clear hcz31_3
    try clear hcz31_4
    try clear hcz36_0
    try clear hcz36_1
    try clear hcz36_2
    try clear hcz36_3
    try clear hcz36_4
    try clear hfz13_0
    try clear hfz13_1
    try clear hfz13_2
    try clear hfz13_3
    try clear hfz13_4
    try clear hfz17_0
    try clear hfz17_1
    try clear hfz17_2
    try clear hfz17_3
    try clear hfz17_4
    try clear hfz19_0
    try clear hfz19_1
    try clear hfz19_2
    try clear hfz19_3
    try clear hfz19_4
    try clear hfz26_0
    try clear hfz26_1
    try clear hfz26_2
    try clear hfz26_3
    try clear hfz26_4
    try clear hfz31_0
    try clear hfz31_1
    try clear hfz31_2
    try clear hfz31_3
    try clear hfz31_4
    try clear hfz36_0
    try clear hfz36_1
    try clear hfz36_2
    try clear hfz36_3
    try clear hfz36_4
    obtain ⟨kq, x68_6, rfl, HA, HJ6, HO_5, HO_6, HO_564000, HO_564002, HO_564004, BK563, HI547, HB⟩ := hcut
    cases kq with
    | zero => exact absurd HA.out (by simp [swarflaw04_StripTrue.j0])
    | succ kj6 =>
      have H := HA.out
      clear HA
      simp only [swarflaw04_StripTrue.j0] at H
      by_cases c39 : x68_6 = true
      · subst c39
        have H1 : (some false) = some r := by rw [if_pos rfl] at H; exact H
        clear H
        have H := H1
        clear H1
        exact absurd ((Option.some.inj H).trans hrt.out) (by decide)
      · replace c39 := Bool.eq_false_iff.mpr c39
        subst c39
        have H1 : (swarflaw04_StripTrue.l0 kj6 t559 t564 t570 0 t562 t548 t551 t552 t555 t556) = some r := by rw [if_neg (show ¬ (false = true) by decide)] at H; exact H
        clear H
        have H := H1
        clear H1
        have H' := Aside0.mk H
        clear H
        go_wp2
        go_loopg [12] kj6 (fun kq v12 w' => ∃ (x12_2 : Int), v12 = .int .i64 x12_2 ∧ Aside0 (swarflaw04_StripTrue.l0 kq t559 t564 t570 x12_2 t562 t548 t551 t552 t555 t556 = some r) ∧ Aside0 (kq ≤ kj6) ∧ Aside0 (Kd.R Kd.bool 4 w' w.heap.size (fun _ => True) v560 t559) ∧ Aside0 (Kd.R (Kd.int .i64) 3 w' w.heap.size (fun k_ => some k_ ≠ ((.slice Ao15 t556.length co15) : Value).ownBlock) v565 t564) ∧ Aside0 (Kd.S k50 50 w' w.heap.size (fun k_ => some k_ ≠ (v565 : Value).ownBlock ∧ some k_ ≠ ((.slice Ao15 t556.length co15) : Value).ownBlock) (.slice Ao11 t548.length co11) t548) ∧ Aside0 (Kd.R k61 61 w' w.heap.size (fun _ => True) (.slice Ao14 t552.length co14) t552) ∧ Aside0 (Kd.R (Kd.int .i64) 3 w' w.heap.size (fun k_ => some k_ ≠ (v565 : Value).ownBlock) (.slice Ao15 t556.length co15) t556) ∧ Aside0 (w'.heap[gb563]? = some (.cells #[(.slice Ao11 t548.length co11), .int .i64 t551, (.slice Ao14 t552.length co14), .int .i64 t555, (.slice Ao15 t556.length co15)] 26 (0, 0))) ∧ Aside0 (IsS79 w w' g547 t562) ∧ Aside0 (Below w.heap.size w w'))
        case atStart => exact ⟨(0), (by first | rfl | (simp; done) | (simp [*]; done)), H', ⟨Nat.le_refl _⟩, ⟨by (with_reducible repeat (first | apply Kd.R_alloc | apply Kd.R_drewN | apply Kd.R_drew)); exact HO_5.out⟩, ⟨by (with_reducible repeat (first | apply Kd.R_alloc | apply Kd.R_drewN | apply Kd.R_drew)); exact HO_6.out⟩, ⟨by (with_reducible repeat (first | apply Kd.S_alloc | apply Kd.S_drewN | apply Kd.S_drew)); exact HO_564000.out⟩, ⟨by (with_reducible repeat (first | apply Kd.R_alloc | apply Kd.R_drewN | apply Kd.R_drew)); exact HO_564002.out⟩, ⟨by (with_reducible repeat (first | apply Kd.R_alloc | apply Kd.R_drewN | apply Kd.R_drew)); exact HO_564004.out⟩, ⟨by (with_reducible repeat (first | refine blk_drewN ?_ _ | refine blk_drew ?_ | refine blk_alloc ?_ _)); exact BK563.out⟩, ⟨by repeat (first | (with_reducible first | exact HI547.out | apply IsS79.alloc | apply IsS79.drewN | apply IsS79.drew | apply IsS79.set_0 | refine IsS79.far ?_ NB547_563.out _) | exact HI547.out)⟩, ⟨by repeat (first | (with_reducible first | exact HB.out | apply below_alloc | apply pw_below_drewN | apply below_drew1 | refine below_set ?_ (IsS79.ge HI547.out) | refine below_set ?_ GE563.out) | exact HB.out)⟩⟩
        case round =>
          clear H'
          try clear c1
          try clear c2
          try clear p2
          try clear c3
          try clear c9
          try clear c12
          try clear c21
          try clear c21b0
          try clear c21b1
          try clear c22
          try clear c22b0
          try clear c22b1
          try clear c23
          try clear c23b0
          try clear c23b1
          try clear c24
          try clear c24b0
          try clear c25
          try clear c27
          try clear c27b0
          try clear c27b1
          try clear c27b2
          try clear c30
          try clear c35
          try clear c39
          try clear hcz13_0
          try clear hcz13_1
          try clear hcz13_2
          try clear hcz13_3
          try clear hcz13_4
          try clear hcz17_0
          try clear hcz17_1
          try clear hcz17_2
          try clear hcz17_3
          try clear hcz17_4
          try clear hcz19_0
          try clear hcz19_1
          try clear hcz19_2
          try clear hcz19_3
          try clear hcz19_4
          try clear hcz26_0
          try clear hcz26_1
          try clear hcz26_2
          try clear hcz26_3
          try clear hcz26_4
          try clear hcz31_0
          try clear hcz31_1
          try clear hcz31_2
          try clear hcz31_3
          try clear hcz31_4
          try clear hcz36_0
          try clear hcz36_1
          try clear hcz36_2
          try clear hcz36_3
          try clear hcz36_4
          try clear hfz13_0
          try clear hfz13_1
          try clear hfz13_2
          try clear hfz13_3
          try clear hfz13_4
          try clear hfz17_0
          try clear hfz17_1
          try clear hfz17_2
          try clear hfz17_3
          try clear hfz17_4
          try clear hfz19_0
          try clear hfz19_1
          try clear hfz19_2
          try clear hfz19_3
          try clear hfz19_4
          try clear hfz26_0
          try clear hfz26_1
          try clear hfz26_2
          try clear hfz26_3
          try clear hfz26_4
          try clear hfz31_0
          try clear hfz31_1
          try clear hfz31_2
          try clear hfz31_3
          try clear hfz31_4
          try clear hfz36_0
          try clear hfz36_1
          try clear hfz36_2
          try clear hfz36_3
          try clear hfz36_4
          try clear p2
          obtain ⟨x12_2, rfl, HA, HK2, HO_5, HO_6, HO_564000, HO_564002, HO_564004, BK563, HI547, HB⟩ := hrel
          cases gk with
          | zero => exact absurd HA.out (by simp [swarflaw04_StripTrue.l0])
          | succ k2 =>
            have H := HA.out
            clear HA
            simp only [swarflaw04_StripTrue.l0] at H
            by_cases c40 : x12_2 < (t564.length : Int)
            · rw [if_pos c40] at H
              have c40b0 : decide (x12_2 < (t564.length : Int)) = true := decide_eq_true c40
              clear c40
              by_cases c41 : 0 ≤ x12_2
              · rw [if_pos c41] at H
                have c41b0 : decide (0 ≤ x12_2) = true := decide_eq_true c41
                clear c41
                by_cases c42 : x12_2 < (t559.length : Int)
                · rw [if_pos c42] at H
                  have c42b0 : decide (x12_2 < (t559.length : Int)) = true := decide_eq_true c42
                  clear c42
                  replace H := Option.bind_eq_some_iff.mp H
                  obtain ⟨t576, A430, H⟩ := H
                  replace H : (if t576 = true then (swarflaw04_StripTrue.l0 k2 t559 t564 t570 (wrap64 (x12_2 + 1)) t562 t548 t551 t552 t555 t556) else (some false)) = some r := H
                  have A43 := Aside0.mk A430
                  clear A430
                  by_cases c44 : t576 = true
                  · subst c44
                    have H1 : (swarflaw04_StripTrue.l0 k2 t559 t564 t570 (wrap64 (x12_2 + 1)) t562 t548 t551 t552 t555 t556) = some r := by rw [if_pos rfl] at H; exact H
                    clear H
                    have H := H1
                    clear H1
                    have H' := Aside0.mk H
                    clear H
                    obtain ⟨Ao45, co45, eo45⟩ := Kd.R_slice HO_6.out
                    subst eo45
                    have p574 : 0 ≤ (x12_2 : Int) := of_decide_eq_true (by first | (with_reducible assumption) | assumption)
                    have q574 : x12_2 < (t564.length : Int) := of_decide_eq_true (by first | (with_reducible assumption) | assumption)
                    obtain ⟨ad574, e574, hx574_0⟩ := Kd.at_int (Kd.R_reads' HO_6.out).2.2 x12_2 p574 q574
                    cases e574
                    replace p574 := eq_true p574
                    replace q574 := eq_true q574
                    obtain ⟨Ao46, co46, eo46⟩ := Kd.R_slice HO_5.out
                    subst eo46
                    have p575 : 0 ≤ (x12_2 : Int) := of_decide_eq_true (by first | (with_reducible assumption) | assumption)
                    have q575 : x12_2 < (t559.length : Int) := of_decide_eq_true (by first | (with_reducible assumption) | assumption)
                    obtain ⟨ad575, e575, hx575_0⟩ := Kd.at_bool (Kd.R_reads' HO_5.out).2.2 x12_2 p575 q575
                    cases e575
                    replace p575 := eq_true p575
                    replace q575 := eq_true q575
                    go_wp2_with (first | (go_at_call 41; (with_reducible refine (swarflaw04_fits.calls (rd t564 x12_2) (rdOf false t559 x12_2) true _ A43.out).mono ?_); rintro e w' ⟨rfl, ⟨nd, rfl⟩⟩; (try first | exact ⟨rfl, _, World.drewN_drewN _ _ _⟩ | exact ⟨rfl, _, Eq.trans (World.drewN_drewN _ _ _) (congrArg (World.drewN _) (Nat.add_assoc _ _ _))⟩)))
                    repeat (go_quiet (first | (go_at_call 41; (with_reducible refine (swarflaw04_fits.calls (rd t564 x12_2) (rdOf false t559 x12_2) true _ A43.out).mono ?_); rintro e w' ⟨rfl, ⟨nd, rfl⟩⟩; (try first | exact ⟨rfl, _, World.drewN_drewN _ _ _⟩ | exact ⟨rfl, _, Eq.trans (World.drewN_drewN _ _ _) (congrArg (World.drewN _) (Nat.add_assoc _ _ _))⟩))); try go_wp2_with (first | (go_at_call 41; (with_reducible refine (swarflaw04_fits.calls (rd t564 x12_2) (rdOf false t559 x12_2) true _ A43.out).mono ?_); rintro e w' ⟨rfl, ⟨nd, rfl⟩⟩; (try first | exact ⟨rfl, _, World.drewN_drewN _ _ _⟩ | exact ⟨rfl, _, Eq.trans (World.drewN_drewN _ _ _) (congrArg (World.drewN _) (Nat.add_assoc _ _ _))⟩))))
                    go_roundg k2
                    case measure => have := HJ6.out; have := HK2.out; omega
                    case rel => exact ⟨(wrap64 (x12_2 + 1)), (by first | rfl | (simp; done) | (simp [*]; done)), H', ⟨by have := HJ6.out; have := HK2.out; omega⟩, ⟨by (with_reducible repeat (first | apply Kd.R_alloc | apply Kd.R_drewN | apply Kd.R_drew)); exact HO_5.out⟩, ⟨by (with_reducible repeat (first | apply Kd.R_alloc | apply Kd.R_drewN | apply Kd.R_drew)); exact HO_6.out⟩, ⟨by (with_reducible repeat (first | apply Kd.S_alloc | apply Kd.S_drewN | apply Kd.S_drew)); exact HO_564000.out⟩, ⟨by (with_reducible repeat (first | apply Kd.R_alloc | apply Kd.R_drewN | apply Kd.R_drew)); exact HO_564002.out⟩, ⟨by (with_reducible repeat (first | apply Kd.R_alloc | apply Kd.R_drewN | apply Kd.R_drew)); exact HO_564004.out⟩, ⟨by (with_reducible repeat (first | refine blk_drewN ?_ _ | refine blk_drew ?_ | refine blk_alloc ?_ _)); exact BK563.out⟩, ⟨by repeat (first | (with_reducible first | exact HI547.out | apply IsS79.alloc | apply IsS79.drewN | apply IsS79.drew | apply IsS79.set_0 | refine IsS79.far ?_ NB547_563.out _) | exact HI547.out)⟩, ⟨by repeat (first | (with_reducible first | exact HB.out | apply below_alloc | apply pw_below_drewN | apply below_drew1 | refine below_set ?_ (IsS79.ge HI547.out) | refine below_set ?_ GE563.out) | exact HB.out)⟩⟩
                  · replace c44 := Bool.eq_false_iff.mpr c44
                    subst c44
                    have H1 : (some false) = some r := by rw [if_neg (show ¬ (false = true) by decide)] at H; exact H
                    clear H
                    have H := H1
                    clear H1
                    exact absurd ((Option.some.inj H).trans hrt.out) (by decide)
                · rw [if_neg c42] at H
                  exact absurd H (by simp)
              · rw [if_neg c41] at H
                exact absurd H (by simp)
            · rw [if_neg c40] at H
              have c40b0 : decide (x12_2 < (t564.length : Int)) = false := decide_eq_false c40
              clear c40
              replace H := Option.bind_eq_some_iff.mp H
              obtain ⟨⟨t577, t580, t581, t584, t585⟩, A490, H⟩ := H
              replace H : ((swarfkit_Feed_Below.f t562 (wrap64 ((t552.length : Int) + 1))).bind fun bt589 => ((strip_Out.f t577 t580 t581 bt589.1 t585).bind fun bt591 => (if bt589.1 < t570 then (if bt591.2 = 9 then ((swarflaw04_awake.f k2).bind fun t595 => (some t595)) else (some false)) else (if bt591.2 = 0 then ((swarflaw04_awake.f k2).bind fun t596 => (some t596)) else (some false))))) = some r := H
              have A49 := Aside0.mk A490
              clear A490
              replace H := Option.bind_eq_some_iff.mp H
              obtain ⟨⟨t589, t590⟩, A500, H⟩ := H
              replace H : ((strip_Out.f t577 t580 t581 t589 t585).bind fun bt591 => (if t589 < t570 then (if bt591.2 = 9 then ((swarflaw04_awake.f k2).bind fun t595 => (some t595)) else (some false)) else (if bt591.2 = 0 then ((swarflaw04_awake.f k2).bind fun t596 => (some t596)) else (some false)))) = some r := H
              have A50 := Aside0.mk A500
              clear A500
              replace H := Option.bind_eq_some_iff.mp H
              obtain ⟨⟨t591, t594⟩, A510, H⟩ := H
              replace H : (if t589 < t570 then (if t594 = 9 then ((swarflaw04_awake.f k2).bind fun t595 => (some t595)) else (some false)) else (if t594 = 0 then ((swarflaw04_awake.f k2).bind fun t596 => (some t596)) else (some false))) = some r := H
              have A51 := Aside0.mk A510
              clear A510
              by_cases c52 : t589 < t570
              · rw [if_pos c52] at H
                have c52b0 : decide (t589 < t570) = true := decide_eq_true c52
                clear c52
                by_cases c53 : t594 = 9
                · rw [if_pos c53] at H
                  have c53b0 : (t594 == 9) = true := beq_iff_eq.mpr c53
                  have c53b1 : (t594 != 9) = false := bne_eq_false_iff_eq.mpr c53
                  clear c53
                  replace H := Option.bind_eq_some_iff.mp H
                  obtain ⟨t595, A540, H⟩ := H
                  replace H : (some t595) = some r := H
                  have A54 := Aside0.mk A540
                  clear A540
                  obtain rfl := Option.some.inj H
                  obtain ⟨Ao55, co55, eo55⟩ := Kd.R_slice HO_6.out
                  subst eo55
                  have hnb56 := NB563_547.out
                  have hnc56 := NB547_563.out
                  have hcz57_0 : wr.cell? ⟨gb563, 0, none⟩ = some (.slice Ao11 t548.length co11) := (blk_cell BK563.out 0).trans rfl
                  have hcz57_1 : wr.cell? ⟨gb563, 1, none⟩ = some (.int .i64 t551) := (blk_cell BK563.out 1).trans rfl
                  have hcz57_2 : wr.cell? ⟨gb563, 2, none⟩ = some (.slice Ao14 t552.length co14) := (blk_cell BK563.out 2).trans rfl
                  have hcz57_3 : wr.cell? ⟨gb563, 3, none⟩ = some (.int .i64 t555) := (blk_cell BK563.out 3).trans rfl
                  have hcz57_4 : wr.cell? ⟨gb563, 4, none⟩ = some (.slice Ao15 t556.length co15) := (blk_cell BK563.out 4).trans rfl
                  have hfz57_0 := blk_frozen BK563.out 0
                  have hfz57_1 := blk_frozen BK563.out 1
                  have hfz57_2 := blk_frozen BK563.out 2
                  have hfz57_3 := blk_frozen BK563.out 3
                  have hfz57_4 := blk_frozen BK563.out 4
                  go_wp2_with (first | (go_at_call 19; (with_reducible refine (swarfkit_CopyCar.calls k2 _ _ t548 t551 _ _ t552 t555 _ _ t556 t577 t580 t581 t584 t585 _ ?side1 ?side2 ?side3 ?side4 ?side5 ?side6 A49.out).mono ?_); (case side1 => repeat (first | exact (Kd.S_reads' HO_564000.out).2.2 | (with_reducible refine Kd.C_alloc ?_ _) | (with_reducible refine Kd.C_drewN ?_ _) | (with_reducible refine Kd.C_drew ?_))); (case side2 => exact (Kd.S_reads' HO_564000.out).2.1); (case side3 => repeat (first | exact (Kd.R_reads' HO_564002.out).2.2 | (with_reducible refine Kd.C_alloc ?_ _) | (with_reducible refine Kd.C_drewN ?_ _) | (with_reducible refine Kd.C_drew ?_))); (case side4 => exact (Kd.R_reads' HO_564002.out).2.1); (case side5 => repeat (first | exact (Kd.R_reads' HO_564004.out).2.2 | (with_reducible refine Kd.C_alloc ?_ _) | (with_reducible refine Kd.C_drewN ?_ _) | (with_reducible refine Kd.C_drew ?_))); (case side6 => exact (Kd.R_reads' HO_564004.out).2.1); rintro e w58 ⟨v578, v582, v586, rfl, ho0, ho1, ho2, hb⟩; have n0_ := Aside0.mk (Kd.R_below (by (with_reducible repeat (first | apply Kd.R_alloc | apply Kd.R_drewN | apply Kd.R_drew)); exact HO_5.out) hb); have n1_ := Aside0.mk (Kd.R_elder' (by (with_reducible repeat (first | apply Kd.R_alloc | apply Kd.R_drewN | apply Kd.R_drew)); exact HO_6.out) (Kd.R_base ho2) hb); have n2_ := Aside0.mk (Kd.S_mono (Kd.S_told (Kd.S_told (Kd.S_old (by (with_reducible repeat (first | apply Kd.S_alloc | apply Kd.S_drewN | apply Kd.S_drew)); exact HO_564000.out) hb) (Kd.S_base ho0)) (Kd.R_base ho2)) (fun _ h_ => h_.1)); have n3_ := Aside0.mk (Kd.R_elder' (by (with_reducible repeat (first | apply Kd.R_alloc | apply Kd.R_drewN | apply Kd.R_drew)); exact HO_564002.out) (Kd.R_base ho1) hb); have n4_ := Aside0.mk (Kd.R_elder' (by (with_reducible repeat (first | apply Kd.R_alloc | apply Kd.R_drewN | apply Kd.R_drew)); exact HO_564004.out) (Kd.R_base ho2) hb); have n5_ := Aside0.mk (Kd.S_lower (Kd.S_new' (Kd.S_new' (Kd.S_new' ho0 (Kd.R_lt (by (with_reducible repeat (first | apply Kd.R_alloc | apply Kd.R_drewN | apply Kd.R_drew)); exact HO_6.out))) (Kd.S_lt (by (with_reducible repeat (first | apply Kd.S_alloc | apply Kd.S_drewN | apply Kd.S_drew)); exact HO_564000.out))) (Kd.R_lt (by (with_reducible repeat (first | apply Kd.R_alloc | apply Kd.R_drewN | apply Kd.R_drew)); exact HO_564004.out))) (below_size (by repeat (first | (with_reducible first | exact HB.out | apply below_alloc | apply pw_below_drewN | apply below_drew1 | refine below_set ?_ (IsS79.ge HI547.out) | refine below_set ?_ GE563.out) | exact HB.out)))); have n6_ := Aside0.mk (Kd.R_lower (Kd.R_new' ho1 (Kd.R_lt (by (with_reducible repeat (first | apply Kd.R_alloc | apply Kd.R_drewN | apply Kd.R_drew)); exact HO_564002.out))) (below_size (by repeat (first | (with_reducible first | exact HB.out | apply below_alloc | apply pw_below_drewN | apply below_drew1 | refine below_set ?_ (IsS79.ge HI547.out) | refine below_set ?_ GE563.out) | exact HB.out)))); have n7_ := Aside0.mk (Kd.R_lower (Kd.R_new' (Kd.R_new' ho2 (Kd.R_lt (by (with_reducible repeat (first | apply Kd.R_alloc | apply Kd.R_drewN | apply Kd.R_drew)); exact HO_6.out))) (Kd.R_lt (by (with_reducible repeat (first | apply Kd.R_alloc | apply Kd.R_drewN | apply Kd.R_drew)); exact HO_564004.out))) (below_size (by repeat (first | (with_reducible first | exact HB.out | apply below_alloc | apply pw_below_drewN | apply below_drew1 | refine below_set ?_ (IsS79.ge HI547.out) | refine below_set ?_ GE563.out) | exact HB.out)))); have n8_ := Aside0.mk (blk_below (g := gb563) (o := .cells #[.slice Ao11 t548.length co11, .int .i64 t551, .slice Ao14 t552.length co14, .int .i64 t555, .slice Ao15 t556.length co15] 26 (0, 0)) (by (with_reducible repeat (first | refine blk_drewN ?_ _ | refine blk_drew ?_ | refine blk_alloc ?_ _)); exact BK563.out) hb); have n9_ := Aside0.mk (IsS79.below (by repeat (first | (with_reducible first | exact HI547.out | apply IsS79.alloc | apply IsS79.drewN | apply IsS79.drew | apply IsS79.set_0 | refine IsS79.far ?_ NB547_563.out _) | exact HI547.out)) hb); have n10_ := Aside0.mk (below_step (by repeat (first | (with_reducible first | exact HB.out | apply below_alloc | apply pw_below_drewN | apply below_drew1 | refine below_set ?_ (IsS79.ge HI547.out) | refine below_set ?_ GE563.out) | exact HB.out)) hb); clear HO_5; clear HO_6; clear HO_564000; clear HO_564002; clear HO_564004; clear BK563; clear HI547; clear HB; have HO_5 := n0_; have HO_6 := n1_; have HO_564000 := n2_; have HO_564002 := n3_; have HO_564004 := n4_; have HO579 := n5_; have HO583 := n6_; have HO587 := n7_; have BK563 := n8_; have HI547 := n9_; have HB := n10_; clear n0_ n1_ n2_ n3_ n4_ n5_ n6_ n7_ n8_ n9_ n10_; (try clear hb); (try clear hb2); (try clear hk); (try clear hi); (try clear ho0); (try clear ho1); (try clear ho2)) | ((with_reducible refine gate_dst (N := 13) rfl ?_); (try (refine gate_guard (by rfl) ?_; dsimp only)); refine box_event ?hg (N := 13) ?hd (cs := #[.slice none 0 0, .int .i64 0, .slice none 0 0, .int .i64 0, .slice none 0 0]) (t := 26) ?hr ?_; (case hd => rfl); (case hg => rfl); (case hr => first | (go_simp; done) | (go_simp; rfl)); intro gb588 hg w59 hbox hb; have n0_ := Aside0.mk (Kd.R_below (by (with_reducible repeat (first | apply Kd.R_alloc | apply Kd.R_drewN | apply Kd.R_drew)); exact HO_5.out) hb); have n1_ := Aside0.mk (Kd.R_below (by (with_reducible repeat (first | apply Kd.R_alloc | apply Kd.R_drewN | apply Kd.R_drew)); exact HO_6.out) hb); have n2_ := Aside0.mk (Kd.S_below (by (with_reducible repeat (first | apply Kd.S_alloc | apply Kd.S_drewN | apply Kd.S_drew)); exact HO_564000.out) hb); have n3_ := Aside0.mk (Kd.R_below (by (with_reducible repeat (first | apply Kd.R_alloc | apply Kd.R_drewN | apply Kd.R_drew)); exact HO_564002.out) hb); have n4_ := Aside0.mk (Kd.R_below (by (with_reducible repeat (first | apply Kd.R_alloc | apply Kd.R_drewN | apply Kd.R_drew)); exact HO_564004.out) hb); have n5_ := Aside0.mk (Kd.S_below (by (with_reducible repeat (first | apply Kd.S_alloc | apply Kd.S_drewN | apply Kd.S_drew)); exact HO579.out) hb); have n6_ := Aside0.mk (Kd.R_below (by (with_reducible repeat (first | apply Kd.R_alloc | apply Kd.R_drewN | apply Kd.R_drew)); exact HO583.out) hb); have n7_ := Aside0.mk (Kd.R_below (by (with_reducible repeat (first | apply Kd.R_alloc | apply Kd.R_drewN | apply Kd.R_drew)); exact HO587.out) hb); have n8_ := Aside0.mk (blk_below (g := gb563) (o := .cells #[.slice Ao11 t548.length co11, .int .i64 t551, .slice Ao14 t552.length co14, .int .i64 t555, .slice Ao15 t556.length co15] 26 (0, 0)) (by (with_reducible repeat (first | refine blk_drewN ?_ _ | refine blk_drew ?_ | refine blk_alloc ?_ _)); exact BK563.out) hb); have n9_ := Aside0.mk (IsS79.below (by repeat (first | (with_reducible first | exact HI547.out | apply IsS79.alloc | apply IsS79.drewN | apply IsS79.drew | apply IsS79.set_0 | refine IsS79.far ?_ NB547_563.out _) | exact HI547.out)) hb); have n10_ := Aside0.mk (below_step (by repeat (first | (with_reducible first | exact HB.out | apply below_alloc | apply pw_below_drewN | apply below_drew1 | refine below_set ?_ (IsS79.ge HI547.out) | refine below_set ?_ GE563.out) | exact HB.out)) hb); have n11_ := Aside0.mk (hbox); have n12_ := Aside0.mk ((by rw [hg]; exact (below_size (by repeat (first | (with_reducible first | exact HB.out | apply below_alloc | apply pw_below_drewN | apply below_drew1 | refine below_set ?_ (IsS79.ge HI547.out) | refine below_set ?_ GE563.out) | exact HB.out))) : w.heap.size ≤ gb588)); have n13_ := Aside0.mk ((by rw [hg]; exact (below_size (by repeat (first | (with_reducible first | exact HB.out | apply below_alloc | apply pw_below_drewN | apply below_drew1 | refine below_set ?_ (IsS79.ge HI547.out) | refine below_set ?_ GE563.out) | exact HB.out))) : w.heap.size ≤ gb588)); have n14_ := Aside0.mk ((by rw [hg]; exact Nat.ne_of_lt (blk_lt (g := gb563) (o := .cells #[.slice Ao11 t548.length co11, .int .i64 t551, .slice Ao14 t552.length co14, .int .i64 t555, .slice Ao15 t556.length co15] 26 (0, 0)) (by (with_reducible repeat (first | refine blk_drewN ?_ _ | refine blk_drew ?_ | refine blk_alloc ?_ _)); exact BK563.out)) : gb563 ≠ gb588)); have n15_ := Aside0.mk ((by rw [hg]; exact Nat.ne_of_gt (blk_lt (g := gb563) (o := .cells #[.slice Ao11 t548.length co11, .int .i64 t551, .slice Ao14 t552.length co14, .int .i64 t555, .slice Ao15 t556.length co15] 26 (0, 0)) (by (with_reducible repeat (first | refine blk_drewN ?_ _ | refine blk_drew ?_ | refine blk_alloc ?_ _)); exact BK563.out)) : gb588 ≠ gb563)); have n16_ := Aside0.mk ((by rw [hg]; exact Nat.ne_of_lt (IsS79.lt (show IsS79 w _ g547 t562 from by repeat (first | (with_reducible first | exact HI547.out | apply IsS79.alloc | apply IsS79.drewN | apply IsS79.drew | apply IsS79.set_0 | refine IsS79.far ?_ NB547_563.out _) | exact HI547.out))) : g547 ≠ gb588)); have n17_ := Aside0.mk ((by rw [hg]; exact Nat.ne_of_gt (IsS79.lt (show IsS79 w _ g547 t562 from by repeat (first | (with_reducible first | exact HI547.out | apply IsS79.alloc | apply IsS79.drewN | apply IsS79.drew | apply IsS79.set_0 | refine IsS79.far ?_ NB547_563.out _) | exact HI547.out))) : gb588 ≠ g547)); clear HO_5; clear HO_6; clear HO_564000; clear HO_564002; clear HO_564004; clear HO579; clear HO583; clear HO587; clear BK563; clear HI547; clear HB; have HO_5 := n0_; have HO_6 := n1_; have HO_564000 := n2_; have HO_564002 := n3_; have HO_564004 := n4_; have HO579 := n5_; have HO583 := n6_; have HO587 := n7_; have BK563 := n8_; have HI547 := n9_; have HB := n10_; have BK588 := n11_; have GW588 := n12_; have GE588 := n13_; have NB563_588 := n14_; have NB588_563 := n15_; have NB547_588 := n16_; have NB588_547 := n17_; clear n0_ n1_ n2_ n3_ n4_ n5_ n6_ n7_ n8_ n9_ n10_ n11_ n12_ n13_ n14_ n15_ n16_ n17_; clear hb hbox hg; obtain ⟨Ao60, co60, eo60⟩ := Kd.S_slice HO579.out; subst eo60; have hnb61 := NB588_563.out; have hnc61 := NB563_588.out; have hnb62 := NB588_547.out; have hnc62 := NB547_588.out; have hcz63_0 : w59.cell? ⟨gb588, 0, none⟩ = some (.slice none 0 0) := (blk_cell BK588.out 0).trans rfl; have hcz63_1 : w59.cell? ⟨gb588, 1, none⟩ = some (.int .i64 0) := (blk_cell BK588.out 1).trans rfl; have hcz63_2 : w59.cell? ⟨gb588, 2, none⟩ = some (.slice none 0 0) := (blk_cell BK588.out 2).trans rfl; have hcz63_3 : w59.cell? ⟨gb588, 3, none⟩ = some (.int .i64 0) := (blk_cell BK588.out 3).trans rfl; have hcz63_4 : w59.cell? ⟨gb588, 4, none⟩ = some (.slice none 0 0) := (blk_cell BK588.out 4).trans rfl; have hfz63_0 := blk_frozen BK588.out 0; have hfz63_1 := blk_frozen BK588.out 1; have hfz63_2 := blk_frozen BK588.out 2; have hfz63_3 := blk_frozen BK588.out 3; have hfz63_4 := blk_frozen BK588.out 4; obtain ⟨Ao64, co64, eo64⟩ := Kd.R_slice HO583.out; subst eo64; obtain ⟨Ao65, co65, eo65⟩ := Kd.R_slice HO587.out; subst eo65; have hcz66_0 : w59.cell? ⟨gb563, 0, none⟩ = some (.slice Ao11 t548.length co11) := (blk_cell BK563.out 0).trans rfl; have hcz66_1 : w59.cell? ⟨gb563, 1, none⟩ = some (.int .i64 t551) := (blk_cell BK563.out 1).trans rfl; have hcz66_2 : w59.cell? ⟨gb563, 2, none⟩ = some (.slice Ao14 t552.length co14) := (blk_cell BK563.out 2).trans rfl; have hcz66_3 : w59.cell? ⟨gb563, 3, none⟩ = some (.int .i64 t555) := (blk_cell BK563.out 3).trans rfl; have hcz66_4 : w59.cell? ⟨gb563, 4, none⟩ = some (.slice Ao15 t556.length co15) := (blk_cell BK563.out 4).trans rfl; have hfz66_0 := blk_frozen BK563.out 0; have hfz66_1 := blk_frozen BK563.out 1; have hfz66_2 := blk_frozen BK563.out 2; have hfz66_3 := blk_frozen BK563.out 3; have hfz66_4 := blk_frozen BK563.out 4) | (go_at_call 25; (with_reducible refine (swarfkit_Feed_Below.calls g547 t562 (wrap64 ((t552.length : Int) + 1)) t589 t590 w _ ?side1 ?side2 A50.out).mono ?_); (case side1 => repeat (first | (with_reducible first | exact HI547.out | apply IsS79.alloc | apply IsS79.drewN | apply IsS79.drew | apply IsS79.set_0 | refine IsS79.far ?_ NB547_563.out _ | refine IsS79.far ?_ NB547_588.out _) | exact HI547.out)); (case side2 => repeat (first | (with_reducible first | exact HB.out | apply below_alloc | apply pw_below_drewN | apply below_drew1 | refine below_set ?_ (IsS79.ge HI547.out) | refine below_set ?_ GE563.out | refine below_set ?_ GE588.out) | exact HB.out)); rintro e w67 ⟨rfl, hi, hb, hk⟩; have n0_ := Aside0.mk (Kd.R_mono (Kd.R_keep (IsS79.apart (show IsS79 w _ g547 t562 from by repeat (first | (with_reducible first | exact HI547.out | apply IsS79.alloc | apply IsS79.drewN | apply IsS79.drew | apply IsS79.set_0 | refine IsS79.far ?_ NB547_563.out _ | refine IsS79.far ?_ NB547_588.out _) | exact HI547.out)) (by (with_reducible repeat (first | apply Kd.R_alloc | apply Kd.R_drewN | apply Kd.R_drew)); exact (Kd.R_mono (Kd.R_far (p := ⟨gb588, 4, none⟩) (Kd.R_far (p := ⟨gb588, 3, none⟩) (Kd.R_far (p := ⟨gb588, 2, none⟩) (Kd.R_far (p := ⟨gb588, 1, none⟩) (Kd.R_far (p := ⟨gb588, 0, none⟩) (Kd.R_types HO_5.out BK588.out (by decide)) (fun _ hk => hk.2) (.slice Ao60 t577.length co60)) (fun _ hk => hk.2) (.int .i64 t580)) (fun _ hk => hk.2) (.slice Ao64 t581.length co64)) (fun _ hk => hk.2) (.int .i64 t584)) (fun _ hk => hk.2) (.slice Ao65 t585.length co65)) (fun _ h_ => h_.1))) (by decide)) hk (fun _ h => h.2)) (fun _ h => h.1)); have n1_ := Aside0.mk (Kd.R_mono (Kd.R_keep (IsS79.apart (show IsS79 w _ g547 t562 from by repeat (first | (with_reducible first | exact HI547.out | apply IsS79.alloc | apply IsS79.drewN | apply IsS79.drew | apply IsS79.set_0 | refine IsS79.far ?_ NB547_563.out _ | refine IsS79.far ?_ NB547_588.out _) | exact HI547.out)) (by (with_reducible repeat (first | apply Kd.R_alloc | apply Kd.R_drewN | apply Kd.R_drew)); exact (Kd.R_mono (Kd.R_far (p := ⟨gb588, 4, none⟩) (Kd.R_far (p := ⟨gb588, 3, none⟩) (Kd.R_far (p := ⟨gb588, 2, none⟩) (Kd.R_far (p := ⟨gb588, 1, none⟩) (Kd.R_far (p := ⟨gb588, 0, none⟩) (Kd.R_types HO_6.out BK588.out (by decide)) (fun _ hk => hk.2) (.slice Ao60 t577.length co60)) (fun _ hk => hk.2) (.int .i64 t580)) (fun _ hk => hk.2) (.slice Ao64 t581.length co64)) (fun _ hk => hk.2) (.int .i64 t584)) (fun _ hk => hk.2) (.slice Ao65 t585.length co65)) (fun _ h_ => h_.1))) (by decide)) hk (fun _ h => h.2)) (fun _ h => h.1)); have n2_ := Aside0.mk (Kd.S_mono (Kd.S_keep (IsS79.apartS (show IsS79 w _ g547 t562 from by repeat (first | (with_reducible first | exact HI547.out | apply IsS79.alloc | apply IsS79.drewN | apply IsS79.drew | apply IsS79.set_0 | refine IsS79.far ?_ NB547_563.out _ | refine IsS79.far ?_ NB547_588.out _) | exact HI547.out)) (by (with_reducible repeat (first | apply Kd.S_alloc | apply Kd.S_drewN | apply Kd.S_drew)); exact (Kd.S_mono (Kd.S_far (p := ⟨gb588, 4, none⟩) (Kd.S_far (p := ⟨gb588, 3, none⟩) (Kd.S_far (p := ⟨gb588, 2, none⟩) (Kd.S_far (p := ⟨gb588, 1, none⟩) (Kd.S_far (p := ⟨gb588, 0, none⟩) (Kd.S_types HO_564000.out BK588.out (by decide)) (fun _ hk => hk.2) (.slice Ao60 t577.length co60)) (fun _ hk => hk.2) (.int .i64 t580)) (fun _ hk => hk.2) (.slice Ao64 t581.length co64)) (fun _ hk => hk.2) (.int .i64 t584)) (fun _ hk => hk.2) (.slice Ao65 t585.length co65)) (fun _ h_ => h_.1))) (by decide)) hk (fun _ h => h.2)) (fun _ h => h.1)); have n3_ := Aside0.mk (Kd.R_mono (Kd.R_keep (IsS79.apart (show IsS79 w _ g547 t562 from by repeat (first | (with_reducible first | exact HI547.out | apply IsS79.alloc | apply IsS79.drewN | apply IsS79.drew | apply IsS79.set_0 | refine IsS79.far ?_ NB547_563.out _ | refine IsS79.far ?_ NB547_588.out _) | exact HI547.out)) (by (with_reducible repeat (first | apply Kd.R_alloc | apply Kd.R_drewN | apply Kd.R_drew)); exact (Kd.R_mono (Kd.R_far (p := ⟨gb588, 4, none⟩) (Kd.R_far (p := ⟨gb588, 3, none⟩) (Kd.R_far (p := ⟨gb588, 2, none⟩) (Kd.R_far (p := ⟨gb588, 1, none⟩) (Kd.R_far (p := ⟨gb588, 0, none⟩) (Kd.R_types HO_564002.out BK588.out (by decide)) (fun _ hk => hk.2) (.slice Ao60 t577.length co60)) (fun _ hk => hk.2) (.int .i64 t580)) (fun _ hk => hk.2) (.slice Ao64 t581.length co64)) (fun _ hk => hk.2) (.int .i64 t584)) (fun _ hk => hk.2) (.slice Ao65 t585.length co65)) (fun _ h_ => h_.1))) (by decide)) hk (fun _ h => h.2)) (fun _ h => h.1)); have n4_ := Aside0.mk (Kd.R_mono (Kd.R_keep (IsS79.apart (show IsS79 w _ g547 t562 from by repeat (first | (with_reducible first | exact HI547.out | apply IsS79.alloc | apply IsS79.drewN | apply IsS79.drew | apply IsS79.set_0 | refine IsS79.far ?_ NB547_563.out _ | refine IsS79.far ?_ NB547_588.out _) | exact HI547.out)) (by (with_reducible repeat (first | apply Kd.R_alloc | apply Kd.R_drewN | apply Kd.R_drew)); exact (Kd.R_mono (Kd.R_far (p := ⟨gb588, 4, none⟩) (Kd.R_far (p := ⟨gb588, 3, none⟩) (Kd.R_far (p := ⟨gb588, 2, none⟩) (Kd.R_far (p := ⟨gb588, 1, none⟩) (Kd.R_far (p := ⟨gb588, 0, none⟩) (Kd.R_types HO_564004.out BK588.out (by decide)) (fun _ hk => hk.2) (.slice Ao60 t577.length co60)) (fun _ hk => hk.2) (.int .i64 t580)) (fun _ hk => hk.2) (.slice Ao64 t581.length co64)) (fun _ hk => hk.2) (.int .i64 t584)) (fun _ hk => hk.2) (.slice Ao65 t585.length co65)) (fun _ h_ => h_.1))) (by decide)) hk (fun _ h => h.2)) (fun _ h => h.1)); have n5_ := Aside0.mk (KeepBut.blk hk (g' := gb563) (o := .cells #[.slice Ao11 t548.length co11, .int .i64 t551, .slice Ao14 t552.length co14, .int .i64 t555, .slice Ao15 t556.length co15] 26 (0, 0)) (by (with_reducible repeat (first | refine blk_drewN ?_ _ | refine blk_drew ?_ | refine blk_alloc ?_ _)); refine blk_far ?_ NB563_588.out _; (with_reducible repeat (first | refine blk_drewN ?_ _ | refine blk_drew ?_ | refine blk_alloc ?_ _)); refine blk_far ?_ NB563_588.out _; (with_reducible repeat (first | refine blk_drewN ?_ _ | refine blk_drew ?_ | refine blk_alloc ?_ _)); refine blk_far ?_ NB563_588.out _; (with_reducible repeat (first | refine blk_drewN ?_ _ | refine blk_drew ?_ | refine blk_alloc ?_ _)); refine blk_far ?_ NB563_588.out _; (with_reducible repeat (first | refine blk_drewN ?_ _ | refine blk_drew ?_ | refine blk_alloc ?_ _)); refine blk_far ?_ NB563_588.out _; (with_reducible repeat (first | refine blk_drewN ?_ _ | refine blk_drew ?_ | refine blk_alloc ?_ _)); exact BK563.out) NB563_547.out (by simp)); have n6_ := Aside0.mk (Kd.S_mono (Kd.S_keep (IsS79.apartS (show IsS79 w _ g547 t562 from by repeat (first | (with_reducible first | exact HI547.out | apply IsS79.alloc | apply IsS79.drewN | apply IsS79.drew | apply IsS79.set_0 | refine IsS79.far ?_ NB547_563.out _ | refine IsS79.far ?_ NB547_588.out _) | exact HI547.out)) (by (with_reducible repeat (first | apply Kd.S_alloc | apply Kd.S_drewN | apply Kd.S_drew)); exact (Kd.S_mono (Kd.S_far (p := ⟨gb588, 4, none⟩) (Kd.S_far (p := ⟨gb588, 3, none⟩) (Kd.S_far (p := ⟨gb588, 2, none⟩) (Kd.S_far (p := ⟨gb588, 1, none⟩) (Kd.S_far (p := ⟨gb588, 0, none⟩) (Kd.S_types HO579.out BK588.out (by decide)) (fun _ hk => hk.2) (.slice Ao60 t577.length co60)) (fun _ hk => hk.2) (.int .i64 t580)) (fun _ hk => hk.2) (.slice Ao64 t581.length co64)) (fun _ hk => hk.2) (.int .i64 t584)) (fun _ hk => hk.2) (.slice Ao65 t585.length co65)) (fun _ h_ => h_.1))) (by decide)) hk (fun _ h => h.2)) (fun _ h => h.1)); have n7_ := Aside0.mk (Kd.R_mono (Kd.R_keep (IsS79.apart (show IsS79 w _ g547 t562 from by repeat (first | (with_reducible first | exact HI547.out | apply IsS79.alloc | apply IsS79.drewN | apply IsS79.drew | apply IsS79.set_0 | refine IsS79.far ?_ NB547_563.out _ | refine IsS79.far ?_ NB547_588.out _) | exact HI547.out)) (by (with_reducible repeat (first | apply Kd.R_alloc | apply Kd.R_drewN | apply Kd.R_drew)); exact (Kd.R_mono (Kd.R_far (p := ⟨gb588, 4, none⟩) (Kd.R_far (p := ⟨gb588, 3, none⟩) (Kd.R_far (p := ⟨gb588, 2, none⟩) (Kd.R_far (p := ⟨gb588, 1, none⟩) (Kd.R_far (p := ⟨gb588, 0, none⟩) (Kd.R_types HO583.out BK588.out (by decide)) (fun _ hk => hk.2) (.slice Ao60 t577.length co60)) (fun _ hk => hk.2) (.int .i64 t580)) (fun _ hk => hk.2) (.slice Ao64 t581.length co64)) (fun _ hk => hk.2) (.int .i64 t584)) (fun _ hk => hk.2) (.slice Ao65 t585.length co65)) (fun _ h_ => h_.1))) (by decide)) hk (fun _ h => h.2)) (fun _ h => h.1)); have n8_ := Aside0.mk (Kd.R_mono (Kd.R_keep (IsS79.apart (show IsS79 w _ g547 t562 from by repeat (first | (with_reducible first | exact HI547.out | apply IsS79.alloc | apply IsS79.drewN | apply IsS79.drew | apply IsS79.set_0 | refine IsS79.far ?_ NB547_563.out _ | refine IsS79.far ?_ NB547_588.out _) | exact HI547.out)) (by (with_reducible repeat (first | apply Kd.R_alloc | apply Kd.R_drewN | apply Kd.R_drew)); exact (Kd.R_mono (Kd.R_far (p := ⟨gb588, 4, none⟩) (Kd.R_far (p := ⟨gb588, 3, none⟩) (Kd.R_far (p := ⟨gb588, 2, none⟩) (Kd.R_far (p := ⟨gb588, 1, none⟩) (Kd.R_far (p := ⟨gb588, 0, none⟩) (Kd.R_types HO587.out BK588.out (by decide)) (fun _ hk => hk.2) (.slice Ao60 t577.length co60)) (fun _ hk => hk.2) (.int .i64 t580)) (fun _ hk => hk.2) (.slice Ao64 t581.length co64)) (fun _ hk => hk.2) (.int .i64 t584)) (fun _ hk => hk.2) (.slice Ao65 t585.length co65)) (fun _ h_ => h_.1))) (by decide)) hk (fun _ h => h.2)) (fun _ h => h.1)); have n9_ := Aside0.mk (KeepBut.blk hk (g' := gb588) (o := .cells #[.slice Ao60 t577.length co60, .int .i64 t580, .slice Ao64 t581.length co64, .int .i64 t584, .slice Ao65 t585.length co65] 26 (0, 0)) (by (with_reducible repeat (first | refine blk_drewN ?_ _ | refine blk_drew ?_ | refine blk_alloc ?_ _)); refine blk_put (cs := #[.slice Ao60 t577.length co60, .int .i64 t580, .slice Ao64 t581.length co64, .int .i64 t584, .slice none 0 0]) ?_ 4 _ rfl; (with_reducible repeat (first | refine blk_drewN ?_ _ | refine blk_drew ?_ | refine blk_alloc ?_ _)); refine blk_put (cs := #[.slice Ao60 t577.length co60, .int .i64 t580, .slice Ao64 t581.length co64, .int .i64 0, .slice none 0 0]) ?_ 3 _ rfl; (with_reducible repeat (first | refine blk_drewN ?_ _ | refine blk_drew ?_ | refine blk_alloc ?_ _)); refine blk_put (cs := #[.slice Ao60 t577.length co60, .int .i64 t580, .slice none 0 0, .int .i64 0, .slice none 0 0]) ?_ 2 _ rfl; (with_reducible repeat (first | refine blk_drewN ?_ _ | refine blk_drew ?_ | refine blk_alloc ?_ _)); refine blk_put (cs := #[.slice Ao60 t577.length co60, .int .i64 0, .slice none 0 0, .int .i64 0, .slice none 0 0]) ?_ 1 _ rfl; (with_reducible repeat (first | refine blk_drewN ?_ _ | refine blk_drew ?_ | refine blk_alloc ?_ _)); refine blk_put (cs := #[.slice none 0 0, .int .i64 0, .slice none 0 0, .int .i64 0, .slice none 0 0]) ?_ 0 _ rfl; (with_reducible repeat (first | refine blk_drewN ?_ _ | refine blk_drew ?_ | refine blk_alloc ?_ _)); exact BK588.out) NB588_547.out (by simp)); have n10_ := Aside0.mk (hb); have n11_ := Aside0.mk (hi); clear HO_5; clear HO_6; clear HO_564000; clear HO_564002; clear HO_564004; clear BK563; clear HO579; clear HO583; clear HO587; clear BK588; clear HB; clear HI547; have HO_5 := n0_; have HO_6 := n1_; have HO_564000 := n2_; have HO_564002 := n3_; have HO_564004 := n4_; have BK563 := n5_; have HO579 := n6_; have HO583 := n7_; have HO587 := n8_; have BK588 := n9_; have HB := n10_; have HI547 := n11_; clear n0_ n1_ n2_ n3_ n4_ n5_ n6_ n7_ n8_ n9_ n10_ n11_; (try clear hb); (try clear hb2); (try clear hk); (try clear hi); have hcz68_0 : w67.cell? ⟨gb588, 0, none⟩ = some (.slice Ao60 t577.length co60) := (blk_cell BK588.out 0).trans rfl; have hcz68_1 : w67.cell? ⟨gb588, 1, none⟩ = some (.int .i64 t580) := (blk_cell BK588.out 1).trans rfl; have hcz68_2 : w67.cell? ⟨gb588, 2, none⟩ = some (.slice Ao64 t581.length co64) := (blk_cell BK588.out 2).trans rfl; have hcz68_3 : w67.cell? ⟨gb588, 3, none⟩ = some (.int .i64 t584) := (blk_cell BK588.out 3).trans rfl; have hcz68_4 : w67.cell? ⟨gb588, 4, none⟩ = some (.slice Ao65 t585.length co65) := (blk_cell BK588.out 4).trans rfl; have hfz68_0 := blk_frozen BK588.out 0; have hfz68_1 := blk_frozen BK588.out 1; have hfz68_2 := blk_frozen BK588.out 2; have hfz68_3 := blk_frozen BK588.out 3; have hfz68_4 := blk_frozen BK588.out 4) | (go_at_call 26; (with_reducible refine (strip_Out.calls _ _ t577 t580 _ _ t581 t589 _ _ t585 t591 t594 _ ?side1 ?side2 ?side3 ?side4 ?side5 ?side6 A51.out).mono ?_); (case side1 => refine (Kd.S_reads' (e := 50) (base := w.heap.size) (ok := fun k_ => (((some k_ ≠ (.slice Ao65 t585.length co65 : Value).ownBlock ∧ some k_ ≠ (.slice Ao55 t564.length co55 : Value).ownBlock) ∧ some k_ ≠ (.slice Ao11 t548.length co11 : Value).ownBlock) ∧ some k_ ≠ (.slice Ao15 t556.length co15 : Value).ownBlock)) (n := t577.length) (c := co60) ?_).2.2; exact (by (with_reducible repeat (first | apply Kd.S_alloc | apply Kd.S_drewN | apply Kd.S_drew)); exact (Kd.S_mono (Kd.S_far (p := ⟨gb588, 3, none⟩) (Kd.S_types HO579.out BK588.out (by decide)) (fun _ hk => hk.2) (.int .i64 t589)) (fun _ h_ => h_.1)))); (case side2 => exact (Kd.S_reads' HO579.out).2.1); (case side3 => refine (Kd.R_reads' (e := 61) (base := w.heap.size) (ok := fun k_ => (True ∧ some k_ ≠ (.slice Ao14 t552.length co14 : Value).ownBlock)) (n := t581.length) (c := co64) ?_).2.2; exact (by (with_reducible repeat (first | apply Kd.R_alloc | apply Kd.R_drewN | apply Kd.R_drew)); exact (Kd.R_mono (Kd.R_far (p := ⟨gb588, 3, none⟩) (Kd.R_types HO583.out BK588.out (by decide)) (fun _ hk => hk.2) (.int .i64 t589)) (fun _ h_ => h_.1)))); (case side4 => exact (Kd.R_reads' HO583.out).2.1); (case side5 => refine (Kd.R_reads' (e := 3) (base := w.heap.size) (ok := fun k_ => ((True ∧ some k_ ≠ (.slice Ao55 t564.length co55 : Value).ownBlock) ∧ some k_ ≠ (.slice Ao15 t556.length co15 : Value).ownBlock)) (n := t585.length) (c := co65) ?_).2.2; exact (by (with_reducible repeat (first | apply Kd.R_alloc | apply Kd.R_drewN | apply Kd.R_drew)); exact (Kd.R_mono (Kd.R_far (p := ⟨gb588, 3, none⟩) (Kd.R_types HO587.out BK588.out (by decide)) (fun _ hk => hk.2) (.int .i64 t589)) (fun _ h_ => h_.1)))); (case side6 => exact (Kd.R_reads' HO587.out).2.1); rintro e w69 ⟨v592, rfl, ho0, hb⟩; have n0_ := Aside0.mk (Kd.R_below (by (with_reducible repeat (first | apply Kd.R_alloc | apply Kd.R_drewN | apply Kd.R_drew)); exact (Kd.R_mono (Kd.R_far (p := ⟨gb588, 3, none⟩) (Kd.R_types HO_5.out BK588.out (by decide)) (fun _ hk => hk.2) (.int .i64 t589)) (fun _ h_ => h_.1))) hb); have n1_ := Aside0.mk (Kd.R_elder' (by (with_reducible repeat (first | apply Kd.R_alloc | apply Kd.R_drewN | apply Kd.R_drew)); exact (Kd.R_mono (Kd.R_far (p := ⟨gb588, 3, none⟩) (Kd.R_types HO_6.out BK588.out (by decide)) (fun _ hk => hk.2) (.int .i64 t589)) (fun _ h_ => h_.1))) (Kd.R_base ho0) hb); have n2_ := Aside0.mk (Kd.S_elder' (by (with_reducible repeat (first | apply Kd.S_alloc | apply Kd.S_drewN | apply Kd.S_drew)); exact (Kd.S_mono (Kd.S_far (p := ⟨gb588, 3, none⟩) (Kd.S_types HO_564000.out BK588.out (by decide)) (fun _ hk => hk.2) (.int .i64 t589)) (fun _ h_ => h_.1))) (Kd.R_base ho0) hb); have n3_ := Aside0.mk (Kd.R_below (by (with_reducible repeat (first | apply Kd.R_alloc | apply Kd.R_drewN | apply Kd.R_drew)); exact (Kd.R_mono (Kd.R_far (p := ⟨gb588, 3, none⟩) (Kd.R_types HO_564002.out BK588.out (by decide)) (fun _ hk => hk.2) (.int .i64 t589)) (fun _ h_ => h_.1))) hb); have n4_ := Aside0.mk (Kd.R_elder' (by (with_reducible repeat (first | apply Kd.R_alloc | apply Kd.R_drewN | apply Kd.R_drew)); exact (Kd.R_mono (Kd.R_far (p := ⟨gb588, 3, none⟩) (Kd.R_types HO_564004.out BK588.out (by decide)) (fun _ hk => hk.2) (.int .i64 t589)) (fun _ h_ => h_.1))) (Kd.R_base ho0) hb); have n5_ := Aside0.mk (Kd.S_elder' (by (with_reducible repeat (first | apply Kd.S_alloc | apply Kd.S_drewN | apply Kd.S_drew)); exact (Kd.S_mono (Kd.S_far (p := ⟨gb588, 3, none⟩) (Kd.S_types HO579.out BK588.out (by decide)) (fun _ hk => hk.2) (.int .i64 t589)) (fun _ h_ => h_.1))) (Kd.R_base ho0) hb); have n6_ := Aside0.mk (Kd.R_below (by (with_reducible repeat (first | apply Kd.R_alloc | apply Kd.R_drewN | apply Kd.R_drew)); exact (Kd.R_mono (Kd.R_far (p := ⟨gb588, 3, none⟩) (Kd.R_types HO583.out BK588.out (by decide)) (fun _ hk => hk.2) (.int .i64 t589)) (fun _ h_ => h_.1))) hb); have n7_ := Aside0.mk (Kd.R_elder' (by (with_reducible repeat (first | apply Kd.R_alloc | apply Kd.R_drewN | apply Kd.R_drew)); exact (Kd.R_mono (Kd.R_far (p := ⟨gb588, 3, none⟩) (Kd.R_types HO587.out BK588.out (by decide)) (fun _ hk => hk.2) (.int .i64 t589)) (fun _ h_ => h_.1))) (Kd.R_base ho0) hb); have n8_ := Aside0.mk (Kd.R_lower (Kd.R_new' (Kd.R_new' (Kd.R_new' ho0 (Kd.R_lt (by (with_reducible repeat (first | apply Kd.R_alloc | apply Kd.R_drewN | apply Kd.R_drew)); exact (Kd.R_mono (Kd.R_far (p := ⟨gb588, 3, none⟩) (Kd.R_types HO_6.out BK588.out (by decide)) (fun _ hk => hk.2) (.int .i64 t589)) (fun _ h_ => h_.1))))) (Kd.R_lt (by (with_reducible repeat (first | apply Kd.R_alloc | apply Kd.R_drewN | apply Kd.R_drew)); exact (Kd.R_mono (Kd.R_far (p := ⟨gb588, 3, none⟩) (Kd.R_types HO_564004.out BK588.out (by decide)) (fun _ hk => hk.2) (.int .i64 t589)) (fun _ h_ => h_.1))))) (Kd.R_lt (by (with_reducible repeat (first | apply Kd.R_alloc | apply Kd.R_drewN | apply Kd.R_drew)); exact (Kd.R_mono (Kd.R_far (p := ⟨gb588, 3, none⟩) (Kd.R_types HO587.out BK588.out (by decide)) (fun _ hk => hk.2) (.int .i64 t589)) (fun _ h_ => h_.1))))) (below_size (by repeat (first | (with_reducible first | exact HB.out | apply below_alloc | apply pw_below_drewN | apply below_drew1 | refine below_set ?_ (IsS79.ge HI547.out) | refine below_set ?_ GE563.out | refine below_set ?_ GE588.out) | exact HB.out)))); have n9_ := Aside0.mk (blk_below (g := gb563) (o := .cells #[.slice Ao11 t548.length co11, .int .i64 t551, .slice Ao14 t552.length co14, .int .i64 t555, .slice Ao15 t556.length co15] 26 (0, 0)) (by (with_reducible repeat (first | refine blk_drewN ?_ _ | refine blk_drew ?_ | refine blk_alloc ?_ _)); refine blk_far ?_ NB563_588.out _; (with_reducible repeat (first | refine blk_drewN ?_ _ | refine blk_drew ?_ | refine blk_alloc ?_ _)); exact BK563.out) hb); have n10_ := Aside0.mk (IsS79.below (show IsS79 w (w67.setCell ⟨gb588, 3, none⟩ (.int .i64 t589)) g547 t590 from by repeat (first | (with_reducible first | exact HI547.out | apply IsS79.alloc | apply IsS79.drewN | apply IsS79.drew | apply IsS79.set_0 | refine IsS79.far ?_ NB547_563.out _ | refine IsS79.far ?_ NB547_588.out _) | exact HI547.out)) hb); have n11_ := Aside0.mk (blk_below (g := gb588) (o := .cells #[.slice Ao60 t577.length co60, .int .i64 t580, .slice Ao64 t581.length co64, .int .i64 t589, .slice Ao65 t585.length co65] 26 (0, 0)) (by (with_reducible repeat (first | refine blk_drewN ?_ _ | refine blk_drew ?_ | refine blk_alloc ?_ _)); refine blk_put (cs := #[.slice Ao60 t577.length co60, .int .i64 t580, .slice Ao64 t581.length co64, .int .i64 t584, .slice Ao65 t585.length co65]) ?_ 3 _ rfl; (with_reducible repeat (first | refine blk_drewN ?_ _ | refine blk_drew ?_ | refine blk_alloc ?_ _)); exact BK588.out) hb); have n12_ := Aside0.mk (below_step (by repeat (first | (with_reducible first | exact HB.out | apply below_alloc | apply pw_below_drewN | apply below_drew1 | refine below_set ?_ (IsS79.ge HI547.out) | refine below_set ?_ GE563.out | refine below_set ?_ GE588.out) | exact HB.out)) hb); clear HO_5; clear HO_6; clear HO_564000; clear HO_564002; clear HO_564004; clear HO579; clear HO583; clear HO587; clear BK563; clear HI547; clear BK588; clear HB; have HO_5 := n0_; have HO_6 := n1_; have HO_564000 := n2_; have HO_564002 := n3_; have HO_564004 := n4_; have HO579 := n5_; have HO583 := n6_; have HO587 := n7_; have HO593 := n8_; have BK563 := n9_; have HI547 := n10_; have BK588 := n11_; have HB := n12_; clear n0_ n1_ n2_ n3_ n4_ n5_ n6_ n7_ n8_ n9_ n10_ n11_ n12_; (try clear hb); (try clear hb2); (try clear hk); (try clear hi); (try clear ho0); have hcz70_0 : w69.cell? ⟨gb588, 0, none⟩ = some (.slice Ao60 t577.length co60) := (blk_cell BK588.out 0).trans rfl; have hcz70_1 : w69.cell? ⟨gb588, 1, none⟩ = some (.int .i64 t580) := (blk_cell BK588.out 1).trans rfl; have hcz70_2 : w69.cell? ⟨gb588, 2, none⟩ = some (.slice Ao64 t581.length co64) := (blk_cell BK588.out 2).trans rfl; have hcz70_3 : w69.cell? ⟨gb588, 3, none⟩ = some (.int .i64 t589) := (blk_cell BK588.out 3).trans rfl; have hcz70_4 : w69.cell? ⟨gb588, 4, none⟩ = some (.slice Ao65 t585.length co65) := (blk_cell BK588.out 4).trans rfl; have hfz70_0 := blk_frozen BK588.out 0; have hfz70_1 := blk_frozen BK588.out 1; have hfz70_2 := blk_frozen BK588.out 2; have hfz70_3 := blk_frozen BK588.out 3; have hfz70_4 := blk_frozen BK588.out 4) | (go_at_call 16; (with_reducible refine (swarflaw04_awake.calls k2  t595 _ A54.out).mono ?_); rintro e w71 ⟨rfl, hb⟩; have n0_ := Aside0.mk (Kd.R_below (by (with_reducible repeat (first | apply Kd.R_alloc | apply Kd.R_drewN | apply Kd.R_drew)); exact HO_5.out) hb); have n1_ := Aside0.mk (Kd.R_below (by (with_reducible repeat (first | apply Kd.R_alloc | apply Kd.R_drewN | apply Kd.R_drew)); exact HO_6.out) hb); have n2_ := Aside0.mk (Kd.S_below (by (with_reducible repeat (first | apply Kd.S_alloc | apply Kd.S_drewN | apply Kd.S_drew)); exact HO_564000.out) hb); have n3_ := Aside0.mk (Kd.R_below (by (with_reducible repeat (first | apply Kd.R_alloc | apply Kd.R_drewN | apply Kd.R_drew)); exact HO_564002.out) hb); have n4_ := Aside0.mk (Kd.R_below (by (with_reducible repeat (first | apply Kd.R_alloc | apply Kd.R_drewN | apply Kd.R_drew)); exact HO_564004.out) hb); have n5_ := Aside0.mk (Kd.S_below (by (with_reducible repeat (first | apply Kd.S_alloc | apply Kd.S_drewN | apply Kd.S_drew)); exact HO579.out) hb); have n6_ := Aside0.mk (Kd.R_below (by (with_reducible repeat (first | apply Kd.R_alloc | apply Kd.R_drewN | apply Kd.R_drew)); exact HO583.out) hb); have n7_ := Aside0.mk (Kd.R_below (by (with_reducible repeat (first | apply Kd.R_alloc | apply Kd.R_drewN | apply Kd.R_drew)); exact HO587.out) hb); have n8_ := Aside0.mk (Kd.R_below (by (with_reducible repeat (first | apply Kd.R_alloc | apply Kd.R_drewN | apply Kd.R_drew)); exact HO593.out) hb); have n9_ := Aside0.mk (blk_below (g := gb563) (o := .cells #[.slice Ao11 t548.length co11, .int .i64 t551, .slice Ao14 t552.length co14, .int .i64 t555, .slice Ao15 t556.length co15] 26 (0, 0)) (by (with_reducible repeat (first | refine blk_drewN ?_ _ | refine blk_drew ?_ | refine blk_alloc ?_ _)); exact BK563.out) hb); have n10_ := Aside0.mk (IsS79.below (by repeat (first | (with_reducible first | exact HI547.out | apply IsS79.alloc | apply IsS79.drewN | apply IsS79.drew | apply IsS79.set_0 | refine IsS79.far ?_ NB547_563.out _ | refine IsS79.far ?_ NB547_588.out _) | exact HI547.out)) hb); have n11_ := Aside0.mk (blk_below (g := gb588) (o := .cells #[.slice Ao60 t577.length co60, .int .i64 t580, .slice Ao64 t581.length co64, .int .i64 t589, .slice Ao65 t585.length co65] 26 (0, 0)) (by (with_reducible repeat (first | refine blk_drewN ?_ _ | refine blk_drew ?_ | refine blk_alloc ?_ _)); exact BK588.out) hb); have n12_ := Aside0.mk (below_step (by repeat (first | (with_reducible first | exact HB.out | apply below_alloc | apply pw_below_drewN | apply below_drew1 | refine below_set ?_ (IsS79.ge HI547.out) | refine below_set ?_ GE563.out | refine below_set ?_ GE588.out) | exact HB.out)) hb); clear HO_5; clear HO_6; clear HO_564000; clear HO_564002; clear HO_564004; clear HO579; clear HO583; clear HO587; clear HO593; clear BK563; clear HI547; clear BK588; clear HB; have HO_5 := n0_; have HO_6 := n1_; have HO_564000 := n2_; have HO_564002 := n3_; have HO_564004 := n4_; have HO579 := n5_; have HO583 := n6_; have HO587 := n7_; have HO593 := n8_; have BK563 := n9_; have HI547 := n10_; have BK588 := n11_; have HB := n12_; clear n0_ n1_ n2_ n3_ n4_ n5_ n6_ n7_ n8_ n9_ n10_ n11_ n12_; (try clear hb); (try clear hb2); (try clear hk); (try clear hi)))
                  go_ret
                  exact ⟨by first | rfl | (simp [errW_none, errW_some] <;> rfl) | (simp [*, errW_none, errW_some] <;> rfl), by repeat (first | (with_reducible first | exact HB.out | apply below_alloc | apply pw_below_drewN | apply below_drew1 | refine below_set ?_ (IsS79.ge HI547.out) | refine below_set ?_ GE563.out | refine below_set ?_ GE588.out) | exact HB.out)⟩
                · rw [if_neg c53] at H
                  have c53b0 : (t594 == 9) = false := beq_eq_false_iff_ne.mpr c53
                  have c53b1 : (t594 != 9) = true := bne_iff_ne.mpr c53
                  exact absurd ((Option.some.inj H).trans hrt.out) (by decide)
              · rw [if_neg c52] at H
                have c52b0 : decide (t589 < t570) = false := decide_eq_false c52
                clear c52
                by_cases c88 : t594 = 0
                · rw [if_pos c88] at H
                  have c88b0 : (t594 == 0) = true := beq_iff_eq.mpr c88
                  have c88b1 : (t594 != 0) = false := bne_eq_false_iff_eq.mpr c88
                  clear c88
                  replace H := Option.bind_eq_some_iff.mp H
                  obtain ⟨t596, A890, H⟩ := H
                  replace H : (some t596) = some r := H
                  have A89 := Aside0.mk A890
                  clear A890
                  obtain rfl := Option.some.inj H
                  obtain ⟨Ao90, co90, eo90⟩ := Kd.R_slice HO_6.out
                  subst eo90
                  have hnb91 := NB563_547.out
                  have hnc91 := NB547_563.out
                  have hcz92_0 : wr.cell? ⟨gb563, 0, none⟩ = some (.slice Ao11 t548.length co11) := (blk_cell BK563.out 0).trans rfl
                  have hcz92_1 : wr.cell? ⟨gb563, 1, none⟩ = some (.int .i64 t551) := (blk_cell BK563.out 1).trans rfl
                  have hcz92_2 : wr.cell? ⟨gb563, 2, none⟩ = some (.slice Ao14 t552.length co14) := (blk_cell BK563.out 2).trans rfl
                  have hcz92_3 : wr.cell? ⟨gb563, 3, none⟩ = some (.int .i64 t555) := (blk_cell BK563.out 3).trans rfl
                  have hcz92_4 : wr.cell? ⟨gb563, 4, none⟩ = some (.slice Ao15 t556.length co15) := (blk_cell BK563.out 4).trans rfl
                  have hfz92_0 := blk_frozen BK563.out 0
                  have hfz92_1 := blk_frozen BK563.out 1
                  have hfz92_2 := blk_frozen BK563.out 2
                  have hfz92_3 := blk_frozen BK563.out 3
                  have hfz92_4 := blk_frozen BK563.out 4
                  go_wp2_with (first | (go_at_call 19; (with_reducible refine (swarfkit_CopyCar.calls k2 _ _ t548 t551 _ _ t552 t555 _ _ t556 t577 t580 t581 t584 t585 _ ?side1 ?side2 ?side3 ?side4 ?side5 ?side6 A49.out).mono ?_); (case side1 => repeat (first | exact (Kd.S_reads' HO_564000.out).2.2 | (with_reducible refine Kd.C_alloc ?_ _) | (with_reducible refine Kd.C_drewN ?_ _) | (with_reducible refine Kd.C_drew ?_))); (case side2 => exact (Kd.S_reads' HO_564000.out).2.1); (case side3 => repeat (first | exact (Kd.R_reads' HO_564002.out).2.2 | (with_reducible refine Kd.C_alloc ?_ _) | (with_reducible refine Kd.C_drewN ?_ _) | (with_reducible refine Kd.C_drew ?_))); (case side4 => exact (Kd.R_reads' HO_564002.out).2.1); (case side5 => repeat (first | exact (Kd.R_reads' HO_564004.out).2.2 | (with_reducible refine Kd.C_alloc ?_ _) | (with_reducible refine Kd.C_drewN ?_ _) | (with_reducible refine Kd.C_drew ?_))); (case side6 => exact (Kd.R_reads' HO_564004.out).2.1); rintro e w93 ⟨v578, v582, v586, rfl, ho0, ho1, ho2, hb⟩; have n0_ := Aside0.mk (Kd.R_below (by (with_reducible repeat (first | apply Kd.R_alloc | apply Kd.R_drewN | apply Kd.R_drew)); exact HO_5.out) hb); have n1_ := Aside0.mk (Kd.R_elder' (by (with_reducible repeat (first | apply Kd.R_alloc | apply Kd.R_drewN | apply Kd.R_drew)); exact HO_6.out) (Kd.R_base ho2) hb); have n2_ := Aside0.mk (Kd.S_mono (Kd.S_told (Kd.S_told (Kd.S_old (by (with_reducible repeat (first | apply Kd.S_alloc | apply Kd.S_drewN | apply Kd.S_drew)); exact HO_564000.out) hb) (Kd.S_base ho0)) (Kd.R_base ho2)) (fun _ h_ => h_.1)); have n3_ := Aside0.mk (Kd.R_elder' (by (with_reducible repeat (first | apply Kd.R_alloc | apply Kd.R_drewN | apply Kd.R_drew)); exact HO_564002.out) (Kd.R_base ho1) hb); have n4_ := Aside0.mk (Kd.R_elder' (by (with_reducible repeat (first | apply Kd.R_alloc | apply Kd.R_drewN | apply Kd.R_drew)); exact HO_564004.out) (Kd.R_base ho2) hb); have n5_ := Aside0.mk (Kd.S_lower (Kd.S_new' (Kd.S_new' (Kd.S_new' ho0 (Kd.R_lt (by (with_reducible repeat (first | apply Kd.R_alloc | apply Kd.R_drewN | apply Kd.R_drew)); exact HO_6.out))) (Kd.S_lt (by (with_reducible repeat (first | apply Kd.S_alloc | apply Kd.S_drewN | apply Kd.S_drew)); exact HO_564000.out))) (Kd.R_lt (by (with_reducible repeat (first | apply Kd.R_alloc | apply Kd.R_drewN | apply Kd.R_drew)); exact HO_564004.out))) (below_size (by repeat (first | (with_reducible first | exact HB.out | apply below_alloc | apply pw_below_drewN | apply below_drew1 | refine below_set ?_ (IsS79.ge HI547.out) | refine below_set ?_ GE563.out) | exact HB.out)))); have n6_ := Aside0.mk (Kd.R_lower (Kd.R_new' ho1 (Kd.R_lt (by (with_reducible repeat (first | apply Kd.R_alloc | apply Kd.R_drewN | apply Kd.R_drew)); exact HO_564002.out))) (below_size (by repeat (first | (with_reducible first | exact HB.out | apply below_alloc | apply pw_below_drewN | apply below_drew1 | refine below_set ?_ (IsS79.ge HI547.out) | refine below_set ?_ GE563.out) | exact HB.out)))); have n7_ := Aside0.mk (Kd.R_lower (Kd.R_new' (Kd.R_new' ho2 (Kd.R_lt (by (with_reducible repeat (first | apply Kd.R_alloc | apply Kd.R_drewN | apply Kd.R_drew)); exact HO_6.out))) (Kd.R_lt (by (with_reducible repeat (first | apply Kd.R_alloc | apply Kd.R_drewN | apply Kd.R_drew)); exact HO_564004.out))) (below_size (by repeat (first | (with_reducible first | exact HB.out | apply below_alloc | apply pw_below_drewN | apply below_drew1 | refine below_set ?_ (IsS79.ge HI547.out) | refine below_set ?_ GE563.out) | exact HB.out)))); have n8_ := Aside0.mk (blk_below (g := gb563) (o := .cells #[.slice Ao11 t548.length co11, .int .i64 t551, .slice Ao14 t552.length co14, .int .i64 t555, .slice Ao15 t556.length co15] 26 (0, 0)) (by (with_reducible repeat (first | refine blk_drewN ?_ _ | refine blk_drew ?_ | refine blk_alloc ?_ _)); exact BK563.out) hb); have n9_ := Aside0.mk (IsS79.below (by repeat (first | (with_reducible first | exact HI547.out | apply IsS79.alloc | apply IsS79.drewN | apply IsS79.drew | apply IsS79.set_0 | refine IsS79.far ?_ NB547_563.out _) | exact HI547.out)) hb); have n10_ := Aside0.mk (below_step (by repeat (first | (with_reducible first | exact HB.out | apply below_alloc | apply pw_below_drewN | apply below_drew1 | refine below_set ?_ (IsS79.ge HI547.out) | refine below_set ?_ GE563.out) | exact HB.out)) hb); clear HO_5; clear HO_6; clear HO_564000; clear HO_564002; clear HO_564004; clear BK563; clear HI547; clear HB; have HO_5 := n0_; have HO_6 := n1_; have HO_564000 := n2_; have HO_564002 := n3_; have HO_564004 := n4_; have HO579 := n5_; have HO583 := n6_; have HO587 := n7_; have BK563 := n8_; have HI547 := n9_; have HB := n10_; clear n0_ n1_ n2_ n3_ n4_ n5_ n6_ n7_ n8_ n9_ n10_; (try clear hb); (try clear hb2); (try clear hk); (try clear hi); (try clear ho0); (try clear ho1); (try clear ho2)) | ((with_reducible refine gate_dst (N := 13) rfl ?_); (try (refine gate_guard (by rfl) ?_; dsimp only)); refine box_event ?hg (N := 13) ?hd (cs := #[.slice none 0 0, .int .i64 0, .slice none 0 0, .int .i64 0, .slice none 0 0]) (t := 26) ?hr ?_; (case hd => rfl); (case hg => rfl); (case hr => first | (go_simp; done) | (go_simp; rfl)); intro gb588 hg w94 hbox hb; have n0_ := Aside0.mk (Kd.R_below (by (with_reducible repeat (first | apply Kd.R_alloc | apply Kd.R_drewN | apply Kd.R_drew)); exact HO_5.out) hb); have n1_ := Aside0.mk (Kd.R_below (by (with_reducible repeat (first | apply Kd.R_alloc | apply Kd.R_drewN | apply Kd.R_drew)); exact HO_6.out) hb); have n2_ := Aside0.mk (Kd.S_below (by (with_reducible repeat (first | apply Kd.S_alloc | apply Kd.S_drewN | apply Kd.S_drew)); exact HO_564000.out) hb); have n3_ := Aside0.mk (Kd.R_below (by (with_reducible repeat (first | apply Kd.R_alloc | apply Kd.R_drewN | apply Kd.R_drew)); exact HO_564002.out) hb); have n4_ := Aside0.mk (Kd.R_below (by (with_reducible repeat (first | apply Kd.R_alloc | apply Kd.R_drewN | apply Kd.R_drew)); exact HO_564004.out) hb); have n5_ := Aside0.mk (Kd.S_below (by (with_reducible repeat (first | apply Kd.S_alloc | apply Kd.S_drewN | apply Kd.S_drew)); exact HO579.out) hb); have n6_ := Aside0.mk (Kd.R_below (by (with_reducible repeat (first | apply Kd.R_alloc | apply Kd.R_drewN | apply Kd.R_drew)); exact HO583.out) hb); have n7_ := Aside0.mk (Kd.R_below (by (with_reducible repeat (first | apply Kd.R_alloc | apply Kd.R_drewN | apply Kd.R_drew)); exact HO587.out) hb); have n8_ := Aside0.mk (blk_below (g := gb563) (o := .cells #[.slice Ao11 t548.length co11, .int .i64 t551, .slice Ao14 t552.length co14, .int .i64 t555, .slice Ao15 t556.length co15] 26 (0, 0)) (by (with_reducible repeat (first | refine blk_drewN ?_ _ | refine blk_drew ?_ | refine blk_alloc ?_ _)); exact BK563.out) hb); have n9_ := Aside0.mk (IsS79.below (by repeat (first | (with_reducible first | exact HI547.out | apply IsS79.alloc | apply IsS79.drewN | apply IsS79.drew | apply IsS79.set_0 | refine IsS79.far ?_ NB547_563.out _) | exact HI547.out)) hb); have n10_ := Aside0.mk (below_step (by repeat (first | (with_reducible first | exact HB.out | apply below_alloc | apply pw_below_drewN | apply below_drew1 | refine below_set ?_ (IsS79.ge HI547.out) | refine below_set ?_ GE563.out) | exact HB.out)) hb); have n11_ := Aside0.mk (hbox); have n12_ := Aside0.mk ((by rw [hg]; exact (below_size (by repeat (first | (with_reducible first | exact HB.out | apply below_alloc | apply pw_below_drewN | apply below_drew1 | refine below_set ?_ (IsS79.ge HI547.out) | refine below_set ?_ GE563.out) | exact HB.out))) : w.heap.size ≤ gb588)); have n13_ := Aside0.mk ((by rw [hg]; exact (below_size (by repeat (first | (with_reducible first | exact HB.out | apply below_alloc | apply pw_below_drewN | apply below_drew1 | refine below_set ?_ (IsS79.ge HI547.out) | refine below_set ?_ GE563.out) | exact HB.out))) : w.heap.size ≤ gb588)); have n14_ := Aside0.mk ((by rw [hg]; exact Nat.ne_of_lt (blk_lt (g := gb563) (o := .cells #[.slice Ao11 t548.length co11, .int .i64 t551, .slice Ao14 t552.length co14, .int .i64 t555, .slice Ao15 t556.length co15] 26 (0, 0)) (by (with_reducible repeat (first | refine blk_drewN ?_ _ | refine blk_drew ?_ | refine blk_alloc ?_ _)); exact BK563.out)) : gb563 ≠ gb588)); have n15_ := Aside0.mk ((by rw [hg]; exact Nat.ne_of_gt (blk_lt (g := gb563) (o := .cells #[.slice Ao11 t548.length co11, .int .i64 t551, .slice Ao14 t552.length co14, .int .i64 t555, .slice Ao15 t556.length co15] 26 (0, 0)) (by (with_reducible repeat (first | refine blk_drewN ?_ _ | refine blk_drew ?_ | refine blk_alloc ?_ _)); exact BK563.out)) : gb588 ≠ gb563)); have n16_ := Aside0.mk ((by rw [hg]; exact Nat.ne_of_lt (IsS79.lt (show IsS79 w _ g547 t562 from by repeat (first | (with_reducible first | exact HI547.out | apply IsS79.alloc | apply IsS79.drewN | apply IsS79.drew | apply IsS79.set_0 | refine IsS79.far ?_ NB547_563.out _) | exact HI547.out))) : g547 ≠ gb588)); have n17_ := Aside0.mk ((by rw [hg]; exact Nat.ne_of_gt (IsS79.lt (show IsS79 w _ g547 t562 from by repeat (first | (with_reducible first | exact HI547.out | apply IsS79.alloc | apply IsS79.drewN | apply IsS79.drew | apply IsS79.set_0 | refine IsS79.far ?_ NB547_563.out _) | exact HI547.out))) : gb588 ≠ g547)); clear HO_5; clear HO_6; clear HO_564000; clear HO_564002; clear HO_564004; clear HO579; clear HO583; clear HO587; clear BK563; clear HI547; clear HB; have HO_5 := n0_; have HO_6 := n1_; have HO_564000 := n2_; have HO_564002 := n3_; have HO_564004 := n4_; have HO579 := n5_; have HO583 := n6_; have HO587 := n7_; have BK563 := n8_; have HI547 := n9_; have HB := n10_; have BK588 := n11_; have GW588 := n12_; have GE588 := n13_; have NB563_588 := n14_; have NB588_563 := n15_; have NB547_588 := n16_; have NB588_547 := n17_; clear n0_ n1_ n2_ n3_ n4_ n5_ n6_ n7_ n8_ n9_ n10_ n11_ n12_ n13_ n14_ n15_ n16_ n17_; clear hb hbox hg; obtain ⟨Ao95, co95, eo95⟩ := Kd.S_slice HO579.out; subst eo95; have hnb96 := NB588_563.out; have hnc96 := NB563_588.out; have hnb97 := NB588_547.out; have hnc97 := NB547_588.out; have hcz98_0 : w94.cell? ⟨gb588, 0, none⟩ = some (.slice none 0 0) := (blk_cell BK588.out 0).trans rfl; have hcz98_1 : w94.cell? ⟨gb588, 1, none⟩ = some (.int .i64 0) := (blk_cell BK588.out 1).trans rfl; have hcz98_2 : w94.cell? ⟨gb588, 2, none⟩ = some (.slice none 0 0) := (blk_cell BK588.out 2).trans rfl; have hcz98_3 : w94.cell? ⟨gb588, 3, none⟩ = some (.int .i64 0) := (blk_cell BK588.out 3).trans rfl; have hcz98_4 : w94.cell? ⟨gb588, 4, none⟩ = some (.slice none 0 0) := (blk_cell BK588.out 4).trans rfl; have hfz98_0 := blk_frozen BK588.out 0; have hfz98_1 := blk_frozen BK588.out 1; have hfz98_2 := blk_frozen BK588.out 2; have hfz98_3 := blk_frozen BK588.out 3; have hfz98_4 := blk_frozen BK588.out 4; obtain ⟨Ao99, co99, eo99⟩ := Kd.R_slice HO583.out; subst eo99; obtain ⟨Ao100, co100, eo100⟩ := Kd.R_slice HO587.out; subst eo100; have hcz101_0 : w94.cell? ⟨gb563, 0, none⟩ = some (.slice Ao11 t548.length co11) := (blk_cell BK563.out 0).trans rfl; have hcz101_1 : w94.cell? ⟨gb563, 1, none⟩ = some (.int .i64 t551) := (blk_cell BK563.out 1).trans rfl; have hcz101_2 : w94.cell? ⟨gb563, 2, none⟩ = some (.slice Ao14 t552.length co14) := (blk_cell BK563.out 2).trans rfl; have hcz101_3 : w94.cell? ⟨gb563, 3, none⟩ = some (.int .i64 t555) := (blk_cell BK563.out 3).trans rfl; have hcz101_4 : w94.cell? ⟨gb563, 4, none⟩ = some (.slice Ao15 t556.length co15) := (blk_cell BK563.out 4).trans rfl; have hfz101_0 := blk_frozen BK563.out 0; have hfz101_1 := blk_frozen BK563.out 1; have hfz101_2 := blk_frozen BK563.out 2; have hfz101_3 := blk_frozen BK563.out 3; have hfz101_4 := blk_frozen BK563.out 4) | (go_at_call 25; (with_reducible refine (swarfkit_Feed_Below.calls g547 t562 (wrap64 ((t552.length : Int) + 1)) t589 t590 w _ ?side1 ?side2 A50.out).mono ?_); (case side1 => repeat (first | (with_reducible first | exact HI547.out | apply IsS79.alloc | apply IsS79.drewN | apply IsS79.drew | apply IsS79.set_0 | refine IsS79.far ?_ NB547_563.out _ | refine IsS79.far ?_ NB547_588.out _) | exact HI547.out)); (case side2 => repeat (first | (with_reducible first | exact HB.out | apply below_alloc | apply pw_below_drewN | apply below_drew1 | refine below_set ?_ (IsS79.ge HI547.out) | refine below_set ?_ GE563.out | refine below_set ?_ GE588.out) | exact HB.out)); rintro e w102 ⟨rfl, hi, hb, hk⟩; have n0_ := Aside0.mk (Kd.R_mono (Kd.R_keep (IsS79.apart (show IsS79 w _ g547 t562 from by repeat (first | (with_reducible first | exact HI547.out | apply IsS79.alloc | apply IsS79.drewN | apply IsS79.drew | apply IsS79.set_0 | refine IsS79.far ?_ NB547_563.out _ | refine IsS79.far ?_ NB547_588.out _) | exact HI547.out)) (by (with_reducible repeat (first | apply Kd.R_alloc | apply Kd.R_drewN | apply Kd.R_drew)); exact (Kd.R_mono (Kd.R_far (p := ⟨gb588, 4, none⟩) (Kd.R_far (p := ⟨gb588, 3, none⟩) (Kd.R_far (p := ⟨gb588, 2, none⟩) (Kd.R_far (p := ⟨gb588, 1, none⟩) (Kd.R_far (p := ⟨gb588, 0, none⟩) (Kd.R_types HO_5.out BK588.out (by decide)) (fun _ hk => hk.2) (.slice Ao95 t577.length co95)) (fun _ hk => hk.2) (.int .i64 t580)) (fun _ hk => hk.2) (.slice Ao99 t581.length co99)) (fun _ hk => hk.2) (.int .i64 t584)) (fun _ hk => hk.2) (.slice Ao100 t585.length co100)) (fun _ h_ => h_.1))) (by decide)) hk (fun _ h => h.2)) (fun _ h => h.1)); have n1_ := Aside0.mk (Kd.R_mono (Kd.R_keep (IsS79.apart (show IsS79 w _ g547 t562 from by repeat (first | (with_reducible first | exact HI547.out | apply IsS79.alloc | apply IsS79.drewN | apply IsS79.drew | apply IsS79.set_0 | refine IsS79.far ?_ NB547_563.out _ | refine IsS79.far ?_ NB547_588.out _) | exact HI547.out)) (by (with_reducible repeat (first | apply Kd.R_alloc | apply Kd.R_drewN | apply Kd.R_drew)); exact (Kd.R_mono (Kd.R_far (p := ⟨gb588, 4, none⟩) (Kd.R_far (p := ⟨gb588, 3, none⟩) (Kd.R_far (p := ⟨gb588, 2, none⟩) (Kd.R_far (p := ⟨gb588, 1, none⟩) (Kd.R_far (p := ⟨gb588, 0, none⟩) (Kd.R_types HO_6.out BK588.out (by decide)) (fun _ hk => hk.2) (.slice Ao95 t577.length co95)) (fun _ hk => hk.2) (.int .i64 t580)) (fun _ hk => hk.2) (.slice Ao99 t581.length co99)) (fun _ hk => hk.2) (.int .i64 t584)) (fun _ hk => hk.2) (.slice Ao100 t585.length co100)) (fun _ h_ => h_.1))) (by decide)) hk (fun _ h => h.2)) (fun _ h => h.1)); have n2_ := Aside0.mk (Kd.S_mono (Kd.S_keep (IsS79.apartS (show IsS79 w _ g547 t562 from by repeat (first | (with_reducible first | exact HI547.out | apply IsS79.alloc | apply IsS79.drewN | apply IsS79.drew | apply IsS79.set_0 | refine IsS79.far ?_ NB547_563.out _ | refine IsS79.far ?_ NB547_588.out _) | exact HI547.out)) (by (with_reducible repeat (first | apply Kd.S_alloc | apply Kd.S_drewN | apply Kd.S_drew)); exact (Kd.S_mono (Kd.S_far (p := ⟨gb588, 4, none⟩) (Kd.S_far (p := ⟨gb588, 3, none⟩) (Kd.S_far (p := ⟨gb588, 2, none⟩) (Kd.S_far (p := ⟨gb588, 1, none⟩) (Kd.S_far (p := ⟨gb588, 0, none⟩) (Kd.S_types HO_564000.out BK588.out (by decide)) (fun _ hk => hk.2) (.slice Ao95 t577.length co95)) (fun _ hk => hk.2) (.int .i64 t580)) (fun _ hk => hk.2) (.slice Ao99 t581.length co99)) (fun _ hk => hk.2) (.int .i64 t584)) (fun _ hk => hk.2) (.slice Ao100 t585.length co100)) (fun _ h_ => h_.1))) (by decide)) hk (fun _ h => h.2)) (fun _ h => h.1)); have n3_ := Aside0.mk (Kd.R_mono (Kd.R_keep (IsS79.apart (show IsS79 w _ g547 t562 from by repeat (first | (with_reducible first | exact HI547.out | apply IsS79.alloc | apply IsS79.drewN | apply IsS79.drew | apply IsS79.set_0 | refine IsS79.far ?_ NB547_563.out _ | refine IsS79.far ?_ NB547_588.out _) | exact HI547.out)) (by (with_reducible repeat (first | apply Kd.R_alloc | apply Kd.R_drewN | apply Kd.R_drew)); exact (Kd.R_mono (Kd.R_far (p := ⟨gb588, 4, none⟩) (Kd.R_far (p := ⟨gb588, 3, none⟩) (Kd.R_far (p := ⟨gb588, 2, none⟩) (Kd.R_far (p := ⟨gb588, 1, none⟩) (Kd.R_far (p := ⟨gb588, 0, none⟩) (Kd.R_types HO_564002.out BK588.out (by decide)) (fun _ hk => hk.2) (.slice Ao95 t577.length co95)) (fun _ hk => hk.2) (.int .i64 t580)) (fun _ hk => hk.2) (.slice Ao99 t581.length co99)) (fun _ hk => hk.2) (.int .i64 t584)) (fun _ hk => hk.2) (.slice Ao100 t585.length co100)) (fun _ h_ => h_.1))) (by decide)) hk (fun _ h => h.2)) (fun _ h => h.1)); have n4_ := Aside0.mk (Kd.R_mono (Kd.R_keep (IsS79.apart (show IsS79 w _ g547 t562 from by repeat (first | (with_reducible first | exact HI547.out | apply IsS79.alloc | apply IsS79.drewN | apply IsS79.drew | apply IsS79.set_0 | refine IsS79.far ?_ NB547_563.out _ | refine IsS79.far ?_ NB547_588.out _) | exact HI547.out)) (by (with_reducible repeat (first | apply Kd.R_alloc | apply Kd.R_drewN | apply Kd.R_drew)); exact (Kd.R_mono (Kd.R_far (p := ⟨gb588, 4, none⟩) (Kd.R_far (p := ⟨gb588, 3, none⟩) (Kd.R_far (p := ⟨gb588, 2, none⟩) (Kd.R_far (p := ⟨gb588, 1, none⟩) (Kd.R_far (p := ⟨gb588, 0, none⟩) (Kd.R_types HO_564004.out BK588.out (by decide)) (fun _ hk => hk.2) (.slice Ao95 t577.length co95)) (fun _ hk => hk.2) (.int .i64 t580)) (fun _ hk => hk.2) (.slice Ao99 t581.length co99)) (fun _ hk => hk.2) (.int .i64 t584)) (fun _ hk => hk.2) (.slice Ao100 t585.length co100)) (fun _ h_ => h_.1))) (by decide)) hk (fun _ h => h.2)) (fun _ h => h.1)); have n5_ := Aside0.mk (KeepBut.blk hk (g' := gb563) (o := .cells #[.slice Ao11 t548.length co11, .int .i64 t551, .slice Ao14 t552.length co14, .int .i64 t555, .slice Ao15 t556.length co15] 26 (0, 0)) (by (with_reducible repeat (first | refine blk_drewN ?_ _ | refine blk_drew ?_ | refine blk_alloc ?_ _)); refine blk_far ?_ NB563_588.out _; (with_reducible repeat (first | refine blk_drewN ?_ _ | refine blk_drew ?_ | refine blk_alloc ?_ _)); refine blk_far ?_ NB563_588.out _; (with_reducible repeat (first | refine blk_drewN ?_ _ | refine blk_drew ?_ | refine blk_alloc ?_ _)); refine blk_far ?_ NB563_588.out _; (with_reducible repeat (first | refine blk_drewN ?_ _ | refine blk_drew ?_ | refine blk_alloc ?_ _)); refine blk_far ?_ NB563_588.out _; (with_reducible repeat (first | refine blk_drewN ?_ _ | refine blk_drew ?_ | refine blk_alloc ?_ _)); refine blk_far ?_ NB563_588.out _; (with_reducible repeat (first | refine blk_drewN ?_ _ | refine blk_drew ?_ | refine blk_alloc ?_ _)); exact BK563.out) NB563_547.out (by simp)); have n6_ := Aside0.mk (Kd.S_mono (Kd.S_keep (IsS79.apartS (show IsS79 w _ g547 t562 from by repeat (first | (with_reducible first | exact HI547.out | apply IsS79.alloc | apply IsS79.drewN | apply IsS79.drew | apply IsS79.set_0 | refine IsS79.far ?_ NB547_563.out _ | refine IsS79.far ?_ NB547_588.out _) | exact HI547.out)) (by (with_reducible repeat (first | apply Kd.S_alloc | apply Kd.S_drewN | apply Kd.S_drew)); exact (Kd.S_mono (Kd.S_far (p := ⟨gb588, 4, none⟩) (Kd.S_far (p := ⟨gb588, 3, none⟩) (Kd.S_far (p := ⟨gb588, 2, none⟩) (Kd.S_far (p := ⟨gb588, 1, none⟩) (Kd.S_far (p := ⟨gb588, 0, none⟩) (Kd.S_types HO579.out BK588.out (by decide)) (fun _ hk => hk.2) (.slice Ao95 t577.length co95)) (fun _ hk => hk.2) (.int .i64 t580)) (fun _ hk => hk.2) (.slice Ao99 t581.length co99)) (fun _ hk => hk.2) (.int .i64 t584)) (fun _ hk => hk.2) (.slice Ao100 t585.length co100)) (fun _ h_ => h_.1))) (by decide)) hk (fun _ h => h.2)) (fun _ h => h.1)); have n7_ := Aside0.mk (Kd.R_mono (Kd.R_keep (IsS79.apart (show IsS79 w _ g547 t562 from by repeat (first | (with_reducible first | exact HI547.out | apply IsS79.alloc | apply IsS79.drewN | apply IsS79.drew | apply IsS79.set_0 | refine IsS79.far ?_ NB547_563.out _ | refine IsS79.far ?_ NB547_588.out _) | exact HI547.out)) (by (with_reducible repeat (first | apply Kd.R_alloc | apply Kd.R_drewN | apply Kd.R_drew)); exact (Kd.R_mono (Kd.R_far (p := ⟨gb588, 4, none⟩) (Kd.R_far (p := ⟨gb588, 3, none⟩) (Kd.R_far (p := ⟨gb588, 2, none⟩) (Kd.R_far (p := ⟨gb588, 1, none⟩) (Kd.R_far (p := ⟨gb588, 0, none⟩) (Kd.R_types HO583.out BK588.out (by decide)) (fun _ hk => hk.2) (.slice Ao95 t577.length co95)) (fun _ hk => hk.2) (.int .i64 t580)) (fun _ hk => hk.2) (.slice Ao99 t581.length co99)) (fun _ hk => hk.2) (.int .i64 t584)) (fun _ hk => hk.2) (.slice Ao100 t585.length co100)) (fun _ h_ => h_.1))) (by decide)) hk (fun _ h => h.2)) (fun _ h => h.1)); have n8_ := Aside0.mk (Kd.R_mono (Kd.R_keep (IsS79.apart (show IsS79 w _ g547 t562 from by repeat (first | (with_reducible first | exact HI547.out | apply IsS79.alloc | apply IsS79.drewN | apply IsS79.drew | apply IsS79.set_0 | refine IsS79.far ?_ NB547_563.out _ | refine IsS79.far ?_ NB547_588.out _) | exact HI547.out)) (by (with_reducible repeat (first | apply Kd.R_alloc | apply Kd.R_drewN | apply Kd.R_drew)); exact (Kd.R_mono (Kd.R_far (p := ⟨gb588, 4, none⟩) (Kd.R_far (p := ⟨gb588, 3, none⟩) (Kd.R_far (p := ⟨gb588, 2, none⟩) (Kd.R_far (p := ⟨gb588, 1, none⟩) (Kd.R_far (p := ⟨gb588, 0, none⟩) (Kd.R_types HO587.out BK588.out (by decide)) (fun _ hk => hk.2) (.slice Ao95 t577.length co95)) (fun _ hk => hk.2) (.int .i64 t580)) (fun _ hk => hk.2) (.slice Ao99 t581.length co99)) (fun _ hk => hk.2) (.int .i64 t584)) (fun _ hk => hk.2) (.slice Ao100 t585.length co100)) (fun _ h_ => h_.1))) (by decide)) hk (fun _ h => h.2)) (fun _ h => h.1)); have n9_ := Aside0.mk (KeepBut.blk hk (g' := gb588) (o := .cells #[.slice Ao95 t577.length co95, .int .i64 t580, .slice Ao99 t581.length co99, .int .i64 t584, .slice Ao100 t585.length co100] 26 (0, 0)) (by (with_reducible repeat (first | refine blk_drewN ?_ _ | refine blk_drew ?_ | refine blk_alloc ?_ _)); refine blk_put (cs := #[.slice Ao95 t577.length co95, .int .i64 t580, .slice Ao99 t581.length co99, .int .i64 t584, .slice none 0 0]) ?_ 4 _ rfl; (with_reducible repeat (first | refine blk_drewN ?_ _ | refine blk_drew ?_ | refine blk_alloc ?_ _)); refine blk_put (cs := #[.slice Ao95 t577.length co95, .int .i64 t580, .slice Ao99 t581.length co99, .int .i64 0, .slice none 0 0]) ?_ 3 _ rfl; (with_reducible repeat (first | refine blk_drewN ?_ _ | refine blk_drew ?_ | refine blk_alloc ?_ _)); refine blk_put (cs := #[.slice Ao95 t577.length co95, .int .i64 t580, .slice none 0 0, .int .i64 0, .slice none 0 0]) ?_ 2 _ rfl; (with_reducible repeat (first | refine blk_drewN ?_ _ | refine blk_drew ?_ | refine blk_alloc ?_ _)); refine blk_put (cs := #[.slice Ao95 t577.length co95, .int .i64 0, .slice none 0 0, .int .i64 0, .slice none 0 0]) ?_ 1 _ rfl; (with_reducible repeat (first | refine blk_drewN ?_ _ | refine blk_drew ?_ | refine blk_alloc ?_ _)); refine blk_put (cs := #[.slice none 0 0, .int .i64 0, .slice none 0 0, .int .i64 0, .slice none 0 0]) ?_ 0 _ rfl; (with_reducible repeat (first | refine blk_drewN ?_ _ | refine blk_drew ?_ | refine blk_alloc ?_ _)); exact BK588.out) NB588_547.out (by simp)); have n10_ := Aside0.mk (hb); have n11_ := Aside0.mk (hi); clear HO_5; clear HO_6; clear HO_564000; clear HO_564002; clear HO_564004; clear BK563; clear HO579; clear HO583; clear HO587; clear BK588; clear HB; clear HI547; have HO_5 := n0_; have HO_6 := n1_; have HO_564000 := n2_; have HO_564002 := n3_; have HO_564004 := n4_; have BK563 := n5_; have HO579 := n6_; have HO583 := n7_; have HO587 := n8_; have BK588 := n9_; have HB := n10_; have HI547 := n11_; clear n0_ n1_ n2_ n3_ n4_ n5_ n6_ n7_ n8_ n9_ n10_ n11_; (try clear hb); (try clear hb2); (try clear hk); (try clear hi); have hcz103_0 : w102.cell? ⟨gb588, 0, none⟩ = some (.slice Ao95 t577.length co95) := (blk_cell BK588.out 0).trans rfl; have hcz103_1 : w102.cell? ⟨gb588, 1, none⟩ = some (.int .i64 t580) := (blk_cell BK588.out 1).trans rfl; have hcz103_2 : w102.cell? ⟨gb588, 2, none⟩ = some (.slice Ao99 t581.length co99) := (blk_cell BK588.out 2).trans rfl; have hcz103_3 : w102.cell? ⟨gb588, 3, none⟩ = some (.int .i64 t584) := (blk_cell BK588.out 3).trans rfl; have hcz103_4 : w102.cell? ⟨gb588, 4, none⟩ = some (.slice Ao100 t585.length co100) := (blk_cell BK588.out 4).trans rfl; have hfz103_0 := blk_frozen BK588.out 0; have hfz103_1 := blk_frozen BK588.out 1; have hfz103_2 := blk_frozen BK588.out 2; have hfz103_3 := blk_frozen BK588.out 3; have hfz103_4 := blk_frozen BK588.out 4) | (go_at_call 26; (with_reducible refine (strip_Out.calls _ _ t577 t580 _ _ t581 t589 _ _ t585 t591 t594 _ ?side1 ?side2 ?side3 ?side4 ?side5 ?side6 A51.out).mono ?_); (case side1 => refine (Kd.S_reads' (e := 50) (base := w.heap.size) (ok := fun k_ => (((some k_ ≠ (.slice Ao100 t585.length co100 : Value).ownBlock ∧ some k_ ≠ (.slice Ao90 t564.length co90 : Value).ownBlock) ∧ some k_ ≠ (.slice Ao11 t548.length co11 : Value).ownBlock) ∧ some k_ ≠ (.slice Ao15 t556.length co15 : Value).ownBlock)) (n := t577.length) (c := co95) ?_).2.2; exact (by (with_reducible repeat (first | apply Kd.S_alloc | apply Kd.S_drewN | apply Kd.S_drew)); exact (Kd.S_mono (Kd.S_far (p := ⟨gb588, 3, none⟩) (Kd.S_types HO579.out BK588.out (by decide)) (fun _ hk => hk.2) (.int .i64 t589)) (fun _ h_ => h_.1)))); (case side2 => exact (Kd.S_reads' HO579.out).2.1); (case side3 => refine (Kd.R_reads' (e := 61) (base := w.heap.size) (ok := fun k_ => (True ∧ some k_ ≠ (.slice Ao14 t552.length co14 : Value).ownBlock)) (n := t581.length) (c := co99) ?_).2.2; exact (by (with_reducible repeat (first | apply Kd.R_alloc | apply Kd.R_drewN | apply Kd.R_drew)); exact (Kd.R_mono (Kd.R_far (p := ⟨gb588, 3, none⟩) (Kd.R_types HO583.out BK588.out (by decide)) (fun _ hk => hk.2) (.int .i64 t589)) (fun _ h_ => h_.1)))); (case side4 => exact (Kd.R_reads' HO583.out).2.1); (case side5 => refine (Kd.R_reads' (e := 3) (base := w.heap.size) (ok := fun k_ => ((True ∧ some k_ ≠ (.slice Ao90 t564.length co90 : Value).ownBlock) ∧ some k_ ≠ (.slice Ao15 t556.length co15 : Value).ownBlock)) (n := t585.length) (c := co100) ?_).2.2; exact (by (with_reducible repeat (first | apply Kd.R_alloc | apply Kd.R_drewN | apply Kd.R_drew)); exact (Kd.R_mono (Kd.R_far (p := ⟨gb588, 3, none⟩) (Kd.R_types HO587.out BK588.out (by decide)) (fun _ hk => hk.2) (.int .i64 t589)) (fun _ h_ => h_.1)))); (case side6 => exact (Kd.R_reads' HO587.out).2.1); rintro e w104 ⟨v592, rfl, ho0, hb⟩; have n0_ := Aside0.mk (Kd.R_below (by (with_reducible repeat (first | apply Kd.R_alloc | apply Kd.R_drewN | apply Kd.R_drew)); exact (Kd.R_mono (Kd.R_far (p := ⟨gb588, 3, none⟩) (Kd.R_types HO_5.out BK588.out (by decide)) (fun _ hk => hk.2) (.int .i64 t589)) (fun _ h_ => h_.1))) hb); have n1_ := Aside0.mk (Kd.R_elder' (by (with_reducible repeat (first | apply Kd.R_alloc | apply Kd.R_drewN | apply Kd.R_drew)); exact (Kd.R_mono (Kd.R_far (p := ⟨gb588, 3, none⟩) (Kd.R_types HO_6.out BK588.out (by decide)) (fun _ hk => hk.2) (.int .i64 t589)) (fun _ h_ => h_.1))) (Kd.R_base ho0) hb); have n2_ := Aside0.mk (Kd.S_elder' (by (with_reducible repeat (first | apply Kd.S_alloc | apply Kd.S_drewN | apply Kd.S_drew)); exact (Kd.S_mono (Kd.S_far (p := ⟨gb588, 3, none⟩) (Kd.S_types HO_564000.out BK588.out (by decide)) (fun _ hk => hk.2) (.int .i64 t589)) (fun _ h_ => h_.1))) (Kd.R_base ho0) hb); have n3_ := Aside0.mk (Kd.R_below (by (with_reducible repeat (first | apply Kd.R_alloc | apply Kd.R_drewN | apply Kd.R_drew)); exact (Kd.R_mono (Kd.R_far (p := ⟨gb588, 3, none⟩) (Kd.R_types HO_564002.out BK588.out (by decide)) (fun _ hk => hk.2) (.int .i64 t589)) (fun _ h_ => h_.1))) hb); have n4_ := Aside0.mk (Kd.R_elder' (by (with_reducible repeat (first | apply Kd.R_alloc | apply Kd.R_drewN | apply Kd.R_drew)); exact (Kd.R_mono (Kd.R_far (p := ⟨gb588, 3, none⟩) (Kd.R_types HO_564004.out BK588.out (by decide)) (fun _ hk => hk.2) (.int .i64 t589)) (fun _ h_ => h_.1))) (Kd.R_base ho0) hb); have n5_ := Aside0.mk (Kd.S_elder' (by (with_reducible repeat (first | apply Kd.S_alloc | apply Kd.S_drewN | apply Kd.S_drew)); exact (Kd.S_mono (Kd.S_far (p := ⟨gb588, 3, none⟩) (Kd.S_types HO579.out BK588.out (by decide)) (fun _ hk => hk.2) (.int .i64 t589)) (fun _ h_ => h_.1))) (Kd.R_base ho0) hb); have n6_ := Aside0.mk (Kd.R_below (by (with_reducible repeat (first | apply Kd.R_alloc | apply Kd.R_drewN | apply Kd.R_drew)); exact (Kd.R_mono (Kd.R_far (p := ⟨gb588, 3, none⟩) (Kd.R_types HO583.out BK588.out (by decide)) (fun _ hk => hk.2) (.int .i64 t589)) (fun _ h_ => h_.1))) hb); have n7_ := Aside0.mk (Kd.R_elder' (by (with_reducible repeat (first | apply Kd.R_alloc | apply Kd.R_drewN | apply Kd.R_drew)); exact (Kd.R_mono (Kd.R_far (p := ⟨gb588, 3, none⟩) (Kd.R_types HO587.out BK588.out (by decide)) (fun _ hk => hk.2) (.int .i64 t589)) (fun _ h_ => h_.1))) (Kd.R_base ho0) hb); have n8_ := Aside0.mk (Kd.R_lower (Kd.R_new' (Kd.R_new' (Kd.R_new' ho0 (Kd.R_lt (by (with_reducible repeat (first | apply Kd.R_alloc | apply Kd.R_drewN | apply Kd.R_drew)); exact (Kd.R_mono (Kd.R_far (p := ⟨gb588, 3, none⟩) (Kd.R_types HO_6.out BK588.out (by decide)) (fun _ hk => hk.2) (.int .i64 t589)) (fun _ h_ => h_.1))))) (Kd.R_lt (by (with_reducible repeat (first | apply Kd.R_alloc | apply Kd.R_drewN | apply Kd.R_drew)); exact (Kd.R_mono (Kd.R_far (p := ⟨gb588, 3, none⟩) (Kd.R_types HO_564004.out BK588.out (by decide)) (fun _ hk => hk.2) (.int .i64 t589)) (fun _ h_ => h_.1))))) (Kd.R_lt (by (with_reducible repeat (first | apply Kd.R_alloc | apply Kd.R_drewN | apply Kd.R_drew)); exact (Kd.R_mono (Kd.R_far (p := ⟨gb588, 3, none⟩) (Kd.R_types HO587.out BK588.out (by decide)) (fun _ hk => hk.2) (.int .i64 t589)) (fun _ h_ => h_.1))))) (below_size (by repeat (first | (with_reducible first | exact HB.out | apply below_alloc | apply pw_below_drewN | apply below_drew1 | refine below_set ?_ (IsS79.ge HI547.out) | refine below_set ?_ GE563.out | refine below_set ?_ GE588.out) | exact HB.out)))); have n9_ := Aside0.mk (blk_below (g := gb563) (o := .cells #[.slice Ao11 t548.length co11, .int .i64 t551, .slice Ao14 t552.length co14, .int .i64 t555, .slice Ao15 t556.length co15] 26 (0, 0)) (by (with_reducible repeat (first | refine blk_drewN ?_ _ | refine blk_drew ?_ | refine blk_alloc ?_ _)); refine blk_far ?_ NB563_588.out _; (with_reducible repeat (first | refine blk_drewN ?_ _ | refine blk_drew ?_ | refine blk_alloc ?_ _)); exact BK563.out) hb); have n10_ := Aside0.mk (IsS79.below (show IsS79 w (w102.setCell ⟨gb588, 3, none⟩ (.int .i64 t589)) g547 t590 from by repeat (first | (with_reducible first | exact HI547.out | apply IsS79.alloc | apply IsS79.drewN | apply IsS79.drew | apply IsS79.set_0 | refine IsS79.far ?_ NB547_563.out _ | refine IsS79.far ?_ NB547_588.out _) | exact HI547.out)) hb); have n11_ := Aside0.mk (blk_below (g := gb588) (o := .cells #[.slice Ao95 t577.length co95, .int .i64 t580, .slice Ao99 t581.length co99, .int .i64 t589, .slice Ao100 t585.length co100] 26 (0, 0)) (by (with_reducible repeat (first | refine blk_drewN ?_ _ | refine blk_drew ?_ | refine blk_alloc ?_ _)); refine blk_put (cs := #[.slice Ao95 t577.length co95, .int .i64 t580, .slice Ao99 t581.length co99, .int .i64 t584, .slice Ao100 t585.length co100]) ?_ 3 _ rfl; (with_reducible repeat (first | refine blk_drewN ?_ _ | refine blk_drew ?_ | refine blk_alloc ?_ _)); exact BK588.out) hb); have n12_ := Aside0.mk (below_step (by repeat (first | (with_reducible first | exact HB.out | apply below_alloc | apply pw_below_drewN | apply below_drew1 | refine below_set ?_ (IsS79.ge HI547.out) | refine below_set ?_ GE563.out | refine below_set ?_ GE588.out) | exact HB.out)) hb); clear HO_5; clear HO_6; clear HO_564000; clear HO_564002; clear HO_564004; clear HO579; clear HO583; clear HO587; clear BK563; clear HI547; clear BK588; clear HB; have HO_5 := n0_; have HO_6 := n1_; have HO_564000 := n2_; have HO_564002 := n3_; have HO_564004 := n4_; have HO579 := n5_; have HO583 := n6_; have HO587 := n7_; have HO593 := n8_; have BK563 := n9_; have HI547 := n10_; have BK588 := n11_; have HB := n12_; clear n0_ n1_ n2_ n3_ n4_ n5_ n6_ n7_ n8_ n9_ n10_ n11_ n12_; (try clear hb); (try clear hb2); (try clear hk); (try clear hi); (try clear ho0); have hcz105_0 : w104.cell? ⟨gb588, 0, none⟩ = some (.slice Ao95 t577.length co95) := (blk_cell BK588.out 0).trans rfl; have hcz105_1 : w104.cell? ⟨gb588, 1, none⟩ = some (.int .i64 t580) := (blk_cell BK588.out 1).trans rfl; have hcz105_2 : w104.cell? ⟨gb588, 2, none⟩ = some (.slice Ao99 t581.length co99) := (blk_cell BK588.out 2).trans rfl; have hcz105_3 : w104.cell? ⟨gb588, 3, none⟩ = some (.int .i64 t589) := (blk_cell BK588.out 3).trans rfl; have hcz105_4 : w104.cell? ⟨gb588, 4, none⟩ = some (.slice Ao100 t585.length co100) := (blk_cell BK588.out 4).trans rfl; have hfz105_0 := blk_frozen BK588.out 0; have hfz105_1 := blk_frozen BK588.out 1; have hfz105_2 := blk_frozen BK588.out 2; have hfz105_3 := blk_frozen BK588.out 3; have hfz105_4 := blk_frozen BK588.out 4) | (go_at_call 16; (with_reducible refine (swarflaw04_awake.calls k2  t596 _ A89.out).mono ?_); rintro e w106 ⟨rfl, hb⟩; have n0_ := Aside0.mk (Kd.R_below (by (with_reducible repeat (first | apply Kd.R_alloc | apply Kd.R_drewN | apply Kd.R_drew)); exact HO_5.out) hb); have n1_ := Aside0.mk (Kd.R_below (by (with_reducible repeat (first | apply Kd.R_alloc | apply Kd.R_drewN | apply Kd.R_drew)); exact HO_6.out) hb); have n2_ := Aside0.mk (Kd.S_below (by (with_reducible repeat (first | apply Kd.S_alloc | apply Kd.S_drewN | apply Kd.S_drew)); exact HO_564000.out) hb); have n3_ := Aside0.mk (Kd.R_below (by (with_reducible repeat (first | apply Kd.R_alloc | apply Kd.R_drewN | apply Kd.R_drew)); exact HO_564002.out) hb); have n4_ := Aside0.mk (Kd.R_below (by (with_reducible repeat (first | apply Kd.R_alloc | apply Kd.R_drewN | apply Kd.R_drew)); exact HO_564004.out) hb); have n5_ := Aside0.mk (Kd.S_below (by (with_reducible repeat (first | apply Kd.S_alloc | apply Kd.S_drewN | apply Kd.S_drew)); exact HO579.out) hb); have n6_ := Aside0.mk (Kd.R_below (by (with_reducible repeat (first | apply Kd.R_alloc | apply Kd.R_drewN | apply Kd.R_drew)); exact HO583.out) hb); have n7_ := Aside0.mk (Kd.R_below (by (with_reducible repeat (first | apply Kd.R_alloc | apply Kd.R_drewN | apply Kd.R_drew)); exact HO587.out) hb); have n8_ := Aside0.mk (Kd.R_below (by (with_reducible repeat (first | apply Kd.R_alloc | apply Kd.R_drewN | apply Kd.R_drew)); exact HO593.out) hb); have n9_ := Aside0.mk (blk_below (g := gb563) (o := .cells #[.slice Ao11 t548.length co11, .int .i64 t551, .slice Ao14 t552.length co14, .int .i64 t555, .slice Ao15 t556.length co15] 26 (0, 0)) (by (with_reducible repeat (first | refine blk_drewN ?_ _ | refine blk_drew ?_ | refine blk_alloc ?_ _)); exact BK563.out) hb); have n10_ := Aside0.mk (IsS79.below (by repeat (first | (with_reducible first | exact HI547.out | apply IsS79.alloc | apply IsS79.drewN | apply IsS79.drew | apply IsS79.set_0 | refine IsS79.far ?_ NB547_563.out _ | refine IsS79.far ?_ NB547_588.out _) | exact HI547.out)) hb); have n11_ := Aside0.mk (blk_below (g := gb588) (o := .cells #[.slice Ao95 t577.length co95, .int .i64 t580, .slice Ao99 t581.length co99, .int .i64 t589, .slice Ao100 t585.length co100] 26 (0, 0)) (by (with_reducible repeat (first | refine blk_drewN ?_ _ | refine blk_drew ?_ | refine blk_alloc ?_ _)); exact BK588.out) hb); have n12_ := Aside0.mk (below_step (by repeat (first | (with_reducible first | exact HB.out | apply below_alloc | apply pw_below_drewN | apply below_drew1 | refine below_set ?_ (IsS79.ge HI547.out) | refine below_set ?_ GE563.out | refine below_set ?_ GE588.out) | exact HB.out)) hb); clear HO_5; clear HO_6; clear HO_564000; clear HO_564002; clear HO_564004; clear HO579; clear HO583; clear HO587; clear HO593; clear BK563; clear HI547; clear BK588; clear HB; have HO_5 := n0_; have HO_6 := n1_; have HO_564000 := n2_; have HO_564002 := n3_; have HO_564004 := n4_; have HO579 := n5_; have HO583 := n6_; have HO587 := n7_; have HO593 := n8_; have BK563 := n9_; have HI547 := n10_; have BK588 := n11_; have HB := n12_; clear n0_ n1_ n2_ n3_ n4_ n5_ n6_ n7_ n8_ n9_ n10_ n11_ n12_; (try clear hb); (try clear hb2); (try clear hk); (try clear hi)))
                  go_ret
                  exact ⟨by first | rfl | (simp [errW_none, errW_some] <;> rfl) | (simp [*, errW_none, errW_some] <;> rfl), by repeat (first | (with_reducible first | exact HB.out | apply below_alloc | apply pw_below_drewN | apply below_drew1 | refine below_set ?_ (IsS79.ge HI547.out) | refine below_set ?_ GE563.out | refine below_set ?_ GE588.out) | exact HB.out)⟩
                · rw [if_neg c88] at H
                  have c88b0 : (t594 == 0) = false := beq_eq_false_iff_ne.mpr c88
                  have c88b1 : (t594 != 0) = true := bne_iff_ne.mpr c88
                  exact absurd ((Option.some.inj H).trans hrt.out) (by decide)
def swarflaw04_StripTrue.Pure : Prop := ∀ (l0 : List Int), l0.length ≤ maxLen → l0.length * 8 ≤ 140737488351232 → (∀ x ∈ l0, (Lit.int .i64 x).wf = true) → ∃ k, swarflaw04_StripTrue.f k l0 = some true
theorem swarflaw04_StripTrue.walk (P : swarflaw04_StripTrue.Pure) (a0 : Option Addr) (len0 cap0 : Nat) (z0 : List Int) (w : World) (w0 : (a0 = none ∧ len0 = 0 ∧ cap0 = 0 ∧ z0 = []) ∨ ∃ x, a0 = some x ∧ len0 ≤ cap0 ∧ cap0 ≤ maxLen ∧ z0.length = cap0 ∧ (∀ i, i < z0.length → w.cell? (x.add i) = some (.int .i64 (z0.getD i 0))) ∧ ∀ n ∈ z0, (Lit.int .i64 n).wf = true) (y0 : len0 * 8 ≤ 140737488351232) :
    Calls Try.prog 9 #[.slice a0 len0 cap0] w fun e w' => e = .returned (.bool true) ∧ Below w.heap.size w w' := by
  obtain ⟨l0, rfl, hr0, hm0, hw0, hc0⟩ := ReadsInt.ofRowC w0
  obtain ⟨k, h⟩ := P l0 hm0 y0 hw0
  refine (swarflaw04_StripTrue.calls k _ _ l0 true ⟨rfl⟩ w (Kd.C_of_reads (d := (0 : Int)) (h1 := fun _ => rfl) hr0) hc0 h).mono ?_
  rintro e w' ⟨rfl, hd⟩
  exact ⟨rfl, hd⟩
end Go.Proofs.Ytkkmfcdikkiodaa.PC4
namespace Go.Proofs.Ytkkmfcdikkiodaa.PC4
set_option linter.unusedVariables false
open Go.RowKit Go.Proofs.YtkkmfcdikkiodaaW.PrintWords Go.Proofs.YtkkmfcdikkiodaaW.PrintLast Go.Proofs.YtkkmfcdikkiodaaW.PrintMore
theorem badGo_bit (l : List S50) : ∀ i s k, (badGo i s l).testBit k = (s.testBit k || (decide (i ≤ k) && (l.getD (k - i) z50).f1)) := by
  induction l with
  | nil => intro i s k; simp [badGo, z50]
  | cons p l ih =>
    intro i s k
    rw [badGo, ih]
    by_cases h1 : i + 1 ≤ k
    · have h2 : i ≤ k := by omega
      have h3 : k - i = (k - (i + 1)) + 1 := by omega
      have hne : ¬ i = k := by omega
      rw [h3, List.getD_cons_succ]
      simp only [h1, h2, decide_true, Bool.true_and]
      cases hp : p.f1 with
      | false => simp
      | true => simp [Nat.testBit_or, Nat.testBit_two_pow, hne]
    · by_cases h2 : i = k
      · subst h2
        simp only [h1, decide_false, Bool.false_and, Bool.or_false, Nat.le_refl, decide_true, Bool.true_and, Nat.sub_self, List.getD_cons_zero]
        cases hp : p.f1 with
        | false => simp
        | true => simp [Nat.testBit_or, Nat.testBit_two_pow]
      · have h3 : ¬ i ≤ k := by omega
        simp only [h1, h3, decide_false, Bool.false_and, Bool.or_false]
        cases hp : p.f1 with
        | false => simp
        | true => simp [Nat.testBit_or, Nat.testBit_two_pow, h2]
theorem badMask_bit (parts : List S50) (k : Nat) : (badMask parts).testBit k = (parts.getD k z50).f1 := by
  unfold badMask
  rw [badGo_bit]
  simp
theorem bad_lt (parts : List S50) (h : parts.length ≤ 16) : badMask parts < 65536 := badGo_lt parts 0 0 (by omega) (by decide)
structure TruthSet (parts : List S50) (T : List Nat) : Prop where
  ne : T ≠ []
  few : parts.length ≤ 9
  pok : ∀ i, i < parts.length → PartOK i (parts.getD i z50)
  lt : ∀ s, s ∈ T → s < 65536
  ok : ∀ s, s ∈ T → ∀ i, i < parts.length → s.testBit i = true → ∀ x, x ∈ (parts.getD i z50).f0 → s.testBit x.toNat = true
def partV (T : List Nat) (i : Nat) : Int := verdictS (setsI T) (rawHas (i : Int))
def carV (parts : List S50) (T : List Nat) : Int := verdictS (setsI T) (rawAll (badMask parts : Nat))
theorem outL_getD (n : Nat) (T : List Nat) {i : Nat} (h : i < n) : (outL n T).getD i 0 = partV T i := by
  have hl : i < (outL n T).length := by rw [outL_len]; exact h
  rw [List.getD, List.getElem?_eq_getElem hl]
  simp [outL, partV]
theorem partV_cases {parts : List S50} {T : List Nat} (h : TruthSet parts T) {i : Nat} (hi : i < parts.length) :
    (partV T i = 1 ∧ ∀ s, s ∈ T → s.testBit i = true) ∨ (partV T i = 2 ∧ T ≠ [] ∧ ∀ s, s ∈ T → s.testBit i = false) ∨ (partV T i = 3 ∧ (∃ s, s ∈ T ∧ s.testBit i = true) ∧ ∃ s, s ∈ T ∧ s.testBit i = false) :=
  verdict_cases T _ (fun s => s.testBit i) (fun s hs => rawHas_eq s i (h.lt s hs) (by have := h.few; omega))
theorem carV_cases {parts : List S50} {T : List Nat} (h : TruthSet parts T) :
    (carV parts T = 1 ∧ ∀ s, s ∈ T → subM (badMask parts) s = true) ∨ (carV parts T = 2 ∧ T ≠ [] ∧ ∀ s, s ∈ T → subM (badMask parts) s = false) ∨ (carV parts T = 3 ∧ (∃ s, s ∈ T ∧ subM (badMask parts) s = true) ∧ ∃ s, s ∈ T ∧ subM (badMask parts) s = false) :=
  verdict_cases T _ (fun s => subM (badMask parts) s) (fun s hs => rawAll_eq s _ (h.lt s hs) (bad_lt parts (by have := h.few; omega)))
theorem some_truth {T : List Nat} (h : T ≠ []) : ∃ s, s ∈ T := List.exists_mem_of_ne_nil T h
theorem partV_one {parts : List S50} {T : List Nat} (h : TruthSet parts T) {i : Nat} (hi : i < parts.length) : partV T i = 1 ↔ ∀ s, s ∈ T → s.testBit i = true := by
  obtain ⟨s, hs⟩ := some_truth h.ne
  rcases partV_cases h hi with ⟨h1, h2⟩ | ⟨h1, _, h2⟩ | ⟨h1, _, t, ht, h2⟩
  · exact ⟨fun _ => h2, fun _ => h1⟩
  · refine ⟨fun e => by omega, fun e => ?_⟩
    have := e s hs
    rw [h2 s hs] at this
    cases this
  · refine ⟨fun e => by omega, fun e => ?_⟩
    have := e t ht
    rw [h2] at this
    cases this
theorem partV_two {parts : List S50} {T : List Nat} (h : TruthSet parts T) {i : Nat} (hi : i < parts.length) : partV T i = 2 ↔ ∀ s, s ∈ T → s.testBit i = false := by
  obtain ⟨s, hs⟩ := some_truth h.ne
  rcases partV_cases h hi with ⟨h1, h2⟩ | ⟨h1, _, h2⟩ | ⟨h1, ⟨t, ht, h2⟩, _⟩
  · refine ⟨fun e => by omega, fun e => ?_⟩
    have := e s hs
    rw [h2 s hs] at this
    cases this
  · exact ⟨fun _ => h2, fun _ => h1⟩
  · refine ⟨fun e => by omega, fun e => ?_⟩
    have := e t ht
    rw [h2] at this
    cases this
theorem sub_bad {parts : List S50} (s : Nat) : subM (badMask parts) s = true ↔ ∀ i, i < parts.length → (parts.getD i z50).f1 = true → s.testBit i = true := by
  rw [subM_iff]
  constructor
  · intro h i _ hb
    exact h i (by rw [badMask_bit]; exact hb)
  · intro h i hb
    rw [badMask_bit] at hb
    refine h i ?_ hb
    rcases Nat.lt_or_ge i parts.length with h1 | h1
    · exact h1
    · rw [List.getD, List.getElem?_eq_none h1] at hb
      cases hb
theorem truthSet {parts : List S50} {looks : List S61} {wrong : Int} (h9 : parts.length ≤ 9) (hp : ∀ i, i < parts.length → PartOK i (parts.getD i z50)) (hne : truthsL parts looks wrong ≠ []) : TruthSet parts (truthsL parts looks wrong) :=
  ⟨hne, h9, hp, fun s hs => by have h1 := ((mem_truths s).1 hs).1; have h2 := pow_le_512 h9; omega, fun s hs => (okM_iff hp s).1 ((mem_truths s).1 hs).2.1⟩
theorem CarGood.set {a1 a2 : Int} {parts : List S50} {swap : Int} {looks : List S61} {wrong : Int} {needs : List Int} {st : List Bool} (h : CarGood a1 a2 parts swap looks wrong needs st) (h9 : a1 ≤ 9) : TruthSet parts (truthsL parts looks wrong) :=
  truthSet (by have := h.few; omega) h.p.ok (fun e => by have := h.truth; rw [e] at this; cases this)
theorem CarGood.out {a1 a2 : Int} {parts : List S50} {swap : Int} {looks : List S61} {wrong : Int} {needs : List Int} {st : List Bool} (h : CarGood a1 a2 parts swap looks wrong needs st) (h9 : a1 ≤ 9) (h12 : a2 ≤ 12) :
    strip_Out.f parts swap looks wrong needs = some (outL parts.length (truthsL parts looks wrong), 0) := by
  unfold strip_Out.f outE
  rw [if_pos (h.fits h9 h12), if_pos (h.check h9 h12), if_neg (h.set h9).ne]
theorem CarGood.clean {a1 a2 : Int} {parts : List S50} {swap : Int} {looks : List S61} {wrong : Int} {needs : List Int} {st : List Bool} (h : CarGood a1 a2 parts swap looks wrong needs st) (h9 : a1 ≤ 9) (h12 : a2 ≤ 12) :
    strip_Clean.f parts swap looks wrong needs = some (carV parts (truthsL parts looks wrong), 0) := by
  unfold strip_Clean.f cleanE
  rw [if_pos (h.fits h9 h12), if_pos (h.check h9 h12), if_neg (h.set h9).ne]
  rfl
end Go.Proofs.Ytkkmfcdikkiodaa.PC4
namespace Go.Proofs.Ytkkmfcdikkiodaa.PC4
set_option linter.unusedVariables false
open Go.RowKit Go.Proofs.YtkkmfcdikkiodaaW.PrintWords Go.Proofs.YtkkmfcdikkiodaaW.PrintLast Go.Proofs.YtkkmfcdikkiodaaW.PrintMore
theorem Ev.succ {α : Type} {g : Nat → Option α} {r : α} (h : Ev (fun k => g (k + 1)) r) : Ev g r := Ev.step (fun _ => rfl) h
theorem Res.succ {α : Type} {g : Nat → Option α} {P : α → Prop} (h : Res (fun k => g (k + 1)) P) : Res g P := Res.step (fun _ => rfl) h
theorem Res.of {α : Type} {g : Nat → Option α} {P : α → Prop} {r : α} (h : Ev g r) (hp : P r) : Res g P := ⟨r, h, hp⟩
theorem Res.now {α : Type} {P : α → Prop} {r : α} (hp : P r) : Res (fun _ => some r) P := ⟨r, Ev.now r, hp⟩
theorem Res.mono {α : Type} {g : Nat → Option α} {P Q : α → Prop} (h : Res g P) (k : ∀ r, P r → Q r) : Res g Q := by
  obtain ⟨r, h1, h2⟩ := h
  exact ⟨r, h1, k r h2⟩
theorem Ev.tail {α : Type} {g : Nat → Option α} {r : α} (h : Ev g r) : Ev (fun k => (g k).bind fun t => some t) r := Ev.bind h (Ev.now r)
theorem Ev.take {α β : Type} {o : Option α} {a : α} {f : Nat → α → Option β} {r : β} (h : o = some a) (k : Ev (fun n => f n a) r) : Ev (fun n => o.bind (f n)) r := by subst h; exact k
theorem Res.take {α β : Type} {o : Option α} {a : α} {f : Nat → α → Option β} {P : β → Prop} (h : o = some a) (k : Res (fun n => f n a) P) : Res (fun n => o.bind (f n)) P := by subst h; exact k
theorem wrapS {i : Nat} (h : i < 4611686018427387904) : wrap64 ((i : Int) + 1) = ((i + 1 : Nat) : Int) := by rw [wrap64_id (by omega) (by omega)]; omega
theorem rd50 (l : List S50) (k : Nat) : rd_T50 l (k : Int) = l.getD k z50 := by simp [rd_T50]
theorem rdB (l : List Bool) (k : Nat) : rdOf false l (k : Int) = l.getD k false := by simp [rdOf]
theorem getD_mem {α : Type} (l : List α) (k : Nat) (d : α) (h : k < l.length) : l.getD k d ∈ l := by
  rw [List.getD, List.getElem?_eq_getElem h]; exact List.getElem_mem h
theorem getD_get {α : Type} (l : List α) (k : Nat) (d : α) (h : k < l.length) : l.getD k d = l[k] := by
  rw [List.getD, List.getElem?_eq_getElem h]; rfl
theorem isClean_l0 (parts : List S50) (swap : Int) (looks : List S61) (wrong : Int) (needs : List Int) (st : List Bool) (hl : st.length = parts.length) (h9 : parts.length ≤ 1000) (d : Nat) :
    ∀ i : Nat, i + d = parts.length → Ev (fun K => swarfref04_IsClean.l0 K st (i : Int) parts swap looks wrong needs) ((List.range' i d).all fun j => !(parts.getD j z50).f1 || st.getD j false) := by
  induction d with
  | zero =>
    intro i hi
    refine Ev.succ ?_
    simp (disch := omega) only [swarfref04_IsClean.l0, if_neg]
    exact Ev.now _
  | succ d ih =>
    intro i hi
    have ihk := ih (i + 1) (by omega)
    refine Ev.succ ?_
    simp (disch := omega) only [swarfref04_IsClean.l0, if_pos, wrapS, rd50, rdB]
    rw [List.range'_succ, List.all_cons]
    cases (parts.getD i z50).f1 with
    | false => simpa using ihk
    | true =>
      cases st.getD i false with
      | true => simpa using ihk
      | false => simpa using Ev.now false
theorem isClean_ev (parts : List S50) (swap : Int) (looks : List S61) (wrong : Int) (needs : List Int) (st : List Bool) (hl : st.length = parts.length) (h9 : parts.length ≤ 1000) :
    Ev (fun K => swarfref04_IsClean.f K parts swap looks wrong needs st) (subM (badMask parts) (stM st)) := by
  have h := isClean_l0 parts swap looks wrong needs st hl h9 parts.length 0 (by omega)
  have e : ((List.range' 0 parts.length).all fun j => !(parts.getD j z50).f1 || st.getD j false) = subM (badMask parts) (stM st) := by
    rw [Bool.eq_iff_iff, List.all_eq_true, sub_bad]
    constructor
    · intro h i hi hb
      have := h i (List.mem_range'_1.2 ⟨by omega, by omega⟩)
      rw [hb] at this
      rw [stM_bit]
      simpa using this
    · intro h i hi
      have hi2 := (List.mem_range'_1.1 hi).2
      cases hb : (parts.getD i z50).f1 with
      | false => rfl
      | true =>
        have := h i (by omega) hb
        rw [stM_bit] at this
        rw [this]; rfl
  rw [e] at h
  exact h
theorem ints_f (l : List Int) (h : l.length < 17592186044416) : swarfkit_Ints.f l = some l := by
  unfold swarfkit_Ints.f
  simp (disch := omega) only [Option.bind_some, List.length_nil, List.nil_append, if_pos]
theorem copyCar_l0 (parts : List S50) (swap : Int) (looks : List S61) (wrong : Int) (needs : List Int) (s2 : Int) (l2 : List S61) (w2 : Int) (n2 : List Int) (hl : parts.length ≤ 100000) (hb : ∀ p, p ∈ parts → p.f0.length ≤ 100000) (d : Nat) :
    ∀ (i : Nat), i + d = parts.length → Ev (fun K => swarfkit_CopyCar.l0 K (i : Int) parts swap looks wrong needs (parts.take i) s2 l2 w2 n2) (parts, s2, l2, w2, n2) := by
  induction d with
  | zero =>
    intro i hi
    refine Ev.succ ?_
    simp (disch := omega) only [swarfkit_CopyCar.l0, if_neg]
    rw [List.take_of_length_le (by omega)]
    exact Ev.now _
  | succ d ih =>
    intro i hi
    have hlt : i < parts.length := by omega
    have ihk := ih (i + 1) (by omega)
    have hp := hb _ (getD_mem parts i z50 hlt)
    have htl : (parts.take i).length ≤ i := List.length_take_le _ _
    refine Ev.succ ?_
    simp (disch := omega) only [swarfkit_CopyCar.l0, if_pos, wrapS, rd50, ints_f, Option.bind_some]
    rw [List.take_succ_eq_append_getElem hlt] at ihk
    rw [getD_get _ _ _ hlt]
    exact ihk
theorem copyCar_ev (parts : List S50) (swap : Int) (looks : List S61) (wrong : Int) (needs : List Int) (hl : parts.length ≤ 100000) (hb : ∀ p, p ∈ parts → p.f0.length ≤ 100000) (h2 : looks.length ≤ 100000) (h3 : needs.length ≤ 100000) :
    Ev (fun K => swarfkit_CopyCar.f K parts swap looks wrong needs) (parts, swap, looks, wrong, needs) := by
  unfold swarfkit_CopyCar.f
  simp (disch := omega) only [Option.bind_some, List.length_nil, List.nil_append, if_pos, ints_f]
  exact copyCar_l0 parts swap looks wrong needs swap looks wrong needs hl hb parts.length 0 (by omega)
theorem CarGood.copy {a1 a2 : Int} {parts : List S50} {swap : Int} {looks : List S61} {wrong : Int} {needs : List Int} {st : List Bool} (h : CarGood a1 a2 parts swap looks wrong needs st) (h9 : a1 ≤ 9) (h12 : a2 ≤ 12) :
    Ev (fun K => swarfkit_CopyCar.f K parts swap looks wrong needs) (parts, swap, looks, wrong, needs) := by
  have hf := h.few
  have hl := h.ll
  have hn := h.nl
  refine copyCar_ev parts swap looks wrong needs (by omega) (fun p hp => ?_) (by omega) (by omega)
  obtain ⟨i, hi, rfl⟩ := List.getElem_of_mem hp
  have hk2 := h.p.ok i hi
  rw [getD_get _ _ _ hi] at hk2
  have : (parts[i]).f0.length ≤ i := hk2.len
  omega
theorem CarGood.check2 {a1 a2 : Int} {parts : List S50} {swap : Int} {looks : List S61} {wrong : Int} {needs : List Int} {st : List Bool} (h : CarGood a1 a2 parts swap looks wrong needs st) (h9 : a1 ≤ 9) (h12 : a2 ≤ 12) {w : Int} (h0 : 0 ≤ w) (h1 : w ≤ 12) : checkE parts swap looks w needs = 0 := by
  have hc := h.check h9 h12
  have e1 : inB wrong 0 12 = true := inB_of ⟨h.wr.1, h.wr.2.1⟩
  have e2 : inB w 0 12 = true := inB_of ⟨h0, h1⟩
  unfold checkE checkT at hc ⊢
  rw [e1] at hc
  rw [e2]
  exact hc
theorem CarGood.out2 {a1 a2 : Int} {parts : List S50} {swap : Int} {looks : List S61} {wrong : Int} {needs : List Int} {st : List Bool} (h : CarGood a1 a2 parts swap looks wrong needs st) (h9 : a1 ≤ 9) (h12 : a2 ≤ 12) {w : Int} (h0 : 0 ≤ w) (h1 : w ≤ 12) :
    strip_Out.f parts swap looks w needs = some (if truthsL parts looks w = [] then ([], 9) else (outL parts.length (truthsL parts looks w), 0)) := by
  unfold strip_Out.f outE
  rw [if_pos (h.fits h9 h12), if_pos (h.check2 h9 h12 h0 h1)]
end Go.Proofs.Ytkkmfcdikkiodaa.PC4
namespace Go.Proofs.Ytkkmfcdikkiodaa.PC4
set_option linter.unusedVariables false
open Go.RowKit Go.Proofs.YtkkmfcdikkiodaaW.PrintWords Go.Proofs.YtkkmfcdikkiodaaW.PrintLast
theorem fits_ok (v : Int) (b : Bool) (h1 : v = 1 → b = true) (h2 : v = 2 → b = false) : swarflaw04_fits.f v b = some true := by
  unfold swarflaw04_fits.f
  by_cases e1 : v = 1
  · rw [if_pos e1, if_pos (h1 e1), if_neg (by omega)]
  · rw [if_neg e1]
    by_cases e2 : v = 2
    · rw [if_pos e2, h2 e2]; rfl
    · rw [if_neg e2]
theorem leastOf_le (l : List (Nat × Nat)) : ∀ (n m : Nat), leastOf n l ≤ m ↔ n ≤ m ∨ ∃ x, x ∈ l ∧ x.2 ≤ m := by
  induction l with
  | nil => intro n m; simp [leastOf]
  | cons y l ih =>
    intro n m
    have e : leastOf n (y :: l) = leastOf (min n y.2) l := rfl
    rw [e, ih]
    constructor
    · rintro (h | ⟨x, hx, h⟩)
      · by_cases hn : n ≤ m
        · exact .inl hn
        · exact .inr ⟨y, List.mem_cons_self, by omega⟩
      · exact .inr ⟨x, List.mem_cons_of_mem _ hx, h⟩
    · rintro (h | ⟨x, hx, h⟩)
      · exact .inl (by omega)
      · rcases List.mem_cons.1 hx with rfl | hx
        · exact .inl (by omega)
        · exact .inr ⟨x, hx, h⟩
theorem least_truth (parts : List S50) (looks : List S61) (m : Nat) (s0 : Nat) (w0 : Int) (h0 : s0 ∈ truthsL parts looks w0) : leastOf looks.length (statesL parts looks) ≤ m ↔ truthsL parts looks (m : Int) ≠ [] := by
  rw [leastOf_le]
  constructor
  · rintro (h | ⟨x, hx, h⟩) e
    · have h1 := (mem_truths s0).1 h0
      have h2 : s0 ∈ truthsL parts looks (m : Int) := (mem_truths s0).2 ⟨h1.1, h1.2.1, by have := wrongM_le s0 looks; omega⟩
      rw [e] at h2; cases h2
    · have h2 : x.1 ∈ truthsL parts looks (m : Int) := List.mem_map.2 ⟨x, List.mem_filter.2 ⟨hx, decide_eq_true (by omega)⟩, rfl⟩
      rw [e] at h2; cases h2
  · intro h
    obtain ⟨s, hs⟩ := List.exists_mem_of_ne_nil _ h
    obtain ⟨x, hx, rfl⟩ := List.mem_map.1 hs
    obtain ⟨h1, h2⟩ := List.mem_filter.1 hx
    exact .inr ⟨x, h1, by have := of_decide_eq_true h2; omega⟩
theorem true_l0 {parts : List S50} {swap : Int} {looks : List S61} {wrong : Int} {needs : List Int} {st : List Bool} (hG : CarGood 9 12 parts swap looks wrong needs st) (out : List Int) (ho : out = outL parts.length (truthsL parts looks wrong)) (s : Int) (d : Nat) :
    ∀ i : Nat, i + d = parts.length → Ev (fun K => swarflaw04_StripTrue.l0 K st out (leastOf looks.length (statesL parts looks) : Nat) (i : Int) s parts swap looks wrong needs) true := by
  have hS := hG.set (by decide)
  have hl : out.length = parts.length := by rw [ho, outL_len]
  have hst := hG.p.len
  have hll := hG.ll
  have h9 := hS.few
  induction d with
  | zero =>
    intro i hi
    refine Ev.succ ?_
    simp (disch := omega) only [swarflaw04_StripTrue.l0, if_neg]
    refine Ev.bind (hG.copy (by decide) (by decide)) ?_
    obtain ⟨r, s', hb, h0, h1⟩ := below_ok s ((looks.length : Int) + 1) (by omega) (by omega)
    simp (disch := omega) only [wrap64_id, hb, Option.bind_some, hG.out2]
    obtain ⟨m, rfl⟩ : ∃ m : Nat, r = m := ⟨r.toNat, by omega⟩
    have key := least_truth parts looks m (stM st) wrong hG.truth
    by_cases hm : truthsL parts looks (m : Int) = []
    · have : (m : Int) < (leastOf looks.length (statesL parts looks) : Nat) := by
        refine Classical.byContradiction fun h => ?_
        exact (key.1 (by omega)) hm
      simp only [this, hm, if_true]
      exact Ev.tail awake_ev
    · have h2 := key.2 hm
      have : ¬ (m : Int) < (leastOf looks.length (statesL parts looks) : Nat) := by omega
      simp only [this, hm, if_true, if_false]
      exact Ev.tail awake_ev
  | succ d ih =>
    intro i hi
    have hlt : i < parts.length := by omega
    have ihk := ih (i + 1) (by omega)
    have hv : out.getD i 0 = partV (truthsL parts looks wrong) i := by rw [ho]; exact outL_getD _ _ hlt
    have hb : st.getD i false = (stM st).testBit i := (stM_bit st i).symm
    have hf : swarflaw04_fits.f (out.getD i 0) (st.getD i false) = some true := by
      rw [hv, hb]
      refine fits_ok _ _ (fun e => (partV_one hS hlt).1 e _ hG.truth) (fun e => (partV_two hS hlt).1 e _ hG.truth)
    refine Ev.succ ?_
    simp (disch := omega) only [swarflaw04_StripTrue.l0, if_pos, wrapS, rd_getD, rdB, hf, Option.bind_some, if_true]
    exact ihk
theorem stripTrue_pure : swarflaw04_StripTrue.Pure := by
  intro l0 h1 h2 h3
  obtain ⟨r, hev, hg⟩ := carOf_ev (feedAll l0) 9 12 (by decide) (by decide) (by decide) (by decide)
  obtain ⟨parts, swap, looks, wrong, needs, st, s'⟩ := r
  have hG : CarGood 9 12 parts swap looks wrong needs st := hg
  have ho := hG.out (by decide) (by decide)
  have hc := hG.clean (by decide) (by decide)
  have hS := hG.set (by decide)
  have hw := hG.wr
  have hle : strip_Least.f parts swap looks wrong needs = some (((leastOf looks.length (statesL parts looks) : Nat) : Int), 0) := by
    unfold strip_Least.f leastE
    rw [if_pos (hG.fits (by decide) (by decide)), if_pos (hG.check (by decide) (by decide))]
  have hl0 : l0.length ≤ 140737488351232 := by omega
  have hlw : ¬ ((leastOf looks.length (statesL parts looks) : Nat) : Int) > wrong := by
    obtain ⟨m, hm⟩ : ∃ m : Nat, wrong = m := ⟨wrong.toNat, by omega⟩
    have := (least_truth parts looks m (stM st) wrong hG.truth).2 (by rw [← hm]; exact hS.ne)
    omega
  have hlen : ((outL parts.length (truthsL parts looks wrong)).length : Int) = (st.length : Int) := by rw [outL_len, hG.p.len]
  have hfit : swarflaw04_fits.f (carV parts (truthsL parts looks wrong)) (subM (badMask parts) (stM st)) = some true := by
    refine fits_ok _ _ (fun e => ?_) (fun e => ?_)
    · rcases carV_cases hS with ⟨_, h⟩ | ⟨h, _⟩ | ⟨h, _⟩
      · exact h _ hG.truth
      · omega
      · omega
    · rcases carV_cases hS with ⟨h, _⟩ | ⟨_, _, h⟩ | ⟨h, _⟩
      · omega
      · exact h _ hG.truth
      · omega
  refine Ev.rounds (r := true) ?_
  unfold swarflaw04_StripTrue.f swarfkit_FeedOf.f
  simp only [hl0, if_true, Option.bind_some]
  refine Ev.bind hev ?_
  simp only [ho, hc, hle, Option.bind_some, if_true, hlw, if_false, hlen]
  refine Ev.bind (isClean_ev parts swap looks wrong needs st hG.p.len (by have := hS.few; omega)) ?_
  simp only [hfit, Option.bind_some, Bool.not_true]
  refine Ev.succ ?_
  simp only [swarflaw04_StripTrue.j0, Bool.false_eq_true, if_false]
  exact true_l0 hG _ rfl _ parts.length 0 (by omega)
end Go.Proofs.Ytkkmfcdikkiodaa.PC4
namespace Go.Proofs.Ytkkmfcdikkiodaa.Pure
open Go.Proofs.Ytkkmfcdikkiodaa.PC4
theorem StripTrue : swarflaw04_StripTrue.Pure := stripTrue_pure
end Go.Proofs.Ytkkmfcdikkiodaa.Pure
namespace Go.Proofs.YtkkmfcdikkiodaaW.PrintWords
open Go.ChangeShapes Go.WideShapes
theorem sized_ints {H : Type} {enc : TypeId × Value → H} {P : Program} {W : World} {base : Nat} {spare : Nat → Bool} {held : Bool} {t e : TypeId} {k : IntKind} {a : Option Addr} {len cap : Nat} {d : DataW H} {ps : List MemPlace} {ts : List TypeId} {ds : List (DataW H)} {j : Nat}
    (hsz : (DataW.weightsEach P ts ds).all (· ≤ reachBytes) = true) (ht : ts[j]? = some t) (hd : ds[j]? = some d) (hu : P.underlying t = some (.slice e)) (he : P.underlying e = some (.int k)) (hc : P.cellsOf e = 1) {B : Nat} (hB : P.bytesOf e = B)
    (h : DataW.Trod enc P W base spare held t (.slice a len cap) d ps) : len * B ≤ 140737488351232 := by
  obtain ⟨fuel, hf⟩ := h
  rcases open_ints hu he hc hf with ⟨hcs, _⟩ | ⟨x, l, c, zs, hcs, _, hl, _, hz, hx, _, _⟩
  · simp [Value.cells] at hcs
    obtain ⟨rfl, rfl, rfl⟩ := hcs
    simp
  · simp [Value.cells] at hcs
    obtain ⟨rfl, rfl, rfl⟩ := hcs
    obtain ⟨hx, _⟩ := Prod.mk.inj hx
    subst hx
    have z := sized_slice hsz ht hd hu
    rw [hB] at z
    have hl2 : len ≤ zs.length := by
      rw [hz]
      split
      · exact hl
      · exact Nat.le_refl _
    have h1 : (lits (H := H) k (zs.take len)).length + (lits (H := H) k (zs.drop len)).length = zs.length := by
      simp [lits]
      omega
    rw [h1] at z
    exact Nat.le_trans (Nat.mul_le_mul_right _ hl2) z
end Go.Proofs.YtkkmfcdikkiodaaW.PrintWords
namespace Go.Proofs.Ytkkmfcdikkiodaa.stripTrue
open Go.ChangeShapes Go.WideShapes Go.ChangeAt Go.RowKit
open Go.ChangeMaps (open_string shut_string)
set_option linter.unusedVariables false
theorem own : ownKnob Try.prog.godebug = none := by kernel_rfl
theorem laidOut : laidOutB Try.prog = true := by kernel_rfl
def IsRow (k : IntKind) (w : World) (a : Option Addr) (len cap : Nat) (zs : List Int) : Prop :=
  (a = none ∧ len = 0 ∧ cap = 0 ∧ zs = []) ∨
  ∃ x, a = some x ∧ len ≤ cap ∧ cap ≤ maxLen ∧ zs.length = cap ∧ (∀ i, i < zs.length → w.cell? (x.add i) = some (.int k (zs.getD i 0))) ∧ ∀ n ∈ zs, (Lit.int k n).wf = true
set_option maxRecDepth 100000 in
theorem lifted (os : Os) (started : os.Started) (H : Type) (enc : TypeId × Value → H) :
    ReturnsInHanded {} Try.checked os 9 .any (Rows.stripTrueSpec.pre6 enc Try.prog Try.f9 Rows.stripTrueRow.domain false) (Rows.stripTrueSpec.post enc Try.prog Try.f9 false true false false) := by
  refine returnsInHanded_of_change_sized (C := Try.checked) own started (by kernel_rfl) Try.func9
    (ChangeSpec.witness6 (enc := enc) (C := Try.checked) false ⟨#[], #[.slice none 0 0], []⟩ 8 (by kernel_rfl) (by kernel_rfl) (by kernel_rfl) (by kernel_rfl)) ?_
  intro W base args ds gs before hval0 hW hcnd hsz0 _
  have hsz : (DataW.weightsEach Try.prog (Try.f9.params.toList ++ Rows.stripTrueSpec.plain.varTypes Try.prog) (ds ++ gs)).all (· ≤ reachBytes) = true := hsz0
  have hval : ∀ (j : Nat) t v, Try.f9.params[j]? = some t → args[j]? = some v → Value.okWide Try.prog W .any base t v := hval0
  have hW' := hW
  obtain ⟨p, q, hA0, hV, rfl, hfz, hnd⟩ := hW
  have hA : DataW.TrodAll enc Try.prog W 0 (fun _ => true) true Try.f9.params.toList args.toList ds p := hA0
  rw [Try.params9] at hA hval hsz
  obtain ⟨v0, vs0, d0, ds0, p0, q0, hargs, rfl, rfl, h0, r0⟩ := trodAll_cons hA
  obtain ⟨rfl, rfl, rfl⟩ := trodAll_nil r0
  obtain rfl : args = #[v0] := by cases args; simp_all
  obtain ⟨rfl, rfl⟩ := trodVars_none hV
  obtain ⟨a0, len0, cap0, rfl⟩ := okWide_slice Try.underlying24 (hval 0 24 v0 rfl rfl)
  have k0 := h0
  have lt0 : ∀ x ∈ p0, x.block < W.heap.size := by obtain ⟨m, hm⟩ := k0; exact DataW.trod_lt m _ _ _ hm
  obtain ⟨z0, w0⟩ : ∃ zs, IsRow .i64 W a0 len0 cap0 zs := by
    obtain ⟨fuel, hf⟩ := h0
    rcases open_ints Try.underlying24 Try.underlying3 (by kernel_rfl) hf with ⟨hcs, _⟩ | ⟨x, l, c, zs, hcs, _, hl, hm, hz, _, hcell, hwz⟩
    · simp [Value.cells] at hcs
      obtain ⟨rfl, rfl, rfl⟩ := hcs
      exact ⟨[], .inl ⟨rfl, rfl, rfl, rfl⟩⟩
    · simp [Value.cells] at hcs
      obtain ⟨rfl, rfl, rfl⟩ := hcs
      exact ⟨zs, .inr ⟨_, rfl, hl, hm, by simpa using hz, hcell, hwz⟩⟩
  have y0 : len0 * 8 ≤ 140737488351232 := Go.Proofs.YtkkmfcdikkiodaaW.PrintWords.sized_ints hsz (j := 0) (t := 24) rfl rfl Try.underlying24 Try.underlying3 (by kernel_rfl) (by kernel_rfl) h0
  clear hA0 hval0 hsz0 hsz
  refine (PC4.swarflaw04_StripTrue.walk Pure.StripTrue a0 len0 cap0 z0 W w0 y0).mono fun e W' ⟨he, bel⟩ => ?_
  subst he
  exact ⟨_, rfl, _, _, _, [], _, [], hW', trodAll_mk1 (shut_bool Try.underlying4 _), (trodAll_cons_mk (Below.trod laidOut (by kernel_rfl) (of_decide_eq_true (by kernel_rfl)) k0 bel lt0) trodAll_mk0), rfl, bel.frame _, fun h => by cases h⟩
theorem over : Rows.stripTrueRow.holds Try.pinned (OpenSpec.ofChange Rows.stripTrueSpec) :=
  OpenClaim.holds_of_wide 9 Try.f9 rfl rfl rfl rfl rfl rfl rfl ⟨rfl, rfl, rfl, rfl, rfl⟩ rfl rfl rfl rfl rfl (by kernel_rfl) Try.func9 (by kernel_rfl)
    (of_decide_eq_true (by kernel_rfl)) (by unfold Func.isWrapper; first | (rw [if_pos (by decide +kernel)]; kernel_rfl) | (rw [if_neg (by decide +kernel)]; exact ⟨rfl, rfl⟩))
    (fun os started H enc _ => lifted os started H enc)
theorem proved : Rows.StripTrueSaid := over
#print axioms proved
end Go.Proofs.Ytkkmfcdikkiodaa.stripTrue
namespace Go.Proofs.Ytkkmfcdikkiodaa
theorem stripTrue_holds : Rows.StripTrueSaid := stripTrue.proved
end Go.Proofs.Ytkkmfcdikkiodaa
