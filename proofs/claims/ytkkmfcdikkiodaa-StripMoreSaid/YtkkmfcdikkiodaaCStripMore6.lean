/- One more look that is right in all truths changes nothing, and with one more look, and one more that may be wrong, what is said is said of all truths that there were: for every list of numbers of the size that Go can hold. -/
import Derived.Test.YtkkmfcdikkiodaaCStripMore1
import Derived.Test.YtkkmfcdikkiodaaCStripMore2
import Derived.Test.YtkkmfcdikkiodaaCStripMore5
import Derived.Test.YtkkmfcdikkiodaaCStripMore4
import Derived.Test.YtkkmfcdikkiodaaCStripMore3
import Derived.SizedLaws
import Derived.ChangeSlices
import Derived.Test.YtkkmfcdikkiodaaRows
import Derived.WalkKit
import Derived.ProofKit
import Derived.OpenShut
import Derived.ShutString
import Derived.ChangeOld
import Derived.Below
namespace Go.Proofs.Ytkkmfcdikkiodaa.PC4
open Go.RowKit Go.Proofs.YtkkmfcdikkiodaaW.PrintWords Go.Proofs.YtkkmfcdikkiodaaW.PrintLast Go.Proofs.YtkkmfcdikkiodaaW.PrintMore
attribute [local go_sem] max2_int min2_int max_two min_two max_three min_three max_four min_four
set_option linter.unusedVariables false
set_option linter.unusedSimpArgs false
mutual
def swarflaw04_StripMore.j0 : Nat → List Int → Bool → Int → List (S50) → Int → List (S61) → Int → List Int → Option (Bool)
  | 0, _, _, _, _, _, _, _, _ => none
  | k + 1, x6, x36, x491000, x507000, x507001, x507002, x507003, x507004 => if x36 = true then (some false) else ((swarfkit_Feed_Below.f x491000 (x507000.length : Int)).bind fun bt511 => ((swarfkit_CopyCar.f k x507000 x507001 x507002 x507003 x507004).bind fun bt513 => (if 0 ≤ bt511.1 then (if bt511.1 < (x6.length : Int) then (if bt513.2.2.1.length < 8796093022208 then ((some (bt513.2.2.1 ++ [(⟨bt511.1, ((rd x6 bt511.1) == 1)⟩ : S61)] : List (S61))).bind fun y526 => (if (rd x6 bt511.1) = 3 then (swarflaw04_StripMore.j1 k x6 bt511.2 bt513.1 bt513.2.1 y526 bt513.2.2.2.1 bt513.2.2.2.2) else ((strip_Out.f bt513.1 bt513.2.1 y526 bt513.2.2.2.1 bt513.2.2.2.2).bind fun bt530 => (if bt530.2 = 0 then ((swarfkit_EqualInts.f k x6 bt530.1).bind fun t534 => (if t534 = true then (swarflaw04_StripMore.j1 k x6 bt511.2 bt513.1 bt513.2.1 y526 bt513.2.2.2.1 bt513.2.2.2.2) else (some false))) else (some false))))) else (none)) else (none)) else (none))))
def swarflaw04_StripMore.j1 : Nat → List Int → Int → List (S50) → Int → List (S61) → Int → List Int → Option (Bool)
  | 0, _, _, _, _, _, _, _ => none
  | k + 1, x6, x491000, x525000, x525001, x525002, x525003, x525004 => (swarfkit_Feed_Often.f x491000 1 2).bind fun bt535 => (if 0 ≤ (wrap64 ((x525002.length : Int) - 1)) then (if (wrap64 ((x525002.length : Int) - 1)) < (x525002.length : Int) then ((strip_Out.f x525000 x525001 (x525002.set ((wrap64 ((x525002.length : Int) - 1)) : Int).toNat (⟨(rd_T61 x525002 (wrap64 ((x525002.length : Int) - 1))).f0, bt535.1⟩ : S61)) (mn 12 (wrap64 (x525003 + 1))) x525004).bind fun bt538 => (if bt538.2 = 0 then (swarflaw04_StripMore.j2 k x6 bt538.1 ((bt538.1.length : Int) != (x6.length : Int))) else (swarflaw04_StripMore.j2 k x6 bt538.1 true))) else (none)) else (none))
def swarflaw04_StripMore.j2 : Nat → List Int → List Int → Bool → Option (Bool)
  | 0, _, _, _ => none
  | k + 1, x6, x12, x102 => if x102 = true then (some false) else (swarflaw04_StripMore.l0 k x6 x12 0)
def swarflaw04_StripMore.l0 : Nat → List Int → List Int → Int → Option (Bool)
  | 0, _, _, _ => none
  | k + 1, x6, x12, x14 => if x14 < (x12.length : Int) then (if 0 ≤ x14 then (if (rd x12 x14) = 3 then (swarflaw04_StripMore.l0 k x6 x12 (wrap64 (x14 + 1))) else (if x14 < (x6.length : Int) then (if (rd x12 x14) = (rd x6 x14) then (swarflaw04_StripMore.l0 k x6 x12 (wrap64 (x14 + 1))) else (some false)) else (none))) else (none)) else ((swarflaw04_awake.f k).bind fun t545 => (some t545))
end
def swarflaw04_StripMore.f (k : Nat) (l0 : List Int) : Option (Bool) := (swarfkit_FeedOf.f l0).bind fun t489 => ((swarfkit_CarOf.f k t489 9 11).bind fun bt491 => ((strip_Out.f bt491.1 bt491.2.1 bt491.2.2.1 bt491.2.2.2.1 bt491.2.2.2.2.1).bind fun bt507 => (if bt507.2 = 0 then (swarflaw04_StripMore.j0 k bt507.1 ((bt507.1.length : Int) != (bt491.1.length : Int)) bt491.2.2.2.2.2.2 bt491.1 bt491.2.1 bt491.2.2.1 bt491.2.2.2.1 bt491.2.2.2.2.1) else (swarflaw04_StripMore.j0 k bt507.1 true bt491.2.2.2.2.2.2 bt491.1 bt491.2.1 bt491.2.2.1 bt491.2.2.2.1 bt491.2.2.2.2.1))))
theorem swarflaw04_StripMore.mono_l : ∀ k, (∀ y0 y1 y2 y3 y4 y5 y6 y7, LeO (swarflaw04_StripMore.j0 k y0 y1 y2 y3 y4 y5 y6 y7) (swarflaw04_StripMore.j0 (k + 1) y0 y1 y2 y3 y4 y5 y6 y7)) ∧ (∀ y0 y1 y2 y3 y4 y5 y6, LeO (swarflaw04_StripMore.j1 k y0 y1 y2 y3 y4 y5 y6) (swarflaw04_StripMore.j1 (k + 1) y0 y1 y2 y3 y4 y5 y6)) ∧ (∀ y0 y1 y2, LeO (swarflaw04_StripMore.j2 k y0 y1 y2) (swarflaw04_StripMore.j2 (k + 1) y0 y1 y2)) ∧ (∀ y0 y1 y2, LeO (swarflaw04_StripMore.l0 k y0 y1 y2) (swarflaw04_StripMore.l0 (k + 1) y0 y1 y2))
  | 0 => ⟨fun _ _ _ _ _ _ _ _ r h => by simp [swarflaw04_StripMore.j0] at h, fun _ _ _ _ _ _ _ r h => by simp [swarflaw04_StripMore.j1] at h, fun _ _ _ r h => by simp [swarflaw04_StripMore.j2] at h, fun _ _ _ r h => by simp [swarflaw04_StripMore.l0] at h⟩
  | k + 1 => by
    obtain ⟨ih0, ih1, ih2, ih3⟩ := swarflaw04_StripMore.mono_l k
    refine ⟨?_, ?_, ?_, ?_⟩
    · intro y0 y1 y2 y3 y4 y5 y6 y7
      unfold swarflaw04_StripMore.j0
      repeat' first
      | (with_reducible exact ih0 _ _ _ _ _ _ _ _)
      | (with_reducible exact ih1 _ _ _ _ _ _ _)
      | (with_reducible exact ih2 _ _ _)
      | (with_reducible exact ih3 _ _ _)
      | (with_reducible exact swarfkit_CarOf.mono _ _ _ _)
      | (with_reducible exact swarfkit_CopyCar.mono _ _ _ _ _ _)
      | (with_reducible exact swarfkit_EqualInts.mono _ _ _)
      | (with_reducible exact swarflaw04_awake.mono _)
      | (with_reducible exact LeO.refl _)
      | (with_reducible exact LeO.none _)
      | (with_reducible refine LeO.ite ?_ ?_)
      | (with_reducible refine LeO.bind ?_ (fun _ => ?_))
      | exact ih0 _ _ _ _ _ _ _ _
      | exact ih1 _ _ _ _ _ _ _
      | exact ih2 _ _ _
      | exact ih3 _ _ _
      | exact swarfkit_CarOf.mono _ _ _ _
      | exact swarfkit_CopyCar.mono _ _ _ _ _ _
      | exact swarfkit_EqualInts.mono _ _ _
      | exact swarflaw04_awake.mono _
      | exact LeO.none _
      | refine LeO.ite ?_ ?_
      | refine LeO.bind ?_ (fun _ => ?_)
    · intro y0 y1 y2 y3 y4 y5 y6
      unfold swarflaw04_StripMore.j1
      repeat' first
      | (with_reducible exact ih0 _ _ _ _ _ _ _ _)
      | (with_reducible exact ih1 _ _ _ _ _ _ _)
      | (with_reducible exact ih2 _ _ _)
      | (with_reducible exact ih3 _ _ _)
      | (with_reducible exact swarfkit_CarOf.mono _ _ _ _)
      | (with_reducible exact swarfkit_CopyCar.mono _ _ _ _ _ _)
      | (with_reducible exact swarfkit_EqualInts.mono _ _ _)
      | (with_reducible exact swarflaw04_awake.mono _)
      | (with_reducible exact LeO.refl _)
      | (with_reducible exact LeO.none _)
      | (with_reducible refine LeO.ite ?_ ?_)
      | (with_reducible refine LeO.bind ?_ (fun _ => ?_))
      | exact ih0 _ _ _ _ _ _ _ _
      | exact ih1 _ _ _ _ _ _ _
      | exact ih2 _ _ _
      | exact ih3 _ _ _
      | exact swarfkit_CarOf.mono _ _ _ _
      | exact swarfkit_CopyCar.mono _ _ _ _ _ _
      | exact swarfkit_EqualInts.mono _ _ _
      | exact swarflaw04_awake.mono _
      | exact LeO.none _
      | refine LeO.ite ?_ ?_
      | refine LeO.bind ?_ (fun _ => ?_)
    · intro y0 y1 y2
      unfold swarflaw04_StripMore.j2
      repeat' first
      | (with_reducible exact ih0 _ _ _ _ _ _ _ _)
      | (with_reducible exact ih1 _ _ _ _ _ _ _)
      | (with_reducible exact ih2 _ _ _)
      | (with_reducible exact ih3 _ _ _)
      | (with_reducible exact swarfkit_CarOf.mono _ _ _ _)
      | (with_reducible exact swarfkit_CopyCar.mono _ _ _ _ _ _)
      | (with_reducible exact swarfkit_EqualInts.mono _ _ _)
      | (with_reducible exact swarflaw04_awake.mono _)
      | (with_reducible exact LeO.refl _)
      | (with_reducible exact LeO.none _)
      | (with_reducible refine LeO.ite ?_ ?_)
      | (with_reducible refine LeO.bind ?_ (fun _ => ?_))
      | exact ih0 _ _ _ _ _ _ _ _
      | exact ih1 _ _ _ _ _ _ _
      | exact ih2 _ _ _
      | exact ih3 _ _ _
      | exact swarfkit_CarOf.mono _ _ _ _
      | exact swarfkit_CopyCar.mono _ _ _ _ _ _
      | exact swarfkit_EqualInts.mono _ _ _
      | exact swarflaw04_awake.mono _
      | exact LeO.none _
      | refine LeO.ite ?_ ?_
      | refine LeO.bind ?_ (fun _ => ?_)
    · intro y0 y1 y2
      unfold swarflaw04_StripMore.l0
      repeat' first
      | (with_reducible exact ih0 _ _ _ _ _ _ _ _)
      | (with_reducible exact ih1 _ _ _ _ _ _ _)
      | (with_reducible exact ih2 _ _ _)
      | (with_reducible exact ih3 _ _ _)
      | (with_reducible exact swarfkit_CarOf.mono _ _ _ _)
      | (with_reducible exact swarfkit_CopyCar.mono _ _ _ _ _ _)
      | (with_reducible exact swarfkit_EqualInts.mono _ _ _)
      | (with_reducible exact swarflaw04_awake.mono _)
      | (with_reducible exact LeO.refl _)
      | (with_reducible exact LeO.none _)
      | (with_reducible refine LeO.ite ?_ ?_)
      | (with_reducible refine LeO.bind ?_ (fun _ => ?_))
      | exact ih0 _ _ _ _ _ _ _ _
      | exact ih1 _ _ _ _ _ _ _
      | exact ih2 _ _ _
      | exact ih3 _ _ _
      | exact swarfkit_CarOf.mono _ _ _ _
      | exact swarfkit_CopyCar.mono _ _ _ _ _ _
      | exact swarfkit_EqualInts.mono _ _ _
      | exact swarflaw04_awake.mono _
      | exact LeO.none _
      | refine LeO.ite ?_ ?_
      | refine LeO.bind ?_ (fun _ => ?_)
theorem swarflaw04_StripMore.mono : ∀ a0 k, LeO (swarflaw04_StripMore.f k a0) (swarflaw04_StripMore.f (k + 1) a0) := by
  intro a0 k
  obtain ⟨ih0, ih1, ih2, ih3⟩ := swarflaw04_StripMore.mono_l k
  unfold swarflaw04_StripMore.f
  repeat' first
      | (with_reducible exact ih0 _ _ _ _ _ _ _ _)
      | (with_reducible exact ih1 _ _ _ _ _ _ _)
      | (with_reducible exact ih2 _ _ _)
      | (with_reducible exact ih3 _ _ _)
      | (with_reducible exact swarfkit_CarOf.mono _ _ _ _)
      | (with_reducible exact swarfkit_CopyCar.mono _ _ _ _ _ _)
      | (with_reducible exact swarfkit_EqualInts.mono _ _ _)
      | (with_reducible exact swarflaw04_awake.mono _)
      | (with_reducible exact LeO.refl _)
      | (with_reducible exact LeO.none _)
      | (with_reducible refine LeO.ite ?_ ?_)
      | (with_reducible refine LeO.bind ?_ (fun _ => ?_))
      | exact ih0 _ _ _ _ _ _ _ _
      | exact ih1 _ _ _ _ _ _ _
      | exact ih2 _ _ _
      | exact ih3 _ _ _
      | exact swarfkit_CarOf.mono _ _ _ _
      | exact swarfkit_CopyCar.mono _ _ _ _ _ _
      | exact swarfkit_EqualInts.mono _ _ _
      | exact swarflaw04_awake.mono _
      | exact LeO.none _
      | refine LeO.ite ?_ ?_
      | refine LeO.bind ?_ (fun _ => ?_)
def swarflaw04_StripMore.T8 : Bool × List (List Nat × List Nat) := (true, [([], []), ([0], [0]), ([], []), ([], []), ([], []), ([3, 4], [3, 4]), ([5], [5]), ([6], [6]), ([2, 7], [2, 7]), ([8], [8]), ([1, 9], [1, 9]), ([0, 1, 2, 3, 4, 5, 6, 7, 8, 9, 10], []), ([11, 10, 10, 0, 1, 2, 3, 4, 5, 6, 7, 8, 9, 10], [10, 11])])
def swarflaw04_StripMore.B8 : List Nat := [0, 1, 0, 0, 0, 24, 56, 120, 252, 508, 1023, 2047, 4095]
theorem swarflaw04_StripMore.tab8 : rtab .any (opsOf Try.f7 8) = swarflaw04_StripMore.T8 := by kernel_rfl
theorem swarflaw04_StripMore.bits8 : waitsOk swarflaw04_StripMore.T8.2 swarflaw04_StripMore.B8 = true := by kernel_rfl
def swarflaw04_StripMore.T13 : Bool × List (List Nat × List Nat) := (true, [([], []), ([0], [0]), ([], []), ([2], [2]), ([3], [3]), ([4], [4]), ([], []), ([6], [6]), ([1, 5, 0, 1, 2, 3, 4, 5, 6, 7], [1, 5]), ([8, 0, 1, 2, 3, 4, 5, 6, 7], [8]), ([9, 7, 7, 0, 1, 2, 3, 4, 5, 6, 7], [7, 9])])
def swarflaw04_StripMore.B13 : List Nat := [0, 1, 0, 4, 12, 28, 0, 64, 255, 511, 1023]
theorem swarflaw04_StripMore.tab13 : rtab .any (opsOf Try.f7 13) = swarflaw04_StripMore.T13 := by kernel_rfl
theorem swarflaw04_StripMore.bits13 : waitsOk swarflaw04_StripMore.T13.2 swarflaw04_StripMore.B13 = true := by kernel_rfl
def swarflaw04_StripMore.T21 : Bool × List (List Nat × List Nat) := (true, [([], []), ([], []), ([0, 1], [0, 1]), ([2], [2]), ([3], [3]), ([4], [4]), ([5], [5]), ([5], [5]), ([6, 7, 5], [5, 6, 7]), ([8, 5], [5, 8]), ([5], [5]), ([5], [5]), ([10, 11, 5], [5, 10, 11]), ([12, 5], [5, 12]), ([9, 13, 5], [5, 9, 13]), ([5, 14], [5, 14])])
def swarflaw04_StripMore.B21 : List Nat := [0, 0, 3, 7, 15, 31, 63, 63, 255, 511, 63, 63, 3135, 7231, 16383, 32767]
theorem swarflaw04_StripMore.tab21 : rtab .any (opsOf Try.f7 21) = swarflaw04_StripMore.T21 := by kernel_rfl
theorem swarflaw04_StripMore.bits21 : waitsOk swarflaw04_StripMore.T21.2 swarflaw04_StripMore.B21 = true := by kernel_rfl
set_option maxHeartbeats 8000000 in
set_option maxRecDepth 100000 in
theorem swarflaw04_StripMore.calls (k : Nat) (A0 : Option Addr) (c0 : Nat) (l0 : List Int) (r : Bool) (hrt : Aside0 (r = true)) (w : World) (hr0 : Kd.C (Kd.int .i64) w A0 l0.length l0) (hc0 : l0.length ≤ c0) (h : swarflaw04_StripMore.f k l0 = some r) :
    Calls Try.prog 7 #[.slice A0 l0.length c0] w fun e w' => e = .returned (.bool r) ∧ Below w.heap.size w w' := by
  have hu26 := Try.underlying26
  have hu61 := Try.underlying61
  have HR0 := Aside0.mk hr0
  have HC0 := Aside0.mk hc0
  clear hr0 hc0
  have HB := Aside0.mk (Below.refl w.heap.size w)
  have H : ((swarfkit_FeedOf.f l0).bind fun t489 => ((swarfkit_CarOf.f k t489 9 11).bind fun bt491 => ((strip_Out.f bt491.1 bt491.2.1 bt491.2.2.1 bt491.2.2.2.1 bt491.2.2.2.2.1).bind fun bt507 => (if bt507.2 = 0 then (swarflaw04_StripMore.j0 k bt507.1 ((bt507.1.length : Int) != (bt491.1.length : Int)) bt491.2.2.2.2.2.2 bt491.1 bt491.2.1 bt491.2.2.1 bt491.2.2.2.1 bt491.2.2.2.2.1) else (swarflaw04_StripMore.j0 k bt507.1 true bt491.2.2.2.2.2.2 bt491.1 bt491.2.1 bt491.2.2.1 bt491.2.2.2.1 bt491.2.2.2.2.1))))) = some r := h
  clear h
  replace H := Option.bind_eq_some_iff.mp H
  obtain ⟨t489, A20, H⟩ := H
  replace H : ((swarfkit_CarOf.f k t489 9 11).bind fun bt491 => ((strip_Out.f bt491.1 bt491.2.1 bt491.2.2.1 bt491.2.2.2.1 bt491.2.2.2.2.1).bind fun bt507 => (if bt507.2 = 0 then (swarflaw04_StripMore.j0 k bt507.1 ((bt507.1.length : Int) != (bt491.1.length : Int)) bt491.2.2.2.2.2.2 bt491.1 bt491.2.1 bt491.2.2.1 bt491.2.2.2.1 bt491.2.2.2.2.1) else (swarflaw04_StripMore.j0 k bt507.1 true bt491.2.2.2.2.2.2 bt491.1 bt491.2.1 bt491.2.2.1 bt491.2.2.2.1 bt491.2.2.2.2.1)))) = some r := H
  have A2 := Aside0.mk A20
  clear A20
  replace H := Option.bind_eq_some_iff.mp H
  obtain ⟨⟨t491, t494, t495, t498, t499, t502, t505⟩, A30, H⟩ := H
  replace H : ((strip_Out.f t491 t494 t495 t498 t499).bind fun bt507 => (if bt507.2 = 0 then (swarflaw04_StripMore.j0 k bt507.1 ((bt507.1.length : Int) != (t491.length : Int)) t505 t491 t494 t495 t498 t499) else (swarflaw04_StripMore.j0 k bt507.1 true t505 t491 t494 t495 t498 t499))) = some r := H
  have A3 := Aside0.mk A30
  clear A30
  replace H := Option.bind_eq_some_iff.mp H
  obtain ⟨⟨t507, t510⟩, A40, H⟩ := H
  replace H : (if t510 = 0 then (swarflaw04_StripMore.j0 k t507 ((t507.length : Int) != (t491.length : Int)) t505 t491 t494 t495 t498 t499) else (swarflaw04_StripMore.j0 k t507 true t505 t491 t494 t495 t498 t499)) = some r := H
  have A4 := Aside0.mk A40
  clear A40
  have HC5 := Aside0.mk H
  clear H
  go_enter Try.func7, Try.ntmps7
  go_upto_region 4 with (first | ((with_reducible refine gate_callee (f := 18) rfl ?_); refine goesL_ (some 16) rfl rfl Try.func18 (by kernel_rfl) rfl #[.slice A0 l0.length c0] rfl (by (try simp only [List.map_toArray, List.map_cons, List.map_nil]); first | done | rfl | (simp only [List.length_drop, List.length_take]; rfl)) ?_; (with_reducible refine (swarfkit_FeedOf.calls _ _ l0 t489 w _ ?side1 ?side2 ?side3 A2.out).mono ?_); (case side1 => repeat (first | (with_reducible first | exact HB.out | apply below_alloc | apply pw_below_drewN | apply below_drew1) | exact HB.out)); (case side2 => exact HR0.out); (case side3 => exact HC0.out); rintro e w6 ⟨g490, rfl, hi, hb, hb2⟩; refine ⟨_, rfl, ?_⟩; have n0_ := Aside0.mk (hb); have n1_ := Aside0.mk (hi); clear HB; have HB := n0_; have HI490 := n1_; clear n0_ n1_; (try clear hb); (try clear hb2); (try clear hk); (try clear hi)) | ((with_reducible refine gate_callee (f := 17) rfl ?_); refine goesL_ (some 19) rfl rfl Try.func17 (by kernel_rfl) rfl #[.pointer (some ⟨g490, 0, none⟩), .int .i64 9, .int .i64 11] rfl (by (try simp only [List.map_toArray, List.map_cons, List.map_nil]); first | done | rfl | (simp only [List.length_drop, List.length_take]; rfl)) ?_; (with_reducible refine (swarfkit_CarOf.calls k g490 t489 9 11 t491 t494 t495 t498 t499 t502 t505 w _ ?side1 ?side2 A3.out).mono ?_); (case side1 => repeat (first | (with_reducible first | exact HI490.out | apply IsS79.alloc | apply IsS79.drewN | apply IsS79.drew | apply IsS79.set_0) | exact HI490.out)); (case side2 => repeat (first | (with_reducible first | exact HB.out | apply below_alloc | apply pw_below_drewN | apply below_drew1 | refine below_set ?_ (IsS79.ge HI490.out)) | exact HB.out)); rintro e w7 ⟨v492, v496, v500, v503, rfl, ho0, ho1, ho2, ho3, hi, hb, hk⟩; refine ⟨_, rfl, ?_⟩; have n0_ := Aside0.mk (Kd.S_lower ho0 (below_size (by repeat (first | (with_reducible first | exact HB.out | apply below_alloc | apply pw_below_drewN | apply below_drew1 | refine below_set ?_ (IsS79.ge HI490.out)) | exact HB.out)))); have n1_ := Aside0.mk (Kd.R_lower ho1 (below_size (by repeat (first | (with_reducible first | exact HB.out | apply below_alloc | apply pw_below_drewN | apply below_drew1 | refine below_set ?_ (IsS79.ge HI490.out)) | exact HB.out)))); have n2_ := Aside0.mk (Kd.R_lower ho2 (below_size (by repeat (first | (with_reducible first | exact HB.out | apply below_alloc | apply pw_below_drewN | apply below_drew1 | refine below_set ?_ (IsS79.ge HI490.out)) | exact HB.out)))); have n3_ := Aside0.mk (Kd.R_lower ho3 (below_size (by repeat (first | (with_reducible first | exact HB.out | apply below_alloc | apply pw_below_drewN | apply below_drew1 | refine below_set ?_ (IsS79.ge HI490.out)) | exact HB.out)))); have n4_ := Aside0.mk (hb); have n5_ := Aside0.mk (hi); clear HB; clear HI490; have HO493 := n0_; have HO497 := n1_; have HO501 := n2_; have HO504 := n3_; have HB := n4_; have HI490 := n5_; clear n0_ n1_ n2_ n3_ n4_ n5_; (try clear hb); (try clear hb2); (try clear hk); (try clear hi); (try clear ho0); (try clear ho1); (try clear ho2); (try clear ho3)) | ((with_reducible refine gate_dst (N := 4) rfl ?_); (try (refine gate_guard (by rfl) ?_; dsimp only)); refine box_event ?hg (N := 4) ?hd (cs := #[.slice none 0 0, .int .i64 0, .slice none 0 0, .int .i64 0, .slice none 0 0]) (t := 26) ?hr ?_; (case hd => rfl); (case hg => rfl); (case hr => first | (go_simp; done) | (go_simp; rfl)); intro gb506 hg w8 hbox hb; have n0_ := Aside0.mk (Kd.S_below (by (with_reducible repeat (first | apply Kd.S_alloc | apply Kd.S_drewN | apply Kd.S_drew)); exact HO493.out) hb); have n1_ := Aside0.mk (Kd.R_below (by (with_reducible repeat (first | apply Kd.R_alloc | apply Kd.R_drewN | apply Kd.R_drew)); exact HO497.out) hb); have n2_ := Aside0.mk (Kd.R_below (by (with_reducible repeat (first | apply Kd.R_alloc | apply Kd.R_drewN | apply Kd.R_drew)); exact HO501.out) hb); have n3_ := Aside0.mk (Kd.R_below (by (with_reducible repeat (first | apply Kd.R_alloc | apply Kd.R_drewN | apply Kd.R_drew)); exact HO504.out) hb); have n4_ := Aside0.mk (IsS79.below (by repeat (first | (with_reducible first | exact HI490.out | apply IsS79.alloc | apply IsS79.drewN | apply IsS79.drew | apply IsS79.set_0) | exact HI490.out)) hb); have n5_ := Aside0.mk (below_step (by repeat (first | (with_reducible first | exact HB.out | apply below_alloc | apply pw_below_drewN | apply below_drew1 | refine below_set ?_ (IsS79.ge HI490.out)) | exact HB.out)) hb); have n6_ := Aside0.mk (hbox); have n7_ := Aside0.mk ((by rw [hg]; exact (below_size (by repeat (first | (with_reducible first | exact HB.out | apply below_alloc | apply pw_below_drewN | apply below_drew1 | refine below_set ?_ (IsS79.ge HI490.out)) | exact HB.out))) : w.heap.size ≤ gb506)); have n8_ := Aside0.mk ((by rw [hg]; exact (below_size (by repeat (first | (with_reducible first | exact HB.out | apply below_alloc | apply pw_below_drewN | apply below_drew1 | refine below_set ?_ (IsS79.ge HI490.out)) | exact HB.out))) : w.heap.size ≤ gb506)); have n9_ := Aside0.mk ((by rw [hg]; exact Nat.ne_of_lt (IsS79.lt (show IsS79 w _ g490 t505 from by repeat (first | (with_reducible first | exact HI490.out | apply IsS79.alloc | apply IsS79.drewN | apply IsS79.drew | apply IsS79.set_0) | exact HI490.out))) : g490 ≠ gb506)); have n10_ := Aside0.mk ((by rw [hg]; exact Nat.ne_of_gt (IsS79.lt (show IsS79 w _ g490 t505 from by repeat (first | (with_reducible first | exact HI490.out | apply IsS79.alloc | apply IsS79.drewN | apply IsS79.drew | apply IsS79.set_0) | exact HI490.out))) : gb506 ≠ g490)); clear HO493; clear HO497; clear HO501; clear HO504; clear HI490; clear HB; have HO493 := n0_; have HO497 := n1_; have HO501 := n2_; have HO504 := n3_; have HI490 := n4_; have HB := n5_; have BK506 := n6_; have GW506 := n7_; have GE506 := n8_; have NB490_506 := n9_; have NB506_490 := n10_; clear n0_ n1_ n2_ n3_ n4_ n5_ n6_ n7_ n8_ n9_ n10_; clear hb hbox hg; obtain ⟨Ao9, co9, eo9⟩ := Kd.S_slice HO493.out; subst eo9; have hnb10 := NB506_490.out; have hnc10 := NB490_506.out; have hcz11_0 : w8.cell? ⟨gb506, 0, none⟩ = some (.slice none 0 0) := (blk_cell BK506.out 0).trans rfl; have hcz11_1 : w8.cell? ⟨gb506, 1, none⟩ = some (.int .i64 0) := (blk_cell BK506.out 1).trans rfl; have hcz11_2 : w8.cell? ⟨gb506, 2, none⟩ = some (.slice none 0 0) := (blk_cell BK506.out 2).trans rfl; have hcz11_3 : w8.cell? ⟨gb506, 3, none⟩ = some (.int .i64 0) := (blk_cell BK506.out 3).trans rfl; have hcz11_4 : w8.cell? ⟨gb506, 4, none⟩ = some (.slice none 0 0) := (blk_cell BK506.out 4).trans rfl; have hfz11_0 := blk_frozen BK506.out 0; have hfz11_1 := blk_frozen BK506.out 1; have hfz11_2 := blk_frozen BK506.out 2; have hfz11_3 := blk_frozen BK506.out 3; have hfz11_4 := blk_frozen BK506.out 4; obtain ⟨Ao12, co12, eo12⟩ := Kd.R_slice HO497.out; subst eo12; obtain ⟨Ao13, co13, eo13⟩ := Kd.R_slice HO501.out; subst eo13) | ((with_reducible refine gate_callee (f := 26) rfl ?_); refine goesL_ (some 24) rfl rfl Try.func26 (by kernel_rfl) rfl #[.agg #[.slice Ao9 t491.length co9, .int .i64 t494, .slice Ao12 t495.length co12, .int .i64 t498, .slice Ao13 t499.length co13]] rfl (by (try simp only [List.map_toArray, List.map_cons, List.map_nil]); first | done | rfl | (simp only [List.length_drop, List.length_take]; rfl)) ?_; (with_reducible refine (strip_Out.calls _ _ t491 t494 _ _ t495 t498 _ _ t499 t507 t510 _ ?side1 ?side2 ?side3 ?side4 ?side5 ?side6 A4.out).mono ?_); (case side1 => refine (Kd.S_reads' (e := 50) (base := w.heap.size) (ok := fun k_ => some k_ ≠ (.slice Ao13 t499.length co13 : Value).ownBlock) (n := t491.length) (c := co9) ?_).2.2; exact (by (with_reducible repeat (first | apply Kd.S_alloc | apply Kd.S_drewN | apply Kd.S_drew)); exact (Kd.S_mono (Kd.S_far (p := ⟨gb506, 4, none⟩) (Kd.S_far (p := ⟨gb506, 3, none⟩) (Kd.S_far (p := ⟨gb506, 2, none⟩) (Kd.S_far (p := ⟨gb506, 1, none⟩) (Kd.S_far (p := ⟨gb506, 0, none⟩) (Kd.S_types HO493.out BK506.out (by decide)) (fun _ hk => hk.2) (.slice Ao9 t491.length co9)) (fun _ hk => hk.2) (.int .i64 t494)) (fun _ hk => hk.2) (.slice Ao12 t495.length co12)) (fun _ hk => hk.2) (.int .i64 t498)) (fun _ hk => hk.2) (.slice Ao13 t499.length co13)) (fun _ h_ => h_.1)))); (case side2 => exact (Kd.S_reads' HO493.out).2.1); (case side3 => refine (Kd.R_reads' (e := 61) (base := w.heap.size) (ok := fun k_ => True) (n := t495.length) (c := co12) ?_).2.2; exact (by (with_reducible repeat (first | apply Kd.R_alloc | apply Kd.R_drewN | apply Kd.R_drew)); exact (Kd.R_mono (Kd.R_far (p := ⟨gb506, 4, none⟩) (Kd.R_far (p := ⟨gb506, 3, none⟩) (Kd.R_far (p := ⟨gb506, 2, none⟩) (Kd.R_far (p := ⟨gb506, 1, none⟩) (Kd.R_far (p := ⟨gb506, 0, none⟩) (Kd.R_types HO497.out BK506.out (by decide)) (fun _ hk => hk.2) (.slice Ao9 t491.length co9)) (fun _ hk => hk.2) (.int .i64 t494)) (fun _ hk => hk.2) (.slice Ao12 t495.length co12)) (fun _ hk => hk.2) (.int .i64 t498)) (fun _ hk => hk.2) (.slice Ao13 t499.length co13)) (fun _ h_ => h_.1)))); (case side4 => exact (Kd.R_reads' HO497.out).2.1); (case side5 => refine (Kd.R_reads' (e := 3) (base := w.heap.size) (ok := fun k_ => True) (n := t499.length) (c := co13) ?_).2.2; exact (by (with_reducible repeat (first | apply Kd.R_alloc | apply Kd.R_drewN | apply Kd.R_drew)); exact (Kd.R_mono (Kd.R_far (p := ⟨gb506, 4, none⟩) (Kd.R_far (p := ⟨gb506, 3, none⟩) (Kd.R_far (p := ⟨gb506, 2, none⟩) (Kd.R_far (p := ⟨gb506, 1, none⟩) (Kd.R_far (p := ⟨gb506, 0, none⟩) (Kd.R_types HO501.out BK506.out (by decide)) (fun _ hk => hk.2) (.slice Ao9 t491.length co9)) (fun _ hk => hk.2) (.int .i64 t494)) (fun _ hk => hk.2) (.slice Ao12 t495.length co12)) (fun _ hk => hk.2) (.int .i64 t498)) (fun _ hk => hk.2) (.slice Ao13 t499.length co13)) (fun _ h_ => h_.1)))); (case side6 => exact (Kd.R_reads' HO501.out).2.1); rintro e w14 ⟨v508, rfl, ho0, hb⟩; refine ⟨_, rfl, ?_⟩; have n0_ := Aside0.mk (Kd.S_elder' (by (with_reducible repeat (first | apply Kd.S_alloc | apply Kd.S_drewN | apply Kd.S_drew)); exact (Kd.S_mono (Kd.S_far (p := ⟨gb506, 4, none⟩) (Kd.S_far (p := ⟨gb506, 3, none⟩) (Kd.S_far (p := ⟨gb506, 2, none⟩) (Kd.S_far (p := ⟨gb506, 1, none⟩) (Kd.S_far (p := ⟨gb506, 0, none⟩) (Kd.S_types HO493.out BK506.out (by decide)) (fun _ hk => hk.2) (.slice Ao9 t491.length co9)) (fun _ hk => hk.2) (.int .i64 t494)) (fun _ hk => hk.2) (.slice Ao12 t495.length co12)) (fun _ hk => hk.2) (.int .i64 t498)) (fun _ hk => hk.2) (.slice Ao13 t499.length co13)) (fun _ h_ => h_.1))) (Kd.R_base ho0) hb); have n1_ := Aside0.mk (Kd.R_below (by (with_reducible repeat (first | apply Kd.R_alloc | apply Kd.R_drewN | apply Kd.R_drew)); exact (Kd.R_mono (Kd.R_far (p := ⟨gb506, 4, none⟩) (Kd.R_far (p := ⟨gb506, 3, none⟩) (Kd.R_far (p := ⟨gb506, 2, none⟩) (Kd.R_far (p := ⟨gb506, 1, none⟩) (Kd.R_far (p := ⟨gb506, 0, none⟩) (Kd.R_types HO497.out BK506.out (by decide)) (fun _ hk => hk.2) (.slice Ao9 t491.length co9)) (fun _ hk => hk.2) (.int .i64 t494)) (fun _ hk => hk.2) (.slice Ao12 t495.length co12)) (fun _ hk => hk.2) (.int .i64 t498)) (fun _ hk => hk.2) (.slice Ao13 t499.length co13)) (fun _ h_ => h_.1))) hb); have n2_ := Aside0.mk (Kd.R_elder' (by (with_reducible repeat (first | apply Kd.R_alloc | apply Kd.R_drewN | apply Kd.R_drew)); exact (Kd.R_mono (Kd.R_far (p := ⟨gb506, 4, none⟩) (Kd.R_far (p := ⟨gb506, 3, none⟩) (Kd.R_far (p := ⟨gb506, 2, none⟩) (Kd.R_far (p := ⟨gb506, 1, none⟩) (Kd.R_far (p := ⟨gb506, 0, none⟩) (Kd.R_types HO501.out BK506.out (by decide)) (fun _ hk => hk.2) (.slice Ao9 t491.length co9)) (fun _ hk => hk.2) (.int .i64 t494)) (fun _ hk => hk.2) (.slice Ao12 t495.length co12)) (fun _ hk => hk.2) (.int .i64 t498)) (fun _ hk => hk.2) (.slice Ao13 t499.length co13)) (fun _ h_ => h_.1))) (Kd.R_base ho0) hb); have n3_ := Aside0.mk (Kd.R_below (by (with_reducible repeat (first | apply Kd.R_alloc | apply Kd.R_drewN | apply Kd.R_drew)); exact (Kd.R_mono (Kd.R_far (p := ⟨gb506, 4, none⟩) (Kd.R_far (p := ⟨gb506, 3, none⟩) (Kd.R_far (p := ⟨gb506, 2, none⟩) (Kd.R_far (p := ⟨gb506, 1, none⟩) (Kd.R_far (p := ⟨gb506, 0, none⟩) (Kd.R_types HO504.out BK506.out (by decide)) (fun _ hk => hk.2) (.slice Ao9 t491.length co9)) (fun _ hk => hk.2) (.int .i64 t494)) (fun _ hk => hk.2) (.slice Ao12 t495.length co12)) (fun _ hk => hk.2) (.int .i64 t498)) (fun _ hk => hk.2) (.slice Ao13 t499.length co13)) (fun _ h_ => h_.1))) hb); have n4_ := Aside0.mk (Kd.R_lower (Kd.R_new' ho0 (Kd.R_lt (by (with_reducible repeat (first | apply Kd.R_alloc | apply Kd.R_drewN | apply Kd.R_drew)); exact (Kd.R_mono (Kd.R_far (p := ⟨gb506, 4, none⟩) (Kd.R_far (p := ⟨gb506, 3, none⟩) (Kd.R_far (p := ⟨gb506, 2, none⟩) (Kd.R_far (p := ⟨gb506, 1, none⟩) (Kd.R_far (p := ⟨gb506, 0, none⟩) (Kd.R_types HO501.out BK506.out (by decide)) (fun _ hk => hk.2) (.slice Ao9 t491.length co9)) (fun _ hk => hk.2) (.int .i64 t494)) (fun _ hk => hk.2) (.slice Ao12 t495.length co12)) (fun _ hk => hk.2) (.int .i64 t498)) (fun _ hk => hk.2) (.slice Ao13 t499.length co13)) (fun _ h_ => h_.1))))) (below_size (by repeat (first | (with_reducible first | exact HB.out | apply below_alloc | apply pw_below_drewN | apply below_drew1 | refine below_set ?_ (IsS79.ge HI490.out) | refine below_set ?_ GE506.out) | exact HB.out)))); have n5_ := Aside0.mk (IsS79.below (show IsS79 w (((((w8.setCell ⟨gb506, 0, none⟩ (.slice Ao9 t491.length co9)).setCell ⟨gb506, 1, none⟩ (.int .i64 t494)).setCell ⟨gb506, 2, none⟩ (.slice Ao12 t495.length co12)).setCell ⟨gb506, 3, none⟩ (.int .i64 t498)).setCell ⟨gb506, 4, none⟩ (.slice Ao13 t499.length co13)) g490 t505 from by repeat (first | (with_reducible first | exact HI490.out | apply IsS79.alloc | apply IsS79.drewN | apply IsS79.drew | apply IsS79.set_0 | refine IsS79.far ?_ NB490_506.out _) | exact HI490.out)) hb); have n6_ := Aside0.mk (blk_below (g := gb506) (o := .cells #[.slice Ao9 t491.length co9, .int .i64 t494, .slice Ao12 t495.length co12, .int .i64 t498, .slice Ao13 t499.length co13] 26 (0, 0)) (by (with_reducible repeat (first | refine blk_drewN ?_ _ | refine blk_drew ?_ | refine blk_alloc ?_ _)); refine blk_put (cs := #[.slice Ao9 t491.length co9, .int .i64 t494, .slice Ao12 t495.length co12, .int .i64 t498, .slice none 0 0]) ?_ 4 _ rfl; (with_reducible repeat (first | refine blk_drewN ?_ _ | refine blk_drew ?_ | refine blk_alloc ?_ _)); refine blk_put (cs := #[.slice Ao9 t491.length co9, .int .i64 t494, .slice Ao12 t495.length co12, .int .i64 0, .slice none 0 0]) ?_ 3 _ rfl; (with_reducible repeat (first | refine blk_drewN ?_ _ | refine blk_drew ?_ | refine blk_alloc ?_ _)); refine blk_put (cs := #[.slice Ao9 t491.length co9, .int .i64 t494, .slice none 0 0, .int .i64 0, .slice none 0 0]) ?_ 2 _ rfl; (with_reducible repeat (first | refine blk_drewN ?_ _ | refine blk_drew ?_ | refine blk_alloc ?_ _)); refine blk_put (cs := #[.slice Ao9 t491.length co9, .int .i64 0, .slice none 0 0, .int .i64 0, .slice none 0 0]) ?_ 1 _ rfl; (with_reducible repeat (first | refine blk_drewN ?_ _ | refine blk_drew ?_ | refine blk_alloc ?_ _)); refine blk_put (cs := #[.slice none 0 0, .int .i64 0, .slice none 0 0, .int .i64 0, .slice none 0 0]) ?_ 0 _ rfl; (with_reducible repeat (first | refine blk_drewN ?_ _ | refine blk_drew ?_ | refine blk_alloc ?_ _)); exact BK506.out) hb); have n7_ := Aside0.mk (below_step (by repeat (first | (with_reducible first | exact HB.out | apply below_alloc | apply pw_below_drewN | apply below_drew1 | refine below_set ?_ (IsS79.ge HI490.out) | refine below_set ?_ GE506.out) | exact HB.out)) hb); clear HO493; clear HO497; clear HO501; clear HO504; clear HI490; clear BK506; clear HB; have HO493 := n0_; have HO497 := n1_; have HO501 := n2_; have HO504 := n3_; have HO509 := n4_; have HI490 := n5_; have BK506 := n6_; have HB := n7_; clear n0_ n1_ n2_ n3_ n4_ n5_ n6_ n7_; (try clear hb); (try clear hb2); (try clear hk); (try clear hi); (try clear ho0)))
  (try simp only [Act.put, List.setIfInBounds_toArray, List.set_cons_zero, List.set_cons_succ])
  go_cut [36] (fun v36 wc => ∃ (kq : Nat) (x36_4 : Bool), v36 = .bool x36_4 ∧ Aside0 (swarflaw04_StripMore.j0 kq t507 x36_4 t505 t491 t494 t495 t498 t499 = some r) ∧ Aside0 (kq ≤ k) ∧ Aside0 (Kd.R (Kd.int .i64) 3 wc w.heap.size (fun k_ => some k_ ≠ ((.slice Ao13 t499.length co13) : Value).ownBlock) v508 t507) ∧ Aside0 (Kd.S k50 50 wc w.heap.size (fun k_ => some k_ ≠ (v508 : Value).ownBlock ∧ some k_ ≠ ((.slice Ao13 t499.length co13) : Value).ownBlock) (.slice Ao9 t491.length co9) t491) ∧ Aside0 (Kd.R k61 61 wc w.heap.size (fun _ => True) (.slice Ao12 t495.length co12) t495) ∧ Aside0 (Kd.R (Kd.int .i64) 3 wc w.heap.size (fun k_ => some k_ ≠ (v508 : Value).ownBlock) (.slice Ao13 t499.length co13) t499) ∧ Aside0 (wc.heap[gb506]? = some (.cells #[(.slice Ao9 t491.length co9), .int .i64 t494, (.slice Ao12 t495.length co12), .int .i64 t498, (.slice Ao13 t499.length co13)] 26 (0, 0))) ∧ Aside0 (IsS79 w wc g490 t505) ∧ Aside0 (Below w.heap.size w wc))
  case first =>
    have H := HC5.out
    clear HC5
    by_cases c15 : t510 = 0
    · rw [if_pos c15] at H
      have c15b0 : (t510 == 0) = true := beq_iff_eq.mpr c15
      have c15b1 : (t510 != 0) = false := bne_eq_false_iff_eq.mpr c15
      clear c15
      (first | rw [c15b0] | (simp only [i64_w, i32_w]; rw [c15b0]) | skip)
      have H' := Aside0.mk H
      clear H
      obtain ⟨Ao16, co16, eo16⟩ := Kd.R_slice HO509.out
      subst eo16
      have hnb17 := NB506_490.out
      have hnc17 := NB490_506.out
      have hcz18_0 : w14.cell? ⟨gb506, 0, none⟩ = some (.slice Ao9 t491.length co9) := (blk_cell BK506.out 0).trans rfl
      have hcz18_1 : w14.cell? ⟨gb506, 1, none⟩ = some (.int .i64 t494) := (blk_cell BK506.out 1).trans rfl
      have hcz18_2 : w14.cell? ⟨gb506, 2, none⟩ = some (.slice Ao12 t495.length co12) := (blk_cell BK506.out 2).trans rfl
      have hcz18_3 : w14.cell? ⟨gb506, 3, none⟩ = some (.int .i64 t498) := (blk_cell BK506.out 3).trans rfl
      have hcz18_4 : w14.cell? ⟨gb506, 4, none⟩ = some (.slice Ao13 t499.length co13) := (blk_cell BK506.out 4).trans rfl
      have hfz18_0 := blk_frozen BK506.out 0
      have hfz18_1 := blk_frozen BK506.out 1
      have hfz18_2 := blk_frozen BK506.out 2
      have hfz18_3 := blk_frozen BK506.out 3
      have hfz18_4 := blk_frozen BK506.out 4
      go_wp2
      go_meet
      case rel => exact ⟨_, (((t507.length : Int) != (t491.length : Int))), (by first | rfl | (simp; done) | (simp [*]; done)), H', ⟨by first | omega | exact Nat.le_refl _⟩, ⟨by (with_reducible repeat (first | apply Kd.R_alloc | apply Kd.R_drewN | apply Kd.R_drew)); exact Kd.R_mono HO509.out (fun _ hk => hk.2)⟩, ⟨by (with_reducible repeat (first | apply Kd.S_alloc | apply Kd.S_drewN | apply Kd.S_drew)); exact Kd.S_mono HO493.out (fun _ hk => ⟨hk.2, hk.1⟩)⟩, ⟨by (with_reducible repeat (first | apply Kd.R_alloc | apply Kd.R_drewN | apply Kd.R_drew)); exact HO497.out⟩, ⟨by (with_reducible repeat (first | apply Kd.R_alloc | apply Kd.R_drewN | apply Kd.R_drew)); exact Kd.R_mono HO501.out (fun _ hk => hk.2)⟩, ⟨by (with_reducible repeat (first | refine blk_drewN ?_ _ | refine blk_drew ?_ | refine blk_alloc ?_ _)); exact BK506.out⟩, ⟨by repeat (first | (with_reducible first | exact HI490.out | apply IsS79.alloc | apply IsS79.drewN | apply IsS79.drew | apply IsS79.set_0 | refine IsS79.far ?_ NB490_506.out _) | exact HI490.out)⟩, ⟨by repeat (first | (with_reducible first | exact HB.out | apply below_alloc | apply pw_below_drewN | apply below_drew1 | refine below_set ?_ (IsS79.ge HI490.out) | refine below_set ?_ GE506.out) | exact HB.out)⟩⟩
    · rw [if_neg c15] at H
      have c15b0 : (t510 == 0) = false := beq_eq_false_iff_ne.mpr c15
      have c15b1 : (t510 != 0) = true := bne_iff_ne.mpr c15
      (first | rw [c15b0] | (simp only [i64_w, i32_w]; rw [c15b0]) | skip)
      have H' := Aside0.mk H
      clear H
      go_wp2
      go_meet
      case rel => exact ⟨_, (true), (by first | rfl | (simp; done) | (simp [*]; done)), H', ⟨by first | omega | exact Nat.le_refl _⟩, ⟨by (with_reducible repeat (first | apply Kd.R_alloc | apply Kd.R_drewN | apply Kd.R_drew)); exact Kd.R_mono HO509.out (fun _ hk => hk.2)⟩, ⟨by (with_reducible repeat (first | apply Kd.S_alloc | apply Kd.S_drewN | apply Kd.S_drew)); exact Kd.S_mono HO493.out (fun _ hk => ⟨hk.2, hk.1⟩)⟩, ⟨by (with_reducible repeat (first | apply Kd.R_alloc | apply Kd.R_drewN | apply Kd.R_drew)); exact HO497.out⟩, ⟨by (with_reducible repeat (first | apply Kd.R_alloc | apply Kd.R_drewN | apply Kd.R_drew)); exact Kd.R_mono HO501.out (fun _ hk => hk.2)⟩, ⟨by (with_reducible repeat (first | refine blk_drewN ?_ _ | refine blk_drew ?_ | refine blk_alloc ?_ _)); exact BK506.out⟩, ⟨by repeat (first | (with_reducible first | exact HI490.out | apply IsS79.alloc | apply IsS79.drewN | apply IsS79.drew | apply IsS79.set_0 | refine IsS79.far ?_ NB490_506.out _) | exact HI490.out)⟩, ⟨by repeat (first | (with_reducible first | exact HB.out | apply below_alloc | apply pw_below_drewN | apply below_drew1 | refine below_set ?_ (IsS79.ge HI490.out) | refine below_set ?_ GE506.out) | exact HB.out)⟩⟩
  case rest =>
    clear HC5
    try clear c1
    try clear c2
    try clear p2
    try clear c7
    try clear c10
    try clear c15
    try clear c15b0
    try clear c15b1
    try clear c17
    try clear c18
    try clear hcz11_0
    try clear hcz11_1
    try clear hcz11_2
    try clear hcz11_3
    try clear hcz11_4
    try clear hcz18_0
    try clear hcz18_1
    try clear hcz18_2
    try clear hcz18_3
    try clear hcz18_4
    try clear hfz11_0
    try clear hfz11_1
    try clear hfz11_2
    try clear hfz11_3
    try clear hfz11_4
    try clear hfz18_0
    try clear hfz18_1
    try clear hfz18_2
    try clear hfz18_3
    try clear hfz18_4
    obtain ⟨kq, x36_4, rfl, HA, HJ4, HO_6, HO_507000, HO_507002, HO_507004, BK506, HI490, HB⟩ := hcut
    cases kq with
    | zero => exact absurd HA.out (by simp [swarflaw04_StripMore.j0])
    | succ kj4 =>
      have H := HA.out
      clear HA
      simp only [swarflaw04_StripMore.j0] at H
      by_cases c19 : x36_4 = true
      · subst c19
        have H1 : (some false) = some r := by rw [if_pos rfl] at H; exact H
        clear H
        have H := H1
        clear H1
        exact absurd ((Option.some.inj H).trans hrt.out) (by decide)
      · replace c19 := Bool.eq_false_iff.mpr c19
        subst c19
        have H1 : ((swarfkit_Feed_Below.f t505 (t491.length : Int)).bind fun bt511 => ((swarfkit_CopyCar.f kj4 t491 t494 t495 t498 t499).bind fun bt513 => (if 0 ≤ bt511.1 then (if bt511.1 < (t507.length : Int) then (if bt513.2.2.1.length < 8796093022208 then ((some (bt513.2.2.1 ++ [(⟨bt511.1, ((rd t507 bt511.1) == 1)⟩ : S61)] : List (S61))).bind fun y526 => (if (rd t507 bt511.1) = 3 then (swarflaw04_StripMore.j1 kj4 t507 bt511.2 bt513.1 bt513.2.1 y526 bt513.2.2.2.1 bt513.2.2.2.2) else ((strip_Out.f bt513.1 bt513.2.1 y526 bt513.2.2.2.1 bt513.2.2.2.2).bind fun bt530 => (if bt530.2 = 0 then ((swarfkit_EqualInts.f kj4 t507 bt530.1).bind fun t534 => (if t534 = true then (swarflaw04_StripMore.j1 kj4 t507 bt511.2 bt513.1 bt513.2.1 y526 bt513.2.2.2.1 bt513.2.2.2.2) else (some false))) else (some false))))) else (none)) else (none)) else (none)))) = some r := by rw [if_neg (show ¬ (false = true) by decide)] at H; exact H
        clear H
        have H := H1
        clear H1
        replace H := Option.bind_eq_some_iff.mp H
        obtain ⟨⟨t511, t512⟩, A200, H⟩ := H
        replace H : ((swarfkit_CopyCar.f kj4 t491 t494 t495 t498 t499).bind fun bt513 => (if 0 ≤ t511 then (if t511 < (t507.length : Int) then (if bt513.2.2.1.length < 8796093022208 then ((some (bt513.2.2.1 ++ [(⟨t511, ((rd t507 t511) == 1)⟩ : S61)] : List (S61))).bind fun y526 => (if (rd t507 t511) = 3 then (swarflaw04_StripMore.j1 kj4 t507 t512 bt513.1 bt513.2.1 y526 bt513.2.2.2.1 bt513.2.2.2.2) else ((strip_Out.f bt513.1 bt513.2.1 y526 bt513.2.2.2.1 bt513.2.2.2.2).bind fun bt530 => (if bt530.2 = 0 then ((swarfkit_EqualInts.f kj4 t507 bt530.1).bind fun t534 => (if t534 = true then (swarflaw04_StripMore.j1 kj4 t507 t512 bt513.1 bt513.2.1 y526 bt513.2.2.2.1 bt513.2.2.2.2) else (some false))) else (some false))))) else (none)) else (none)) else (none))) = some r := H
        have A20 := Aside0.mk A200
        clear A200
        replace H := Option.bind_eq_some_iff.mp H
        obtain ⟨⟨t513, t516, t517, t520, t521⟩, A210, H⟩ := H
        replace H : (if 0 ≤ t511 then (if t511 < (t507.length : Int) then (if t517.length < 8796093022208 then ((some (t517 ++ [(⟨t511, ((rd t507 t511) == 1)⟩ : S61)] : List (S61))).bind fun y526 => (if (rd t507 t511) = 3 then (swarflaw04_StripMore.j1 kj4 t507 t512 t513 t516 y526 t520 t521) else ((strip_Out.f t513 t516 y526 t520 t521).bind fun bt530 => (if bt530.2 = 0 then ((swarfkit_EqualInts.f kj4 t507 bt530.1).bind fun t534 => (if t534 = true then (swarflaw04_StripMore.j1 kj4 t507 t512 t513 t516 y526 t520 t521) else (some false))) else (some false))))) else (none)) else (none)) else (none)) = some r := H
        have A21 := Aside0.mk A210
        clear A210
        by_cases c22 : 0 ≤ t511
        · rw [if_pos c22] at H
          have c22b0 : decide (0 ≤ t511) = true := decide_eq_true c22
          clear c22
          by_cases c23 : t511 < (t507.length : Int)
          · rw [if_pos c23] at H
            have c23b0 : decide (t511 < (t507.length : Int)) = true := decide_eq_true c23
            clear c23
            by_cases c24 : t517.length < 8796093022208
            · rw [if_pos c24] at H
              have LMc24 := Aside0.mk c24
              clear c24
              obtain ⟨y526, hy526⟩ : ∃ y_ : List (S61), y_ = (t517 ++ [(⟨t511, ((rd t507 t511) == 1)⟩ : S61)]) := ⟨_, rfl⟩
              replace H : (if (rd t507 t511) = 3 then (swarflaw04_StripMore.j1 kj4 t507 t512 t513 t516 y526 t520 t521) else ((strip_Out.f t513 t516 y526 t520 t521).bind fun bt530 => (if bt530.2 = 0 then ((swarfkit_EqualInts.f kj4 t507 bt530.1).bind fun t534 => (if t534 = true then (swarflaw04_StripMore.j1 kj4 t507 t512 t513 t516 y526 t520 t521) else (some false))) else (some false)))) = some r := by first | (rw [hy526]; with_reducible exact H) | (have H2_ := (Option.bind_some _ _).symm.trans H; rw [hy526]; with_reducible exact H2_) | (have H2_ := (Option.bind_some _ _).symm.trans H; with_reducible exact H2_) | with_reducible exact H | (rw [hy526]; exact H) | exact H
              have Ny526 := Aside0.mk hy526
              clear hy526
              have HC25 := Aside0.mk H
              clear H
              have hnb26 := NB506_490.out
              have hnc26 := NB490_506.out
              have hcz27_0 : wc.cell? ⟨gb506, 0, none⟩ = some (.slice Ao9 t491.length co9) := (blk_cell BK506.out 0).trans rfl
              have hcz27_1 : wc.cell? ⟨gb506, 1, none⟩ = some (.int .i64 t494) := (blk_cell BK506.out 1).trans rfl
              have hcz27_2 : wc.cell? ⟨gb506, 2, none⟩ = some (.slice Ao12 t495.length co12) := (blk_cell BK506.out 2).trans rfl
              have hcz27_3 : wc.cell? ⟨gb506, 3, none⟩ = some (.int .i64 t498) := (blk_cell BK506.out 3).trans rfl
              have hcz27_4 : wc.cell? ⟨gb506, 4, none⟩ = some (.slice Ao13 t499.length co13) := (blk_cell BK506.out 4).trans rfl
              have hfz27_0 := blk_frozen BK506.out 0
              have hfz27_1 := blk_frozen BK506.out 1
              have hfz27_2 := blk_frozen BK506.out 2
              have hfz27_3 := blk_frozen BK506.out 3
              have hfz27_4 := blk_frozen BK506.out 4
              try go_wp2_with (first | ((with_reducible refine gate_callee (f := 25) rfl ?_); refine goesL_ (some 41) rfl rfl Try.func25 (by kernel_rfl) rfl #[.pointer (some ⟨g490, 0, none⟩), .int .i64 (t491.length : Int)] rfl (by (try simp only [List.map_toArray, List.map_cons, List.map_nil]); first | done | rfl | (simp only [List.length_drop, List.length_take]; rfl)) ?_; (with_reducible refine (swarfkit_Feed_Below.calls g490 t505 (t491.length : Int) t511 t512 w _ ?side1 ?side2 A20.out).mono ?_); (case side1 => repeat (first | (with_reducible first | exact HI490.out | apply IsS79.alloc | apply IsS79.drewN | apply IsS79.drew | apply IsS79.set_0 | refine IsS79.far ?_ NB490_506.out _) | exact HI490.out)); (case side2 => repeat (first | (with_reducible first | exact HB.out | apply below_alloc | apply pw_below_drewN | apply below_drew1 | refine below_set ?_ (IsS79.ge HI490.out) | refine below_set ?_ GE506.out) | exact HB.out)); rintro e w28 ⟨rfl, hi, hb, hk⟩; refine ⟨_, rfl, ?_⟩; have n0_ := Aside0.mk (Kd.R_mono (Kd.R_keep (IsS79.apart (show IsS79 w _ g490 t505 from by repeat (first | (with_reducible first | exact HI490.out | apply IsS79.alloc | apply IsS79.drewN | apply IsS79.drew | apply IsS79.set_0 | refine IsS79.far ?_ NB490_506.out _) | exact HI490.out)) (by (with_reducible repeat (first | apply Kd.R_alloc | apply Kd.R_drewN | apply Kd.R_drew)); exact HO_6.out) (by decide)) hk (fun _ h => h.2)) (fun _ h => h.1)); have n1_ := Aside0.mk (Kd.S_mono (Kd.S_keep (IsS79.apartS (show IsS79 w _ g490 t505 from by repeat (first | (with_reducible first | exact HI490.out | apply IsS79.alloc | apply IsS79.drewN | apply IsS79.drew | apply IsS79.set_0 | refine IsS79.far ?_ NB490_506.out _) | exact HI490.out)) (by (with_reducible repeat (first | apply Kd.S_alloc | apply Kd.S_drewN | apply Kd.S_drew)); exact HO_507000.out) (by decide)) hk (fun _ h => h.2)) (fun _ h => h.1)); have n2_ := Aside0.mk (Kd.R_mono (Kd.R_keep (IsS79.apart (show IsS79 w _ g490 t505 from by repeat (first | (with_reducible first | exact HI490.out | apply IsS79.alloc | apply IsS79.drewN | apply IsS79.drew | apply IsS79.set_0 | refine IsS79.far ?_ NB490_506.out _) | exact HI490.out)) (by (with_reducible repeat (first | apply Kd.R_alloc | apply Kd.R_drewN | apply Kd.R_drew)); exact HO_507002.out) (by decide)) hk (fun _ h => h.2)) (fun _ h => h.1)); have n3_ := Aside0.mk (Kd.R_mono (Kd.R_keep (IsS79.apart (show IsS79 w _ g490 t505 from by repeat (first | (with_reducible first | exact HI490.out | apply IsS79.alloc | apply IsS79.drewN | apply IsS79.drew | apply IsS79.set_0 | refine IsS79.far ?_ NB490_506.out _) | exact HI490.out)) (by (with_reducible repeat (first | apply Kd.R_alloc | apply Kd.R_drewN | apply Kd.R_drew)); exact HO_507004.out) (by decide)) hk (fun _ h => h.2)) (fun _ h => h.1)); have n4_ := Aside0.mk (KeepBut.blk hk (g' := gb506) (o := .cells #[.slice Ao9 t491.length co9, .int .i64 t494, .slice Ao12 t495.length co12, .int .i64 t498, .slice Ao13 t499.length co13] 26 (0, 0)) (by (with_reducible repeat (first | refine blk_drewN ?_ _ | refine blk_drew ?_ | refine blk_alloc ?_ _)); exact BK506.out) NB506_490.out (by simp)); have n5_ := Aside0.mk (hb); have n6_ := Aside0.mk (hi); clear HO_6; clear HO_507000; clear HO_507002; clear HO_507004; clear BK506; clear HB; clear HI490; have HO_6 := n0_; have HO_507000 := n1_; have HO_507002 := n2_; have HO_507004 := n3_; have BK506 := n4_; have HB := n5_; have HI490 := n6_; clear n0_ n1_ n2_ n3_ n4_ n5_ n6_; (try clear hb); (try clear hb2); (try clear hk); (try clear hi); have hcz29_0 : w28.cell? ⟨gb506, 0, none⟩ = some (.slice Ao9 t491.length co9) := (blk_cell BK506.out 0).trans rfl; have hcz29_1 : w28.cell? ⟨gb506, 1, none⟩ = some (.int .i64 t494) := (blk_cell BK506.out 1).trans rfl; have hcz29_2 : w28.cell? ⟨gb506, 2, none⟩ = some (.slice Ao12 t495.length co12) := (blk_cell BK506.out 2).trans rfl; have hcz29_3 : w28.cell? ⟨gb506, 3, none⟩ = some (.int .i64 t498) := (blk_cell BK506.out 3).trans rfl; have hcz29_4 : w28.cell? ⟨gb506, 4, none⟩ = some (.slice Ao13 t499.length co13) := (blk_cell BK506.out 4).trans rfl; have hfz29_0 := blk_frozen BK506.out 0; have hfz29_1 := blk_frozen BK506.out 1; have hfz29_2 := blk_frozen BK506.out 2; have hfz29_3 := blk_frozen BK506.out 3; have hfz29_4 := blk_frozen BK506.out 4) | ((with_reducible refine gate_callee (f := 19) rfl ?_); refine goesL_ (some 43) rfl rfl Try.func19 (by kernel_rfl) rfl #[.agg #[.slice Ao9 t491.length co9, .int .i64 t494, .slice Ao12 t495.length co12, .int .i64 t498, .slice Ao13 t499.length co13]] rfl (by (try simp only [List.map_toArray, List.map_cons, List.map_nil]); first | done | rfl | (simp only [List.length_drop, List.length_take]; rfl)) ?_; (with_reducible refine (swarfkit_CopyCar.calls kj4 _ _ t491 t494 _ _ t495 t498 _ _ t499 t513 t516 t517 t520 t521 _ ?side1 ?side2 ?side3 ?side4 ?side5 ?side6 A21.out).mono ?_); (case side1 => repeat (first | exact (Kd.S_reads' HO_507000.out).2.2 | (with_reducible refine Kd.C_alloc ?_ _) | (with_reducible refine Kd.C_drewN ?_ _) | (with_reducible refine Kd.C_drew ?_))); (case side2 => exact (Kd.S_reads' HO_507000.out).2.1); (case side3 => repeat (first | exact (Kd.R_reads' HO_507002.out).2.2 | (with_reducible refine Kd.C_alloc ?_ _) | (with_reducible refine Kd.C_drewN ?_ _) | (with_reducible refine Kd.C_drew ?_))); (case side4 => exact (Kd.R_reads' HO_507002.out).2.1); (case side5 => repeat (first | exact (Kd.R_reads' HO_507004.out).2.2 | (with_reducible refine Kd.C_alloc ?_ _) | (with_reducible refine Kd.C_drewN ?_ _) | (with_reducible refine Kd.C_drew ?_))); (case side6 => exact (Kd.R_reads' HO_507004.out).2.1); rintro e w30 ⟨v514, v518, v522, rfl, ho0, ho1, ho2, hb⟩; refine ⟨_, rfl, ?_⟩; have n0_ := Aside0.mk (Kd.R_elder' (by (with_reducible repeat (first | apply Kd.R_alloc | apply Kd.R_drewN | apply Kd.R_drew)); exact HO_6.out) (Kd.R_base ho2) hb); have n1_ := Aside0.mk (Kd.S_mono (Kd.S_told (Kd.S_told (Kd.S_old (by (with_reducible repeat (first | apply Kd.S_alloc | apply Kd.S_drewN | apply Kd.S_drew)); exact HO_507000.out) hb) (Kd.S_base ho0)) (Kd.R_base ho2)) (fun _ h_ => h_.1)); have n2_ := Aside0.mk (Kd.R_elder' (by (with_reducible repeat (first | apply Kd.R_alloc | apply Kd.R_drewN | apply Kd.R_drew)); exact HO_507002.out) (Kd.R_base ho1) hb); have n3_ := Aside0.mk (Kd.R_elder' (by (with_reducible repeat (first | apply Kd.R_alloc | apply Kd.R_drewN | apply Kd.R_drew)); exact HO_507004.out) (Kd.R_base ho2) hb); have n4_ := Aside0.mk (Kd.S_lower (Kd.S_new' (Kd.S_new' (Kd.S_new' ho0 (Kd.R_lt (by (with_reducible repeat (first | apply Kd.R_alloc | apply Kd.R_drewN | apply Kd.R_drew)); exact HO_6.out))) (Kd.S_lt (by (with_reducible repeat (first | apply Kd.S_alloc | apply Kd.S_drewN | apply Kd.S_drew)); exact HO_507000.out))) (Kd.R_lt (by (with_reducible repeat (first | apply Kd.R_alloc | apply Kd.R_drewN | apply Kd.R_drew)); exact HO_507004.out))) (below_size (by repeat (first | (with_reducible first | exact HB.out | apply below_alloc | apply pw_below_drewN | apply below_drew1 | refine below_set ?_ (IsS79.ge HI490.out) | refine below_set ?_ GE506.out) | exact HB.out)))); have n5_ := Aside0.mk (Kd.R_lower (Kd.R_new' ho1 (Kd.R_lt (by (with_reducible repeat (first | apply Kd.R_alloc | apply Kd.R_drewN | apply Kd.R_drew)); exact HO_507002.out))) (below_size (by repeat (first | (with_reducible first | exact HB.out | apply below_alloc | apply pw_below_drewN | apply below_drew1 | refine below_set ?_ (IsS79.ge HI490.out) | refine below_set ?_ GE506.out) | exact HB.out)))); have n6_ := Aside0.mk (Kd.R_lower (Kd.R_new' (Kd.R_new' ho2 (Kd.R_lt (by (with_reducible repeat (first | apply Kd.R_alloc | apply Kd.R_drewN | apply Kd.R_drew)); exact HO_6.out))) (Kd.R_lt (by (with_reducible repeat (first | apply Kd.R_alloc | apply Kd.R_drewN | apply Kd.R_drew)); exact HO_507004.out))) (below_size (by repeat (first | (with_reducible first | exact HB.out | apply below_alloc | apply pw_below_drewN | apply below_drew1 | refine below_set ?_ (IsS79.ge HI490.out) | refine below_set ?_ GE506.out) | exact HB.out)))); have n7_ := Aside0.mk (blk_below (g := gb506) (o := .cells #[.slice Ao9 t491.length co9, .int .i64 t494, .slice Ao12 t495.length co12, .int .i64 t498, .slice Ao13 t499.length co13] 26 (0, 0)) (by (with_reducible repeat (first | refine blk_drewN ?_ _ | refine blk_drew ?_ | refine blk_alloc ?_ _)); exact BK506.out) hb); have n8_ := Aside0.mk (IsS79.below (by repeat (first | (with_reducible first | exact HI490.out | apply IsS79.alloc | apply IsS79.drewN | apply IsS79.drew | apply IsS79.set_0 | refine IsS79.far ?_ NB490_506.out _) | exact HI490.out)) hb); have n9_ := Aside0.mk (below_step (by repeat (first | (with_reducible first | exact HB.out | apply below_alloc | apply pw_below_drewN | apply below_drew1 | refine below_set ?_ (IsS79.ge HI490.out) | refine below_set ?_ GE506.out) | exact HB.out)) hb); clear HO_6; clear HO_507000; clear HO_507002; clear HO_507004; clear BK506; clear HI490; clear HB; have HO_6 := n0_; have HO_507000 := n1_; have HO_507002 := n2_; have HO_507004 := n3_; have HO515 := n4_; have HO519 := n5_; have HO523 := n6_; have BK506 := n7_; have HI490 := n8_; have HB := n9_; clear n0_ n1_ n2_ n3_ n4_ n5_ n6_ n7_ n8_ n9_; (try clear hb); (try clear hb2); (try clear hk); (try clear hi); (try clear ho0); (try clear ho1); (try clear ho2)) | ((with_reducible refine gate_dst (N := 9) rfl ?_); (try (refine gate_guard (by rfl) ?_; dsimp only)); refine box_event ?hg (N := 9) ?hd (cs := #[.slice none 0 0, .int .i64 0, .slice none 0 0, .int .i64 0, .slice none 0 0]) (t := 26) ?hr ?_; (case hd => rfl); (case hg => rfl); (case hr => first | (go_simp; done) | (go_simp; rfl)); intro gb524 hg w31 hbox hb; have n0_ := Aside0.mk (Kd.R_below (by (with_reducible repeat (first | apply Kd.R_alloc | apply Kd.R_drewN | apply Kd.R_drew)); exact HO_6.out) hb); have n1_ := Aside0.mk (Kd.S_below (by (with_reducible repeat (first | apply Kd.S_alloc | apply Kd.S_drewN | apply Kd.S_drew)); exact HO_507000.out) hb); have n2_ := Aside0.mk (Kd.R_below (by (with_reducible repeat (first | apply Kd.R_alloc | apply Kd.R_drewN | apply Kd.R_drew)); exact HO_507002.out) hb); have n3_ := Aside0.mk (Kd.R_below (by (with_reducible repeat (first | apply Kd.R_alloc | apply Kd.R_drewN | apply Kd.R_drew)); exact HO_507004.out) hb); have n4_ := Aside0.mk (Kd.S_below (by (with_reducible repeat (first | apply Kd.S_alloc | apply Kd.S_drewN | apply Kd.S_drew)); exact HO515.out) hb); have n5_ := Aside0.mk (Kd.R_below (by (with_reducible repeat (first | apply Kd.R_alloc | apply Kd.R_drewN | apply Kd.R_drew)); exact HO519.out) hb); have n6_ := Aside0.mk (Kd.R_below (by (with_reducible repeat (first | apply Kd.R_alloc | apply Kd.R_drewN | apply Kd.R_drew)); exact HO523.out) hb); have n7_ := Aside0.mk (blk_below (g := gb506) (o := .cells #[.slice Ao9 t491.length co9, .int .i64 t494, .slice Ao12 t495.length co12, .int .i64 t498, .slice Ao13 t499.length co13] 26 (0, 0)) (by (with_reducible repeat (first | refine blk_drewN ?_ _ | refine blk_drew ?_ | refine blk_alloc ?_ _)); exact BK506.out) hb); have n8_ := Aside0.mk (IsS79.below (by repeat (first | (with_reducible first | exact HI490.out | apply IsS79.alloc | apply IsS79.drewN | apply IsS79.drew | apply IsS79.set_0 | refine IsS79.far ?_ NB490_506.out _) | exact HI490.out)) hb); have n9_ := Aside0.mk (below_step (by repeat (first | (with_reducible first | exact HB.out | apply below_alloc | apply pw_below_drewN | apply below_drew1 | refine below_set ?_ (IsS79.ge HI490.out) | refine below_set ?_ GE506.out) | exact HB.out)) hb); have n10_ := Aside0.mk (hbox); have n11_ := Aside0.mk ((by rw [hg]; exact (below_size (by repeat (first | (with_reducible first | exact HB.out | apply below_alloc | apply pw_below_drewN | apply below_drew1 | refine below_set ?_ (IsS79.ge HI490.out) | refine below_set ?_ GE506.out) | exact HB.out))) : w.heap.size ≤ gb524)); have n12_ := Aside0.mk ((by rw [hg]; exact (below_size (by repeat (first | (with_reducible first | exact HB.out | apply below_alloc | apply pw_below_drewN | apply below_drew1 | refine below_set ?_ (IsS79.ge HI490.out) | refine below_set ?_ GE506.out) | exact HB.out))) : w.heap.size ≤ gb524)); have n13_ := Aside0.mk ((by rw [hg]; exact Nat.ne_of_lt (blk_lt (g := gb506) (o := .cells #[.slice Ao9 t491.length co9, .int .i64 t494, .slice Ao12 t495.length co12, .int .i64 t498, .slice Ao13 t499.length co13] 26 (0, 0)) (by (with_reducible repeat (first | refine blk_drewN ?_ _ | refine blk_drew ?_ | refine blk_alloc ?_ _)); exact BK506.out)) : gb506 ≠ gb524)); have n14_ := Aside0.mk ((by rw [hg]; exact Nat.ne_of_gt (blk_lt (g := gb506) (o := .cells #[.slice Ao9 t491.length co9, .int .i64 t494, .slice Ao12 t495.length co12, .int .i64 t498, .slice Ao13 t499.length co13] 26 (0, 0)) (by (with_reducible repeat (first | refine blk_drewN ?_ _ | refine blk_drew ?_ | refine blk_alloc ?_ _)); exact BK506.out)) : gb524 ≠ gb506)); have n15_ := Aside0.mk ((by rw [hg]; exact Nat.ne_of_lt (IsS79.lt (show IsS79 w _ g490 t512 from by repeat (first | (with_reducible first | exact HI490.out | apply IsS79.alloc | apply IsS79.drewN | apply IsS79.drew | apply IsS79.set_0 | refine IsS79.far ?_ NB490_506.out _) | exact HI490.out))) : g490 ≠ gb524)); have n16_ := Aside0.mk ((by rw [hg]; exact Nat.ne_of_gt (IsS79.lt (show IsS79 w _ g490 t512 from by repeat (first | (with_reducible first | exact HI490.out | apply IsS79.alloc | apply IsS79.drewN | apply IsS79.drew | apply IsS79.set_0 | refine IsS79.far ?_ NB490_506.out _) | exact HI490.out))) : gb524 ≠ g490)); clear HO_6; clear HO_507000; clear HO_507002; clear HO_507004; clear HO515; clear HO519; clear HO523; clear BK506; clear HI490; clear HB; have HO_6 := n0_; have HO_507000 := n1_; have HO_507002 := n2_; have HO_507004 := n3_; have HO515 := n4_; have HO519 := n5_; have HO523 := n6_; have BK506 := n7_; have HI490 := n8_; have HB := n9_; have BK524 := n10_; have GW524 := n11_; have GE524 := n12_; have NB506_524 := n13_; have NB524_506 := n14_; have NB490_524 := n15_; have NB524_490 := n16_; clear n0_ n1_ n2_ n3_ n4_ n5_ n6_ n7_ n8_ n9_ n10_ n11_ n12_ n13_ n14_ n15_ n16_; clear hb hbox hg; obtain ⟨Ao32, co32, eo32⟩ := Kd.S_slice HO515.out; subst eo32; have hnb33 := NB524_506.out; have hnc33 := NB506_524.out; have hnb34 := NB524_490.out; have hnc34 := NB490_524.out; have hcz35_0 : w31.cell? ⟨gb524, 0, none⟩ = some (.slice none 0 0) := (blk_cell BK524.out 0).trans rfl; have hcz35_1 : w31.cell? ⟨gb524, 1, none⟩ = some (.int .i64 0) := (blk_cell BK524.out 1).trans rfl; have hcz35_2 : w31.cell? ⟨gb524, 2, none⟩ = some (.slice none 0 0) := (blk_cell BK524.out 2).trans rfl; have hcz35_3 : w31.cell? ⟨gb524, 3, none⟩ = some (.int .i64 0) := (blk_cell BK524.out 3).trans rfl; have hcz35_4 : w31.cell? ⟨gb524, 4, none⟩ = some (.slice none 0 0) := (blk_cell BK524.out 4).trans rfl; have hfz35_0 := blk_frozen BK524.out 0; have hfz35_1 := blk_frozen BK524.out 1; have hfz35_2 := blk_frozen BK524.out 2; have hfz35_3 := blk_frozen BK524.out 3; have hfz35_4 := blk_frozen BK524.out 4; obtain ⟨Ao36, co36, eo36⟩ := Kd.R_slice HO519.out; subst eo36; obtain ⟨Ao37, co37, eo37⟩ := Kd.R_slice HO523.out; subst eo37))
              have n0_ : Aside0 (Kd.R (Kd.int .i64) 3 (((((w31.setCell ⟨gb524, 0, none⟩ (.slice Ao32 t513.length co32)).setCell ⟨gb524, 1, none⟩ (.int .i64 t516)).setCell ⟨gb524, 2, none⟩ (.slice Ao36 t517.length co36)).setCell ⟨gb524, 3, none⟩ (.int .i64 t520)).setCell ⟨gb524, 4, none⟩ (.slice Ao37 t521.length co37)) w.heap.size (fun k_ => some k_ ≠ (.slice Ao13 t499.length co13 : Value).ownBlock ∧ some k_ ≠ (.slice Ao37 t521.length co37 : Value).ownBlock) v508 t507) := ⟨by (with_reducible repeat (first | apply Kd.R_alloc | apply Kd.R_drewN | apply Kd.R_drew)); exact Kd.R_mono (Kd.R_far (p := ⟨gb524, 4, none⟩) (Kd.R_far (p := ⟨gb524, 3, none⟩) (Kd.R_far (p := ⟨gb524, 2, none⟩) (Kd.R_far (p := ⟨gb524, 1, none⟩) (Kd.R_far (p := ⟨gb524, 0, none⟩) (Kd.R_types HO_6.out BK524.out (by decide)) (fun _ hk => hk.2) (.slice Ao32 t513.length co32)) (fun _ hk => hk.2) (.int .i64 t516)) (fun _ hk => hk.2) (.slice Ao36 t517.length co36)) (fun _ hk => hk.2) (.int .i64 t520)) (fun _ hk => hk.2) (.slice Ao37 t521.length co37)) (fun _ hk => ⟨hk.1.1, hk.1.2⟩)⟩
              have n1_ : Aside0 (Kd.S k50 50 (((((w31.setCell ⟨gb524, 0, none⟩ (.slice Ao32 t513.length co32)).setCell ⟨gb524, 1, none⟩ (.int .i64 t516)).setCell ⟨gb524, 2, none⟩ (.slice Ao36 t517.length co36)).setCell ⟨gb524, 3, none⟩ (.int .i64 t520)).setCell ⟨gb524, 4, none⟩ (.slice Ao37 t521.length co37)) w.heap.size (fun k_ => some k_ ≠ (v508 : Value).ownBlock ∧ some k_ ≠ (.slice Ao13 t499.length co13 : Value).ownBlock ∧ some k_ ≠ (.slice Ao32 t513.length co32 : Value).ownBlock ∧ some k_ ≠ (.slice Ao37 t521.length co37 : Value).ownBlock) (.slice Ao9 t491.length co9) t491) := ⟨by (with_reducible repeat (first | apply Kd.S_alloc | apply Kd.S_drewN | apply Kd.S_drew)); exact Kd.S_mono (Kd.S_far (p := ⟨gb524, 4, none⟩) (Kd.S_far (p := ⟨gb524, 3, none⟩) (Kd.S_far (p := ⟨gb524, 2, none⟩) (Kd.S_far (p := ⟨gb524, 1, none⟩) (Kd.S_far (p := ⟨gb524, 0, none⟩) (Kd.S_types HO_507000.out BK524.out (by decide)) (fun _ hk => hk.2) (.slice Ao32 t513.length co32)) (fun _ hk => hk.2) (.int .i64 t516)) (fun _ hk => hk.2) (.slice Ao36 t517.length co36)) (fun _ hk => hk.2) (.int .i64 t520)) (fun _ hk => hk.2) (.slice Ao37 t521.length co37)) (fun _ hk => ⟨hk.1.1.1.1, ⟨hk.1.1.1.2, ⟨hk.1.1.2, hk.1.2⟩⟩⟩)⟩
              have n2_ : Aside0 (Kd.R k61 61 (((((w31.setCell ⟨gb524, 0, none⟩ (.slice Ao32 t513.length co32)).setCell ⟨gb524, 1, none⟩ (.int .i64 t516)).setCell ⟨gb524, 2, none⟩ (.slice Ao36 t517.length co36)).setCell ⟨gb524, 3, none⟩ (.int .i64 t520)).setCell ⟨gb524, 4, none⟩ (.slice Ao37 t521.length co37)) w.heap.size (fun k_ => some k_ ≠ (.slice Ao36 t517.length co36 : Value).ownBlock) (.slice Ao12 t495.length co12) t495) := ⟨by (with_reducible repeat (first | apply Kd.R_alloc | apply Kd.R_drewN | apply Kd.R_drew)); exact Kd.R_mono (Kd.R_far (p := ⟨gb524, 4, none⟩) (Kd.R_far (p := ⟨gb524, 3, none⟩) (Kd.R_far (p := ⟨gb524, 2, none⟩) (Kd.R_far (p := ⟨gb524, 1, none⟩) (Kd.R_far (p := ⟨gb524, 0, none⟩) (Kd.R_types HO_507002.out BK524.out (by decide)) (fun _ hk => hk.2) (.slice Ao32 t513.length co32)) (fun _ hk => hk.2) (.int .i64 t516)) (fun _ hk => hk.2) (.slice Ao36 t517.length co36)) (fun _ hk => hk.2) (.int .i64 t520)) (fun _ hk => hk.2) (.slice Ao37 t521.length co37)) (fun _ hk => hk.1.2)⟩
              have n3_ : Aside0 (Kd.R (Kd.int .i64) 3 (((((w31.setCell ⟨gb524, 0, none⟩ (.slice Ao32 t513.length co32)).setCell ⟨gb524, 1, none⟩ (.int .i64 t516)).setCell ⟨gb524, 2, none⟩ (.slice Ao36 t517.length co36)).setCell ⟨gb524, 3, none⟩ (.int .i64 t520)).setCell ⟨gb524, 4, none⟩ (.slice Ao37 t521.length co37)) w.heap.size (fun k_ => some k_ ≠ (v508 : Value).ownBlock ∧ some k_ ≠ (.slice Ao37 t521.length co37 : Value).ownBlock) (.slice Ao13 t499.length co13) t499) := ⟨by (with_reducible repeat (first | apply Kd.R_alloc | apply Kd.R_drewN | apply Kd.R_drew)); exact Kd.R_mono (Kd.R_far (p := ⟨gb524, 4, none⟩) (Kd.R_far (p := ⟨gb524, 3, none⟩) (Kd.R_far (p := ⟨gb524, 2, none⟩) (Kd.R_far (p := ⟨gb524, 1, none⟩) (Kd.R_far (p := ⟨gb524, 0, none⟩) (Kd.R_types HO_507004.out BK524.out (by decide)) (fun _ hk => hk.2) (.slice Ao32 t513.length co32)) (fun _ hk => hk.2) (.int .i64 t516)) (fun _ hk => hk.2) (.slice Ao36 t517.length co36)) (fun _ hk => hk.2) (.int .i64 t520)) (fun _ hk => hk.2) (.slice Ao37 t521.length co37)) (fun _ hk => ⟨hk.1.1, hk.1.2⟩)⟩
              have n4_ : Aside0 (Kd.S k50 50 (((((w31.setCell ⟨gb524, 0, none⟩ (.slice Ao32 t513.length co32)).setCell ⟨gb524, 1, none⟩ (.int .i64 t516)).setCell ⟨gb524, 2, none⟩ (.slice Ao36 t517.length co36)).setCell ⟨gb524, 3, none⟩ (.int .i64 t520)).setCell ⟨gb524, 4, none⟩ (.slice Ao37 t521.length co37)) w.heap.size (fun k_ => some k_ ≠ (v508 : Value).ownBlock ∧ some k_ ≠ (.slice Ao9 t491.length co9 : Value).ownBlock ∧ some k_ ≠ (.slice Ao13 t499.length co13 : Value).ownBlock ∧ some k_ ≠ (.slice Ao37 t521.length co37 : Value).ownBlock) (.slice Ao32 t513.length co32) t513) := ⟨by (with_reducible repeat (first | apply Kd.S_alloc | apply Kd.S_drewN | apply Kd.S_drew)); exact Kd.S_mono (Kd.S_far (p := ⟨gb524, 4, none⟩) (Kd.S_far (p := ⟨gb524, 3, none⟩) (Kd.S_far (p := ⟨gb524, 2, none⟩) (Kd.S_far (p := ⟨gb524, 1, none⟩) (Kd.S_far (p := ⟨gb524, 0, none⟩) (Kd.S_types HO515.out BK524.out (by decide)) (fun _ hk => hk.2) (.slice Ao32 t513.length co32)) (fun _ hk => hk.2) (.int .i64 t516)) (fun _ hk => hk.2) (.slice Ao36 t517.length co36)) (fun _ hk => hk.2) (.int .i64 t520)) (fun _ hk => hk.2) (.slice Ao37 t521.length co37)) (fun _ hk => ⟨hk.1.1.1.2, ⟨hk.1.1.2, ⟨hk.1.2, hk.1.1.1.1⟩⟩⟩)⟩
              have n5_ : Aside0 (Kd.R k61 61 (((((w31.setCell ⟨gb524, 0, none⟩ (.slice Ao32 t513.length co32)).setCell ⟨gb524, 1, none⟩ (.int .i64 t516)).setCell ⟨gb524, 2, none⟩ (.slice Ao36 t517.length co36)).setCell ⟨gb524, 3, none⟩ (.int .i64 t520)).setCell ⟨gb524, 4, none⟩ (.slice Ao37 t521.length co37)) w.heap.size (fun k_ => some k_ ≠ (.slice Ao12 t495.length co12 : Value).ownBlock) (.slice Ao36 t517.length co36) t517) := ⟨by (with_reducible repeat (first | apply Kd.R_alloc | apply Kd.R_drewN | apply Kd.R_drew)); exact Kd.R_mono (Kd.R_far (p := ⟨gb524, 4, none⟩) (Kd.R_far (p := ⟨gb524, 3, none⟩) (Kd.R_far (p := ⟨gb524, 2, none⟩) (Kd.R_far (p := ⟨gb524, 1, none⟩) (Kd.R_far (p := ⟨gb524, 0, none⟩) (Kd.R_types HO519.out BK524.out (by decide)) (fun _ hk => hk.2) (.slice Ao32 t513.length co32)) (fun _ hk => hk.2) (.int .i64 t516)) (fun _ hk => hk.2) (.slice Ao36 t517.length co36)) (fun _ hk => hk.2) (.int .i64 t520)) (fun _ hk => hk.2) (.slice Ao37 t521.length co37)) (fun _ hk => hk.1.2)⟩
              have n6_ : Aside0 (Kd.R (Kd.int .i64) 3 (((((w31.setCell ⟨gb524, 0, none⟩ (.slice Ao32 t513.length co32)).setCell ⟨gb524, 1, none⟩ (.int .i64 t516)).setCell ⟨gb524, 2, none⟩ (.slice Ao36 t517.length co36)).setCell ⟨gb524, 3, none⟩ (.int .i64 t520)).setCell ⟨gb524, 4, none⟩ (.slice Ao37 t521.length co37)) w.heap.size (fun k_ => some k_ ≠ (v508 : Value).ownBlock ∧ some k_ ≠ (.slice Ao13 t499.length co13 : Value).ownBlock) (.slice Ao37 t521.length co37) t521) := ⟨by (with_reducible repeat (first | apply Kd.R_alloc | apply Kd.R_drewN | apply Kd.R_drew)); exact Kd.R_mono (Kd.R_far (p := ⟨gb524, 4, none⟩) (Kd.R_far (p := ⟨gb524, 3, none⟩) (Kd.R_far (p := ⟨gb524, 2, none⟩) (Kd.R_far (p := ⟨gb524, 1, none⟩) (Kd.R_far (p := ⟨gb524, 0, none⟩) (Kd.R_types HO523.out BK524.out (by decide)) (fun _ hk => hk.2) (.slice Ao32 t513.length co32)) (fun _ hk => hk.2) (.int .i64 t516)) (fun _ hk => hk.2) (.slice Ao36 t517.length co36)) (fun _ hk => hk.2) (.int .i64 t520)) (fun _ hk => hk.2) (.slice Ao37 t521.length co37)) (fun _ hk => ⟨hk.1.1.2, hk.1.2⟩)⟩
              have n7_ : Aside0 ((((((w31.setCell ⟨gb524, 0, none⟩ (.slice Ao32 t513.length co32)).setCell ⟨gb524, 1, none⟩ (.int .i64 t516)).setCell ⟨gb524, 2, none⟩ (.slice Ao36 t517.length co36)).setCell ⟨gb524, 3, none⟩ (.int .i64 t520)).setCell ⟨gb524, 4, none⟩ (.slice Ao37 t521.length co37)).heap[gb506]? = some (.cells #[.slice Ao9 t491.length co9, .int .i64 t494, .slice Ao12 t495.length co12, .int .i64 t498, .slice Ao13 t499.length co13] 26 (0, 0))) := ⟨by (with_reducible repeat (first | refine blk_drewN ?_ _ | refine blk_drew ?_ | refine blk_alloc ?_ _)); refine blk_far ?_ NB506_524.out _; (with_reducible repeat (first | refine blk_drewN ?_ _ | refine blk_drew ?_ | refine blk_alloc ?_ _)); refine blk_far ?_ NB506_524.out _; (with_reducible repeat (first | refine blk_drewN ?_ _ | refine blk_drew ?_ | refine blk_alloc ?_ _)); refine blk_far ?_ NB506_524.out _; (with_reducible repeat (first | refine blk_drewN ?_ _ | refine blk_drew ?_ | refine blk_alloc ?_ _)); refine blk_far ?_ NB506_524.out _; (with_reducible repeat (first | refine blk_drewN ?_ _ | refine blk_drew ?_ | refine blk_alloc ?_ _)); refine blk_far ?_ NB506_524.out _; (with_reducible repeat (first | refine blk_drewN ?_ _ | refine blk_drew ?_ | refine blk_alloc ?_ _)); exact BK506.out⟩
              have n8_ : Aside0 ((((((w31.setCell ⟨gb524, 0, none⟩ (.slice Ao32 t513.length co32)).setCell ⟨gb524, 1, none⟩ (.int .i64 t516)).setCell ⟨gb524, 2, none⟩ (.slice Ao36 t517.length co36)).setCell ⟨gb524, 3, none⟩ (.int .i64 t520)).setCell ⟨gb524, 4, none⟩ (.slice Ao37 t521.length co37)).heap[gb524]? = some (.cells #[.slice Ao32 t513.length co32, .int .i64 t516, .slice Ao36 t517.length co36, .int .i64 t520, .slice Ao37 t521.length co37] 26 (0, 0))) := ⟨by (with_reducible repeat (first | refine blk_drewN ?_ _ | refine blk_drew ?_ | refine blk_alloc ?_ _)); refine blk_put (cs := #[.slice Ao32 t513.length co32, .int .i64 t516, .slice Ao36 t517.length co36, .int .i64 t520, .slice none 0 0]) ?_ 4 _ rfl; (with_reducible repeat (first | refine blk_drewN ?_ _ | refine blk_drew ?_ | refine blk_alloc ?_ _)); refine blk_put (cs := #[.slice Ao32 t513.length co32, .int .i64 t516, .slice Ao36 t517.length co36, .int .i64 0, .slice none 0 0]) ?_ 3 _ rfl; (with_reducible repeat (first | refine blk_drewN ?_ _ | refine blk_drew ?_ | refine blk_alloc ?_ _)); refine blk_put (cs := #[.slice Ao32 t513.length co32, .int .i64 t516, .slice none 0 0, .int .i64 0, .slice none 0 0]) ?_ 2 _ rfl; (with_reducible repeat (first | refine blk_drewN ?_ _ | refine blk_drew ?_ | refine blk_alloc ?_ _)); refine blk_put (cs := #[.slice Ao32 t513.length co32, .int .i64 0, .slice none 0 0, .int .i64 0, .slice none 0 0]) ?_ 1 _ rfl; (with_reducible repeat (first | refine blk_drewN ?_ _ | refine blk_drew ?_ | refine blk_alloc ?_ _)); refine blk_put (cs := #[.slice none 0 0, .int .i64 0, .slice none 0 0, .int .i64 0, .slice none 0 0]) ?_ 0 _ rfl; (with_reducible repeat (first | refine blk_drewN ?_ _ | refine blk_drew ?_ | refine blk_alloc ?_ _)); exact BK524.out⟩
              have n9_ : Aside0 (IsS79 w (((((w31.setCell ⟨gb524, 0, none⟩ (.slice Ao32 t513.length co32)).setCell ⟨gb524, 1, none⟩ (.int .i64 t516)).setCell ⟨gb524, 2, none⟩ (.slice Ao36 t517.length co36)).setCell ⟨gb524, 3, none⟩ (.int .i64 t520)).setCell ⟨gb524, 4, none⟩ (.slice Ao37 t521.length co37)) g490 t512) := ⟨by repeat (first | (with_reducible first | exact HI490.out | apply IsS79.alloc | apply IsS79.drewN | apply IsS79.drew | apply IsS79.set_0 | refine IsS79.far ?_ NB490_506.out _ | refine IsS79.far ?_ NB490_524.out _) | exact HI490.out)⟩
              have n10_ : Aside0 (Below w.heap.size w (((((w31.setCell ⟨gb524, 0, none⟩ (.slice Ao32 t513.length co32)).setCell ⟨gb524, 1, none⟩ (.int .i64 t516)).setCell ⟨gb524, 2, none⟩ (.slice Ao36 t517.length co36)).setCell ⟨gb524, 3, none⟩ (.int .i64 t520)).setCell ⟨gb524, 4, none⟩ (.slice Ao37 t521.length co37))) := ⟨by repeat (first | (with_reducible first | exact HB.out | apply below_alloc | apply pw_below_drewN | apply below_drew1 | refine below_set ?_ (IsS79.ge HI490.out) | refine below_set ?_ GE506.out | refine below_set ?_ GE524.out) | exact HB.out)⟩
              (try clear HO_6)
              (try clear HO_507000)
              (try clear HO_507002)
              (try clear HO_507004)
              (try clear HO515)
              (try clear HO519)
              (try clear HO523)
              (try clear BK506)
              (try clear BK524)
              (try clear HI490)
              (try clear HB)
              generalize (((((w31.setCell ⟨gb524, 0, none⟩ (.slice Ao32 t513.length co32)).setCell ⟨gb524, 1, none⟩ (.int .i64 t516)).setCell ⟨gb524, 2, none⟩ (.slice Ao36 t517.length co36)).setCell ⟨gb524, 3, none⟩ (.int .i64 t520)).setCell ⟨gb524, 4, none⟩ (.slice Ao37 t521.length co37)) = w38 at n0_ n1_ n2_ n3_ n4_ n5_ n6_ n7_ n8_ n9_ n10_ ⊢
              have HO_6 := n0_
              have HO_507000 := n1_
              have HO_507002 := n2_
              have HO_507004 := n3_
              have HO515 := n4_
              have HO519 := n5_
              have HO523 := n6_
              have BK506 := n7_
              have BK524 := n8_
              have HI490 := n9_
              have HB := n10_
              clear n0_ n1_ n2_ n3_ n4_ n5_ n6_ n7_ n8_ n9_ n10_
              have n0_ := Aside0.mk (Kd.R_drew HO_6.out)
              have n1_ := Aside0.mk (Kd.S_drew HO_507000.out)
              have n2_ := Aside0.mk (Kd.R_drew HO_507002.out)
              have n3_ := Aside0.mk (Kd.R_drew HO_507004.out)
              have n4_ := Aside0.mk (Kd.S_drew HO515.out)
              have n5_ := Aside0.mk (Kd.R_drew HO519.out)
              have n6_ := Aside0.mk (Kd.R_drew HO523.out)
              have n7_ := Aside0.mk (blk_drew BK506.out)
              have n8_ := Aside0.mk (blk_drew BK524.out)
              have n9_ := Aside0.mk (IsS79.drew HI490.out)
              have n10_ := Aside0.mk (below_drew1 HB.out)
              clear HO_6
              clear HO_507000
              clear HO_507002
              clear HO_507004
              clear HO515
              clear HO519
              clear HO523
              clear BK506
              clear BK524
              clear HI490
              clear HB
              have HO_6 := n0_
              have HO_507000 := n1_
              have HO_507002 := n2_
              have HO_507004 := n3_
              have HO515 := n4_
              have HO519 := n5_
              have HO523 := n6_
              have BK506 := n7_
              have BK524 := n8_
              have HI490 := n9_
              have HB := n10_
              clear n0_ n1_ n2_ n3_ n4_ n5_ n6_ n7_ n8_ n9_ n10_
              obtain ⟨Ao40, co40, eo40⟩ := Kd.R_slice HO_6.out
              (first | subst eo40 | (injection eo40 with f1_ f2_ f3_; have f4_ := f1_.symm; have f5_ := f3_.symm; clear f1_ f2_ f3_; subst f4_; subst f5_))
              have p525 : 0 ≤ (t511 : Int) := of_decide_eq_true (by first | (with_reducible assumption) | assumption)
              have q525 : t511 < (t507.length : Int) := of_decide_eq_true (by first | (with_reducible assumption) | assumption)
              obtain ⟨ad525, e525, hx525_0⟩ := Kd.at_int (Kd.R_reads' HO_6.out).2.2 t511 p525 q525
              cases e525
              replace p525 := eq_true p525
              replace q525 := eq_true q525
              refine start_ (n := 13) (S := fun w' => w'.cell? ⟨gb524, 0, none⟩ = some (.slice Ao32 t513.length co32) ∧ w'.cell? ⟨gb524, 1, none⟩ = some (.int .i64 t516) ∧ w'.cell? ⟨gb524, 2, none⟩ = some (.slice Ao36 t517.length co36) ∧ w'.cell? ⟨gb524, 3, none⟩ = some (.int .i64 t520) ∧ w'.cell? ⟨gb524, 4, none⟩ = some (.slice Ao37 t521.length co37) ∧ w'.cell? (ad525.add (t511).toNat) = some (.int .i64 (rd t507 t511))) (ds := [12]) #[false, false, false, false, false, false, false, false, false, false, false, false, false] (by kernel_rfl) rfl rfl ⟨(blk_cell BK524.out 0).trans rfl, (blk_cell BK524.out 1).trans rfl, (blk_cell BK524.out 2).trans rfl, (blk_cell BK524.out 3).trans rfl, (blk_cell BK524.out 4).trans rfl, hx525_0⟩ (fun hHeld => ?_); refine with_tabW swarflaw04_StripMore.tab8 swarflaw04_StripMore.bits8 (fun HT_ HW_ => ?_)
              generalize w38.drew = w39 at HO_6 HO_507000 HO_507002 HO_507004 HO515 HO519 HO523 BK506 BK524 HI490 HB hx525_0 hHeld ⊢
              refine pure_ (i := 0) (N := some 44) (v := ?_) (a' := ?_) #[true, false, false, false, false, false, false, false, false, false, false, false, false] rfl rfl (any_of HT_.out (by kernel_rfl)) (fun _ _ _ h => h) (Or.inl ⟨by rfl, ?_⟩) ?_ ?_
              rotate_left
              · intro w'
                go_simp
                with_reducible rfl
              rotate_left
              · simp only [Act.put, List.setIfInBounds_toArray, List.set_cons_zero, List.set_cons_succ, i64_w, i32_w]
                rfl
              refine pure_ (i := 2) (N := some 46) (v := ?_) (a' := ?_) #[true, false, true, false, false, false, false, false, false, false, false, false, false] rfl rfl (any_of HT_.out (by kernel_rfl)) (fun _ _ _ h => h) (Or.inl ⟨by rfl, ?_⟩) ?_ ?_
              rotate_left
              · intro w'
                go_simp
                with_reducible rfl
              rotate_left
              · simp only [Act.put, List.setIfInBounds_toArray, List.set_cons_zero, List.set_cons_succ, i64_w, i32_w]
                rfl
              refine pure_ (i := 3) (N := some 47) (v := ?_) (a' := ?_) #[true, false, true, true, false, false, false, false, false, false, false, false, false] rfl rfl (any_of HT_.out (by kernel_rfl)) (fun _ _ _ h => h) (Or.inl ⟨by rfl, ?_⟩) ?_ ?_
              rotate_left
              · intro w'
                go_simp
                with_reducible rfl
              rotate_left
              · simp only [Act.put, List.setIfInBounds_toArray, List.set_cons_zero, List.set_cons_succ, i64_w, i32_w]
                rfl
              refine pure_ (i := 4) (N := some 48) (v := ?_) (a' := ?_) #[true, false, true, true, true, false, false, false, false, false, false, false, false] rfl rfl (any_of HT_.out (by kernel_rfl)) (fun _ _ _ h => h) (Or.inl ⟨by rfl, ?_⟩) ?_ ?_
              rotate_left
              · intro w'
                go_simp
                with_reducible rfl
              rotate_left
              · simp only [Act.put, List.setIfInBounds_toArray, List.set_cons_zero, List.set_cons_succ, i64_w, i32_w]
                rfl
              refine pure_ (i := 5) (N := some 49) (v := ?_) (a' := ?_) #[true, false, true, true, true, true, false, false, false, false, false, false, false] rfl rfl (any_of HT_.out (by kernel_rfl)) (fun _ _ _ h => h) (Or.inl ⟨by rfl, ?_⟩) ?_ ?_
              rotate_left
              · intro w'
                go_simp
                with_reducible rfl
              rotate_left
              · simp only [Act.put, List.setIfInBounds_toArray, List.set_cons_zero, List.set_cons_succ, i64_w, i32_w]
                rfl
              refine take_ (i := 1) (N := some 45) (v := ?_) (a' := ?_) #[true, true, true, true, true, true, false, false, false, false, false, false, false] rfl rfl (take_ofW HT_.out HW_.out (by kernel_rfl)) (fun _ _ _ h => h) (Or.inl ⟨by rfl, ?_⟩) hHeld ?_ ?_
              rotate_left
              · rintro w' ⟨s0, s1, s2, s3, s4, s5⟩
                go_simp
                with_reducible rfl
              rotate_left
              · simp only [Act.put, List.setIfInBounds_toArray, List.set_cons_zero, List.set_cons_succ, i64_w, i32_w]
                rfl
              refine take_ (i := 6) (N := some 50) (v := ?_) (a' := ?_) #[true, true, true, true, true, true, true, false, false, false, false, false, false] rfl rfl (take_ofW HT_.out HW_.out (by kernel_rfl)) (fun _ _ _ h => h) (Or.inl ⟨by rfl, ?_⟩) hHeld ?_ ?_
              rotate_left
              · rintro w' ⟨s0, s1, s2, s3, s4, s5⟩
                go_simp
                with_reducible rfl
              rotate_left
              · simp only [Act.put, List.setIfInBounds_toArray, List.set_cons_zero, List.set_cons_succ, i64_w, i32_w]
                rfl
              refine pure_ (i := 7) (N := some 51) (v := ?_) (a' := ?_) #[true, true, true, true, true, true, true, true, false, false, false, false, false] rfl rfl (any_of HT_.out (by kernel_rfl)) (fun _ _ _ h => h) (Or.inl ⟨by rfl, ?_⟩) ?_ ?_
              rotate_left
              · intro w'
                go_simp
                with_reducible rfl
              rotate_left
              · simp only [Act.put, List.setIfInBounds_toArray, List.set_cons_zero, List.set_cons_succ, i64_w, i32_w]
                rfl
              refine pure_ (i := 8) (N := some 52) (v := ?_) (a' := ?_) #[true, true, true, true, true, true, true, true, true, false, false, false, false] rfl rfl (any_of HT_.out (by kernel_rfl)) (fun _ _ _ h => h) (Or.inl ⟨by rfl, ?_⟩) ?_ ?_
              rotate_left
              · intro w'
                go_simp
                with_reducible rfl
              rotate_left
              · simp only [Act.put, List.setIfInBounds_toArray, List.set_cons_zero, List.set_cons_succ, i64_w, i32_w]
                rfl
              refine one_ (i := 9) (N := some 53) #[true, true, true, true, true, true, true, true, true, true, false, false, false] rfl rfl (one_of HT_.out (by kernel_rfl)) (by decide) (fun K hK => ?_)
              refine value_ (w1 := ?_) (v := ?_) (by rfl) rfl ?_ ?_
              rotate_left 2
              · go_simp
                constructor
                · rfl
                · rfl
              refine hK.out _ _ ⟨(blk_cell (blk_alloc BK524.out _) 0).trans rfl, (blk_cell (blk_alloc BK524.out _) 1).trans rfl, (blk_cell (blk_alloc BK524.out _) 2).trans rfl, (blk_cell (blk_alloc BK524.out _) 3).trans rfl, (blk_cell (blk_alloc BK524.out _) 4).trans rfl, (World.cell?_alloc_lt _ _ _ (World.block_lt_of_cell? _ _ (hHeld.2.2.2.2.2))).trans (hHeld.2.2.2.2.2)⟩ (fun hHeld => ?_)
              clear hK K
              refine norm_ (a' := ?_) ?_ ?_
              rotate_left
              · show Act.put _ (some 53) _ = _
                simp only [Act.put, List.setIfInBounds_toArray, List.set_cons_zero, List.set_cons_succ, i64_w, i32_w]
                rfl
              refine one_ (i := 10) (N := some 54) #[true, true, true, true, true, true, true, true, true, true, true, false, false] rfl rfl (one_of HT_.out (by kernel_rfl)) (by decide) (fun K hK => ?_)
              refine Kd.R_append_step k61 (w0 := w) w.heap.size (by rfl) (.tmp 45) (.tmp 53) 23 61 (.agg #[(.int .i64 0), (.bool false)]) 16 rfl Try.underlying23 info61 rfl (by decide) (by omega) (.slice Ao36 t517.length co36) t517 (⟨t511, ((rd t507 t511) == 1)⟩ : S61) [.int .i64 t511, .bool ((rd t507 t511) == 1)] (fun k_ => some k_ ≠ (.slice Ao12 t495.length co12 : Value).ownBlock) (fun _ => False) rfl rfl ?aP (fun _ hk => hk.elim) ?aF ?aO ?aB ?aS ?aL ?_
              (case aP => exact k61_mkM _ _ _ (⟨t511, ((rd t507 t511) == 1)⟩ : S61))
              (case aB => exact (by repeat (first | (with_reducible first | exact HB.out | apply below_alloc | apply pw_below_drewN | apply below_drew1 | refine below_set ?_ (IsS79.ge HI490.out) | refine below_set ?_ GE506.out | refine below_set ?_ GE524.out) | exact HB.out)))
              (case aF => exact (fun k_ hk => Kd.fresh' (Kd.R_lt (by (with_reducible repeat (first | apply Kd.R_alloc | apply Kd.R_drewN | apply Kd.R_drew)); exact HO_507002.out)) k_ hk))
              (case aO => exact (by (with_reducible repeat (first | apply Kd.R_alloc | apply Kd.R_drewN | apply Kd.R_drew)); exact HO519.out))
              (case aS => exact (below_size (by repeat (first | (with_reducible first | exact HB.out | apply below_alloc | apply pw_below_drewN | apply below_drew1 | refine below_set ?_ (IsS79.ge HI490.out) | refine below_set ?_ GE506.out | refine below_set ?_ GE524.out) | exact HB.out))))
              (case aL => have := LMc24.out; omega)
              intro v527 w41 ho hb hg hat
              (first | have HS5_ := cell_grown hg (hHeld.2.2.2.2.2) (by first | exact (by obtain ⟨_, hz_⟩ := Kd.R_typed HO_6.out _ rfl; exact Kd.R_ne HO519.out hz_ (by decide)) | (rw [add_block]; exact (by obtain ⟨_, hz_⟩ := Kd.R_typed HO_6.out _ rfl; exact Kd.R_ne HO519.out hz_ (by decide))) | (show some (Addr.add _ _).block ≠ _; rw [add_block]; exact (by obtain ⟨_, hz_⟩ := Kd.R_typed HO_6.out _ rfl; exact Kd.R_ne HO519.out hz_ (by decide)))) | have HS5_ := cell_grown hg (cell_unalloc (hHeld.2.2.2.2.2) (by first | exact (by obtain ⟨_, hz_⟩ := Kd.R_typed HO_6.out _ rfl; exact blk_lt hz_) | (rw [add_block]; exact (by obtain ⟨_, hz_⟩ := Kd.R_typed HO_6.out _ rfl; exact blk_lt hz_)) | (show (Addr.add _ _).block < _; rw [add_block]; exact (by obtain ⟨_, hz_⟩ := Kd.R_typed HO_6.out _ rfl; exact blk_lt hz_)))) (by first | exact (by obtain ⟨_, hz_⟩ := Kd.R_typed HO_6.out _ rfl; exact Kd.R_ne HO519.out hz_ (by decide)) | (rw [add_block]; exact (by obtain ⟨_, hz_⟩ := Kd.R_typed HO_6.out _ rfl; exact Kd.R_ne HO519.out hz_ (by decide))) | (show some (Addr.add _ _).block ≠ _; rw [add_block]; exact (by obtain ⟨_, hz_⟩ := Kd.R_typed HO_6.out _ rfl; exact Kd.R_ne HO519.out hz_ (by decide)))))
              rw [← Ny526.out] at ho
              have n0_ := Aside0.mk (Kd.R_over' (by (with_reducible repeat (first | apply Kd.R_alloc | apply Kd.R_drewN | apply Kd.R_drew)); exact HO_6.out) (Kd.R_typed (by (with_reducible repeat (first | apply Kd.R_alloc | apply Kd.R_drewN | apply Kd.R_drew)); exact HO519.out)) (by decide) hg)
              have n1_ := Aside0.mk (Kd.S_over' (by (with_reducible repeat (first | apply Kd.S_alloc | apply Kd.S_drewN | apply Kd.S_drew)); exact HO_507000.out) (Kd.R_typed (by (with_reducible repeat (first | apply Kd.R_alloc | apply Kd.R_drewN | apply Kd.R_drew)); exact HO519.out)) (by decide) hg)
              have n2_ := Aside0.mk (Kd.R_after (ok := (fun _ => True)) (by (with_reducible repeat (first | apply Kd.R_alloc | apply Kd.R_drewN | apply Kd.R_drew)); exact Kd.R_mono HO_507002.out (fun _ hk => ⟨trivial, hk⟩)) hg hat)
              have n3_ := Aside0.mk (Kd.R_over' (by (with_reducible repeat (first | apply Kd.R_alloc | apply Kd.R_drewN | apply Kd.R_drew)); exact HO_507004.out) (Kd.R_typed (by (with_reducible repeat (first | apply Kd.R_alloc | apply Kd.R_drewN | apply Kd.R_drew)); exact HO519.out)) (by decide) hg)
              have n4_ := Aside0.mk (blk_grown (g := gb506) (o := .cells #[.slice Ao9 t491.length co9, .int .i64 t494, .slice Ao12 t495.length co12, .int .i64 t498, .slice Ao13 t499.length co13] 26 (0, 0)) (by (with_reducible repeat (first | refine blk_drewN ?_ _ | refine blk_drew ?_ | refine blk_alloc ?_ _)); exact BK506.out) hg (Kd.R_ne HO519.out BK506.out (by decide)))
              have n5_ := Aside0.mk (IsS79.grown (by repeat (first | (with_reducible first | exact HI490.out | apply IsS79.alloc | apply IsS79.drewN | apply IsS79.drew | apply IsS79.set_0 | refine IsS79.far ?_ NB490_506.out _ | refine IsS79.far ?_ NB490_524.out _) | exact HI490.out)) hg (IsS79.own_ne HI490.out HO519.out (by decide)))
              have n6_ := Aside0.mk (Kd.S_over' (by (with_reducible repeat (first | apply Kd.S_alloc | apply Kd.S_drewN | apply Kd.S_drew)); exact HO515.out) (Kd.R_typed (by (with_reducible repeat (first | apply Kd.R_alloc | apply Kd.R_drewN | apply Kd.R_drew)); exact HO519.out)) (by decide) hg)
              have n7_ := Aside0.mk (Kd.R_over' (by (with_reducible repeat (first | apply Kd.R_alloc | apply Kd.R_drewN | apply Kd.R_drew)); exact HO523.out) (Kd.R_typed (by (with_reducible repeat (first | apply Kd.R_alloc | apply Kd.R_drewN | apply Kd.R_drew)); exact HO519.out)) (by decide) hg)
              have n8_ := Aside0.mk (blk_grown (g := gb524) (o := .cells #[.slice Ao32 t513.length co32, .int .i64 t516, .slice Ao36 t517.length co36, .int .i64 t520, .slice Ao37 t521.length co37] 26 (0, 0)) (by (with_reducible repeat (first | refine blk_drewN ?_ _ | refine blk_drew ?_ | refine blk_alloc ?_ _)); exact BK524.out) hg (Kd.R_ne HO519.out BK524.out (by decide)))
              have n9_ := Aside0.mk (hb)
              have n10_ := Aside0.mk (ho)
              clear HO_6
              clear HO_507000
              clear HO_507002
              clear HO_507004
              clear BK506
              clear HI490
              clear HO515
              clear HO523
              clear BK524
              clear HB
              clear HO519
              have HO_6 := n0_
              have HO_507000 := n1_
              have HO_507002 := n2_
              have HO_507004 := n3_
              have BK506 := n4_
              have HI490 := n5_
              have HO515 := n6_
              have HO523 := n7_
              have BK524 := n8_
              have HB := n9_
              have HO528 := n10_
              clear n0_ n1_ n2_ n3_ n4_ n5_ n6_ n7_ n8_ n9_ n10_
              clear ho hb hg hat
              obtain ⟨Ao42, co42, eo42⟩ := Kd.R_slice HO528.out
              (first | subst eo42 | (injection eo42 with f1_ f2_ f3_; have f4_ := f1_.symm; have f5_ := f3_.symm; clear f1_ f2_ f3_; subst f4_; subst f5_))
              refine hK.out _ _ ⟨(blk_cell BK524.out 0).trans rfl, (blk_cell BK524.out 1).trans rfl, (blk_cell BK524.out 2).trans rfl, (blk_cell BK524.out 3).trans rfl, (blk_cell BK524.out 4).trans rfl, HS5_⟩ (fun hHeld => ?_)
              clear hK K
              refine norm_ (a' := ?_) ?_ ?_
              rotate_left
              · show Act.put _ (some 54) _ = _
                simp only [Act.put, List.setIfInBounds_toArray, List.set_cons_zero, List.set_cons_succ, i64_w, i32_w]
                rfl
              refine pure_ (i := 11) (N := some 55) (v := ?_) (a' := ?_) #[true, true, true, true, true, true, true, true, true, true, true, true, false] rfl rfl (any_of HT_.out (by kernel_rfl)) (fun _ _ _ h => h) (Or.inl ⟨by rfl, ?_⟩) ?_ ?_
              rotate_left
              · intro w'
                go_simp
                with_reducible rfl
              rotate_left
              · simp only [Act.put, List.setIfInBounds_toArray, List.set_cons_zero, List.set_cons_succ, i64_w, i32_w]
                rfl
              refine last_ (i := 12) (N := none) #[true, true, true, true, true, true, true, true, true, true, true, true, true] rfl rfl (one_of HT_.out (by kernel_rfl)) (by decide) (fun K hK => ?_)
              have hs43 : w41.cell? ⟨gb524, 2, none⟩ = some (.slice Ao36 t517.length co36) := (blk_cell BK524.out 2).trans rfl
              have hfs43 := blk_frozen BK524.out 2
              have hns43_0 := NB506_524.out
              have hms43_0 := NB524_506.out
              refine skip_ (w1 := ?_) (by rfl) rfl ?_ ?_
              rotate_left
              · go_simp
                rfl
              refine hK.out _ _ ?_
              clear hK K
              refine done_ (done_of HT_.out (by kernel_rfl)) ?_
              have p529 : 0 ≤ (t511 : Int) := of_decide_eq_true (by first | (with_reducible assumption) | assumption)
              have q529 : t511 < (t507.length : Int) := of_decide_eq_true (by first | (with_reducible assumption) | assumption)
              obtain ⟨ad529, e529, hx529_0⟩ := Kd.at_int (Kd.R_reads' HO_6.out).2.2 t511 p529 q529
              obtain rfl : ad525 = ad529 := (by injection e529)
              have hn529_0 : ad525.block ≠ gb524 := Kd.own_blk (Kd.R_ne HO_6.out BK524.out (by decide))
              replace hx529_0 := (cell_far (p := ⟨gb524, 2, none⟩) (by first | (rw [add_block]; exact hn529_0) | (show (Addr.add _ _).block ≠ _; rw [add_block]; exact hn529_0) | exact hn529_0) (.slice Ao42 y526.length co42)).trans hx529_0
              clear hn529_0
              replace p529 := eq_true p529
              replace q529 := eq_true q529
              go_upto_if 60 with (fail)
              go_cut [] (fun wc => ∃ (kq : Nat), Aside0 (swarflaw04_StripMore.j1 kq t507 t512 t513 t516 y526 t520 t521 = some r) ∧ Aside0 (kq ≤ kj4) ∧ Aside0 (Kd.R (Kd.int .i64) 3 wc w.heap.size (fun k_ => some k_ ≠ ((.slice Ao13 t499.length co13) : Value).ownBlock ∧ some k_ ≠ ((.slice Ao37 t521.length co37) : Value).ownBlock) (.slice (some ad525) t507.length co40) t507) ∧ Aside0 (Kd.S k50 50 wc w.heap.size (fun k_ => some k_ ≠ ((.slice (some ad525) t507.length co40) : Value).ownBlock ∧ some k_ ≠ ((.slice Ao13 t499.length co13) : Value).ownBlock ∧ some k_ ≠ ((.slice Ao32 t513.length co32) : Value).ownBlock ∧ some k_ ≠ ((.slice Ao37 t521.length co37) : Value).ownBlock) (.slice Ao9 t491.length co9) t491) ∧ Aside0 (Kd.R k61 61 wc w.heap.size (fun k_ => some k_ ≠ ((.slice Ao42 y526.length co42) : Value).ownBlock) (.slice Ao12 t495.length co12) t495) ∧ Aside0 (Kd.R (Kd.int .i64) 3 wc w.heap.size (fun k_ => some k_ ≠ ((.slice (some ad525) t507.length co40) : Value).ownBlock ∧ some k_ ≠ ((.slice Ao37 t521.length co37) : Value).ownBlock) (.slice Ao13 t499.length co13) t499) ∧ Aside0 (Kd.S k50 50 wc w.heap.size (fun k_ => some k_ ≠ ((.slice (some ad525) t507.length co40) : Value).ownBlock ∧ some k_ ≠ ((.slice Ao9 t491.length co9) : Value).ownBlock ∧ some k_ ≠ ((.slice Ao13 t499.length co13) : Value).ownBlock ∧ some k_ ≠ ((.slice Ao37 t521.length co37) : Value).ownBlock) (.slice Ao32 t513.length co32) t513) ∧ Aside0 (Kd.R k61 61 wc w.heap.size (fun k_ => some k_ ≠ ((.slice Ao12 t495.length co12) : Value).ownBlock) (.slice Ao42 y526.length co42) y526) ∧ Aside0 (Kd.R (Kd.int .i64) 3 wc w.heap.size (fun k_ => some k_ ≠ ((.slice (some ad525) t507.length co40) : Value).ownBlock ∧ some k_ ≠ ((.slice Ao13 t499.length co13) : Value).ownBlock) (.slice Ao37 t521.length co37) t521) ∧ Aside0 (wc.heap[gb506]? = some (.cells #[(.slice Ao9 t491.length co9), .int .i64 t494, (.slice Ao12 t495.length co12), .int .i64 t498, (.slice Ao13 t499.length co13)] 26 (0, 0))) ∧ Aside0 (wc.heap[gb524]? = some (.cells #[(.slice Ao32 t513.length co32), .int .i64 t516, (.slice Ao42 y526.length co42), .int .i64 t520, (.slice Ao37 t521.length co37)] 26 (0, 0))) ∧ Aside0 (IsS79 w wc g490 t512) ∧ Aside0 (Below w.heap.size w wc))
              case first =>
                have H := HC25.out
                clear HC25
                by_cases c44 : (rd t507 t511) = 3
                · rw [if_pos c44] at H
                  have c44b0 : ((rd t507 t511) == 3) = true := beq_iff_eq.mpr c44
                  have c44b1 : ((rd t507 t511) != 3) = false := bne_eq_false_iff_eq.mpr c44
                  clear c44
                  (first | rw [c44b0] | (simp only [i64_w, i32_w]; rw [c44b0]) | skip)
                  have H' := Aside0.mk H
                  clear H
                  go_wp2
                  go_meet
                  case rel => exact ⟨_, H', ⟨by have := HJ4.out; first | omega | exact Nat.le_refl _⟩, ⟨by (with_reducible repeat (first | apply Kd.R_alloc | apply Kd.R_drewN | apply Kd.R_drew)); exact Kd.R_mono (Kd.R_far (p := ⟨gb524, 2, none⟩) (Kd.R_types HO_6.out BK524.out (by decide)) (fun _ hk => hk.2) (.slice Ao42 y526.length co42)) (fun _ hk => ⟨hk.1.1, hk.1.2⟩)⟩, ⟨by (with_reducible repeat (first | apply Kd.S_alloc | apply Kd.S_drewN | apply Kd.S_drew)); exact Kd.S_mono (Kd.S_far (p := ⟨gb524, 2, none⟩) (Kd.S_types HO_507000.out BK524.out (by decide)) (fun _ hk => hk.2) (.slice Ao42 y526.length co42)) (fun _ hk => ⟨hk.1.1, ⟨hk.1.2.1, ⟨hk.1.2.2.1, hk.1.2.2.2⟩⟩⟩)⟩, ⟨by (with_reducible repeat (first | apply Kd.R_alloc | apply Kd.R_drewN | apply Kd.R_drew)); exact Kd.R_mono (Kd.R_far (p := ⟨gb524, 2, none⟩) (Kd.R_types HO_507002.out BK524.out (by decide)) (fun _ hk => hk.2) (.slice Ao42 y526.length co42)) (fun _ hk => hk.1.2)⟩, ⟨by (with_reducible repeat (first | apply Kd.R_alloc | apply Kd.R_drewN | apply Kd.R_drew)); exact Kd.R_mono (Kd.R_far (p := ⟨gb524, 2, none⟩) (Kd.R_types HO_507004.out BK524.out (by decide)) (fun _ hk => hk.2) (.slice Ao42 y526.length co42)) (fun _ hk => ⟨hk.1.1, hk.1.2⟩)⟩, ⟨by (with_reducible repeat (first | apply Kd.S_alloc | apply Kd.S_drewN | apply Kd.S_drew)); exact Kd.S_mono (Kd.S_far (p := ⟨gb524, 2, none⟩) (Kd.S_types HO515.out BK524.out (by decide)) (fun _ hk => hk.2) (.slice Ao42 y526.length co42)) (fun _ hk => ⟨hk.1.1, ⟨hk.1.2.1, ⟨hk.1.2.2.1, hk.1.2.2.2⟩⟩⟩)⟩, ⟨by (with_reducible repeat (first | apply Kd.R_alloc | apply Kd.R_drewN | apply Kd.R_drew)); exact Kd.R_mono (Kd.R_far (p := ⟨gb524, 2, none⟩) (Kd.R_types HO528.out BK524.out (by decide)) (fun _ hk => hk.2) (.slice Ao42 y526.length co42)) (fun _ hk => hk.1)⟩, ⟨by (with_reducible repeat (first | apply Kd.R_alloc | apply Kd.R_drewN | apply Kd.R_drew)); exact Kd.R_mono (Kd.R_far (p := ⟨gb524, 2, none⟩) (Kd.R_types HO523.out BK524.out (by decide)) (fun _ hk => hk.2) (.slice Ao42 y526.length co42)) (fun _ hk => ⟨hk.1.1, hk.1.2⟩)⟩, ⟨by (with_reducible repeat (first | refine blk_drewN ?_ _ | refine blk_drew ?_ | refine blk_alloc ?_ _)); refine blk_far ?_ NB506_524.out _; (with_reducible repeat (first | refine blk_drewN ?_ _ | refine blk_drew ?_ | refine blk_alloc ?_ _)); exact BK506.out⟩, ⟨by (with_reducible repeat (first | refine blk_drewN ?_ _ | refine blk_drew ?_ | refine blk_alloc ?_ _)); refine blk_put (cs := #[.slice Ao32 t513.length co32, .int .i64 t516, .slice Ao36 t517.length co36, .int .i64 t520, .slice Ao37 t521.length co37]) ?_ 2 _ rfl; (with_reducible repeat (first | refine blk_drewN ?_ _ | refine blk_drew ?_ | refine blk_alloc ?_ _)); exact BK524.out⟩, ⟨by repeat (first | (with_reducible first | exact HI490.out | apply IsS79.alloc | apply IsS79.drewN | apply IsS79.drew | apply IsS79.set_0 | refine IsS79.far ?_ NB490_506.out _ | refine IsS79.far ?_ NB490_524.out _) | exact HI490.out)⟩, ⟨by repeat (first | (with_reducible first | exact HB.out | apply below_alloc | apply pw_below_drewN | apply below_drew1 | refine below_set ?_ (IsS79.ge HI490.out) | refine below_set ?_ GE506.out | refine below_set ?_ GE524.out) | exact HB.out)⟩⟩
                · rw [if_neg c44] at H
                  have c44b0 : ((rd t507 t511) == 3) = false := beq_eq_false_iff_ne.mpr c44
                  have c44b1 : ((rd t507 t511) != 3) = true := bne_iff_ne.mpr c44
                  (first | rw [c44b0] | (simp only [i64_w, i32_w]; rw [c44b0]) | skip)
                  replace H := Option.bind_eq_some_iff.mp H
                  obtain ⟨⟨t530, t533⟩, A450, H⟩ := H
                  replace H : (if t533 = 0 then ((swarfkit_EqualInts.f kj4 t507 t530).bind fun t534 => (if t534 = true then (swarflaw04_StripMore.j1 kj4 t507 t512 t513 t516 y526 t520 t521) else (some false))) else (some false)) = some r := H
                  have A45 := Aside0.mk A450
                  clear A450
                  by_cases c46 : t533 = 0
                  · rw [if_pos c46] at H
                    have c46b0 : (t533 == 0) = true := beq_iff_eq.mpr c46
                    have c46b1 : (t533 != 0) = false := bne_eq_false_iff_eq.mpr c46
                    clear c46
                    replace H := Option.bind_eq_some_iff.mp H
                    obtain ⟨t534, A470, H⟩ := H
                    replace H : (if t534 = true then (swarflaw04_StripMore.j1 kj4 t507 t512 t513 t516 y526 t520 t521) else (some false)) = some r := H
                    have A47 := Aside0.mk A470
                    clear A470
                    by_cases c48 : t534 = true
                    · subst c48
                      have H1 : (swarflaw04_StripMore.j1 kj4 t507 t512 t513 t516 y526 t520 t521) = some r := by rw [if_pos rfl] at H; exact H
                      clear H
                      have H := H1
                      clear H1
                      have H' := Aside0.mk H
                      clear H
                      have hnb49 := NB524_506.out
                      have hnc49 := NB506_524.out
                      have hnb50 := NB524_490.out
                      have hnc50 := NB490_524.out
                      have hcz51_0 : w41.cell? ⟨gb524, 0, none⟩ = some (.slice Ao32 t513.length co32) := (blk_cell BK524.out 0).trans rfl
                      have hcz51_1 : w41.cell? ⟨gb524, 1, none⟩ = some (.int .i64 t516) := (blk_cell BK524.out 1).trans rfl
                      have hcz51_2 : w41.cell? ⟨gb524, 2, none⟩ = some (.slice Ao36 t517.length co36) := (blk_cell BK524.out 2).trans rfl
                      have hcz51_3 : w41.cell? ⟨gb524, 3, none⟩ = some (.int .i64 t520) := (blk_cell BK524.out 3).trans rfl
                      have hcz51_4 : w41.cell? ⟨gb524, 4, none⟩ = some (.slice Ao37 t521.length co37) := (blk_cell BK524.out 4).trans rfl
                      have hfz51_0 := blk_frozen BK524.out 0
                      have hfz51_1 := blk_frozen BK524.out 1
                      have hfz51_2 := blk_frozen BK524.out 2
                      have hfz51_3 := blk_frozen BK524.out 3
                      have hfz51_4 := blk_frozen BK524.out 4
                      go_wp2_with (first | ((with_reducible refine gate_callee (f := 26) rfl ?_); refine goesL_ (some 63) rfl rfl Try.func26 (by kernel_rfl) rfl #[.agg #[.slice Ao32 t513.length co32, .int .i64 t516, .slice Ao42 y526.length co42, .int .i64 t520, .slice Ao37 t521.length co37]] rfl (by (try simp only [List.map_toArray, List.map_cons, List.map_nil]); first | done | rfl | (simp only [List.length_drop, List.length_take]; rfl)) ?_; (with_reducible refine (strip_Out.calls _ _ t513 t516 _ _ y526 t520 _ _ t521 t530 t533 _ ?side1 ?side2 ?side3 ?side4 ?side5 ?side6 A45.out).mono ?_); (case side1 => refine (Kd.S_reads' (e := 50) (base := w.heap.size) (ok := fun k_ => (some k_ ≠ (.slice (some ad525) t507.length co40 : Value).ownBlock ∧ (some k_ ≠ (.slice Ao9 t491.length co9 : Value).ownBlock ∧ (some k_ ≠ (.slice Ao13 t499.length co13 : Value).ownBlock ∧ some k_ ≠ (.slice Ao37 t521.length co37 : Value).ownBlock)))) (n := t513.length) (c := co32) ?_).2.2; exact (by (with_reducible repeat (first | apply Kd.S_alloc | apply Kd.S_drewN | apply Kd.S_drew)); exact (Kd.S_mono (Kd.S_far (p := ⟨gb524, 2, none⟩) (Kd.S_types HO515.out BK524.out (by decide)) (fun _ hk => hk.2) (.slice Ao42 y526.length co42)) (fun _ h_ => h_.1)))); (case side2 => exact (Kd.S_reads' HO515.out).2.1); (case side3 => refine (Kd.R_reads' (e := 61) (base := w.heap.size) (ok := fun k_ => some k_ ≠ (.slice Ao12 t495.length co12 : Value).ownBlock) (n := y526.length) (c := co42) ?_).2.2; exact (by (with_reducible repeat (first | apply Kd.R_alloc | apply Kd.R_drewN | apply Kd.R_drew)); exact (Kd.R_mono (Kd.R_far (p := ⟨gb524, 2, none⟩) (Kd.R_types HO528.out BK524.out (by decide)) (fun _ hk => hk.2) (.slice Ao42 y526.length co42)) (fun _ h_ => h_.1)))); (case side4 => exact (Kd.R_reads' HO528.out).2.1); (case side5 => refine (Kd.R_reads' (e := 3) (base := w.heap.size) (ok := fun k_ => (some k_ ≠ (.slice (some ad525) t507.length co40 : Value).ownBlock ∧ some k_ ≠ (.slice Ao13 t499.length co13 : Value).ownBlock)) (n := t521.length) (c := co37) ?_).2.2; exact (by (with_reducible repeat (first | apply Kd.R_alloc | apply Kd.R_drewN | apply Kd.R_drew)); exact (Kd.R_mono (Kd.R_far (p := ⟨gb524, 2, none⟩) (Kd.R_types HO523.out BK524.out (by decide)) (fun _ hk => hk.2) (.slice Ao42 y526.length co42)) (fun _ h_ => h_.1)))); (case side6 => exact (Kd.R_reads' HO523.out).2.1); rintro e w52 ⟨v531, rfl, ho0, hb⟩; refine ⟨_, rfl, ?_⟩; have n0_ := Aside0.mk (Kd.R_elder' (by (with_reducible repeat (first | apply Kd.R_alloc | apply Kd.R_drewN | apply Kd.R_drew)); exact (Kd.R_mono (Kd.R_far (p := ⟨gb524, 2, none⟩) (Kd.R_types HO_6.out BK524.out (by decide)) (fun _ hk => hk.2) (.slice Ao42 y526.length co42)) (fun _ h_ => h_.1))) (Kd.R_base ho0) hb); have n1_ := Aside0.mk (Kd.S_elder' (by (with_reducible repeat (first | apply Kd.S_alloc | apply Kd.S_drewN | apply Kd.S_drew)); exact (Kd.S_mono (Kd.S_far (p := ⟨gb524, 2, none⟩) (Kd.S_types HO_507000.out BK524.out (by decide)) (fun _ hk => hk.2) (.slice Ao42 y526.length co42)) (fun _ h_ => h_.1))) (Kd.R_base ho0) hb); have n2_ := Aside0.mk (Kd.R_below (by (with_reducible repeat (first | apply Kd.R_alloc | apply Kd.R_drewN | apply Kd.R_drew)); exact (Kd.R_mono (Kd.R_far (p := ⟨gb524, 2, none⟩) (Kd.R_types HO_507002.out BK524.out (by decide)) (fun _ hk => hk.2) (.slice Ao42 y526.length co42)) (fun _ h_ => h_.1))) hb); have n3_ := Aside0.mk (Kd.R_elder' (by (with_reducible repeat (first | apply Kd.R_alloc | apply Kd.R_drewN | apply Kd.R_drew)); exact (Kd.R_mono (Kd.R_far (p := ⟨gb524, 2, none⟩) (Kd.R_types HO_507004.out BK524.out (by decide)) (fun _ hk => hk.2) (.slice Ao42 y526.length co42)) (fun _ h_ => h_.1))) (Kd.R_base ho0) hb); have n4_ := Aside0.mk (Kd.S_elder' (by (with_reducible repeat (first | apply Kd.S_alloc | apply Kd.S_drewN | apply Kd.S_drew)); exact (Kd.S_mono (Kd.S_far (p := ⟨gb524, 2, none⟩) (Kd.S_types HO515.out BK524.out (by decide)) (fun _ hk => hk.2) (.slice Ao42 y526.length co42)) (fun _ h_ => h_.1))) (Kd.R_base ho0) hb); have n5_ := Aside0.mk (Kd.R_elder' (by (with_reducible repeat (first | apply Kd.R_alloc | apply Kd.R_drewN | apply Kd.R_drew)); exact (Kd.R_mono (Kd.R_far (p := ⟨gb524, 2, none⟩) (Kd.R_types HO523.out BK524.out (by decide)) (fun _ hk => hk.2) (.slice Ao42 y526.length co42)) (fun _ h_ => h_.1))) (Kd.R_base ho0) hb); have n6_ := Aside0.mk (Kd.R_below (by (with_reducible repeat (first | apply Kd.R_alloc | apply Kd.R_drewN | apply Kd.R_drew)); exact (Kd.R_mono (Kd.R_far (p := ⟨gb524, 2, none⟩) (Kd.R_types HO528.out BK524.out (by decide)) (fun _ hk => hk.2) (.slice Ao42 y526.length co42)) (fun _ h_ => h_.1))) hb); have n7_ := Aside0.mk (Kd.R_lower (Kd.R_new' (Kd.R_new' (Kd.R_new' ho0 (Kd.R_lt (by (with_reducible repeat (first | apply Kd.R_alloc | apply Kd.R_drewN | apply Kd.R_drew)); exact (Kd.R_mono (Kd.R_far (p := ⟨gb524, 2, none⟩) (Kd.R_types HO_6.out BK524.out (by decide)) (fun _ hk => hk.2) (.slice Ao42 y526.length co42)) (fun _ h_ => h_.1))))) (Kd.R_lt (by (with_reducible repeat (first | apply Kd.R_alloc | apply Kd.R_drewN | apply Kd.R_drew)); exact (Kd.R_mono (Kd.R_far (p := ⟨gb524, 2, none⟩) (Kd.R_types HO_507004.out BK524.out (by decide)) (fun _ hk => hk.2) (.slice Ao42 y526.length co42)) (fun _ h_ => h_.1))))) (Kd.R_lt (by (with_reducible repeat (first | apply Kd.R_alloc | apply Kd.R_drewN | apply Kd.R_drew)); exact (Kd.R_mono (Kd.R_far (p := ⟨gb524, 2, none⟩) (Kd.R_types HO523.out BK524.out (by decide)) (fun _ hk => hk.2) (.slice Ao42 y526.length co42)) (fun _ h_ => h_.1))))) (below_size (by repeat (first | (with_reducible first | exact HB.out | apply below_alloc | apply pw_below_drewN | apply below_drew1 | refine below_set ?_ (IsS79.ge HI490.out) | refine below_set ?_ GE506.out | refine below_set ?_ GE524.out) | exact HB.out)))); have n8_ := Aside0.mk (blk_below (g := gb506) (o := .cells #[.slice Ao9 t491.length co9, .int .i64 t494, .slice Ao12 t495.length co12, .int .i64 t498, .slice Ao13 t499.length co13] 26 (0, 0)) (by (with_reducible repeat (first | refine blk_drewN ?_ _ | refine blk_drew ?_ | refine blk_alloc ?_ _)); refine blk_far ?_ NB506_524.out _; (with_reducible repeat (first | refine blk_drewN ?_ _ | refine blk_drew ?_ | refine blk_alloc ?_ _)); exact BK506.out) hb); have n9_ := Aside0.mk (IsS79.below (show IsS79 w (w41.setCell ⟨gb524, 2, none⟩ (.slice Ao42 y526.length co42)) g490 t512 from by repeat (first | (with_reducible first | exact HI490.out | apply IsS79.alloc | apply IsS79.drewN | apply IsS79.drew | apply IsS79.set_0 | refine IsS79.far ?_ NB490_506.out _ | refine IsS79.far ?_ NB490_524.out _) | exact HI490.out)) hb); have n10_ := Aside0.mk (blk_below (g := gb524) (o := .cells #[.slice Ao32 t513.length co32, .int .i64 t516, .slice Ao42 y526.length co42, .int .i64 t520, .slice Ao37 t521.length co37] 26 (0, 0)) (by (with_reducible repeat (first | refine blk_drewN ?_ _ | refine blk_drew ?_ | refine blk_alloc ?_ _)); refine blk_put (cs := #[.slice Ao32 t513.length co32, .int .i64 t516, .slice Ao36 t517.length co36, .int .i64 t520, .slice Ao37 t521.length co37]) ?_ 2 _ rfl; (with_reducible repeat (first | refine blk_drewN ?_ _ | refine blk_drew ?_ | refine blk_alloc ?_ _)); exact BK524.out) hb); have n11_ := Aside0.mk (below_step (by repeat (first | (with_reducible first | exact HB.out | apply below_alloc | apply pw_below_drewN | apply below_drew1 | refine below_set ?_ (IsS79.ge HI490.out) | refine below_set ?_ GE506.out | refine below_set ?_ GE524.out) | exact HB.out)) hb); clear HO_6; clear HO_507000; clear HO_507002; clear HO_507004; clear HO515; clear HO523; clear HO528; clear BK506; clear HI490; clear BK524; clear HB; have HO_6 := n0_; have HO_507000 := n1_; have HO_507002 := n2_; have HO_507004 := n3_; have HO515 := n4_; have HO523 := n5_; have HO528 := n6_; have HO532 := n7_; have BK506 := n8_; have HI490 := n9_; have BK524 := n10_; have HB := n11_; clear n0_ n1_ n2_ n3_ n4_ n5_ n6_ n7_ n8_ n9_ n10_ n11_; (try clear hb); (try clear hb2); (try clear hk); (try clear hi); (try clear ho0); obtain ⟨Ao53, co53, eo53⟩ := Kd.R_slice HO532.out; subst eo53) | (go_at_call 22; (with_reducible refine (swarfkit_EqualInts.calls kj4 _ _ t507 _ _ t530 true _ ?side1 ?side2 ?side3 ?side4 A47.out).mono ?_); (case side1 => repeat (first | exact (Kd.R_reads' HO_6.out).2.2 | (with_reducible refine Kd.C_alloc ?_ _) | (with_reducible refine Kd.C_drewN ?_ _) | (with_reducible refine Kd.C_drew ?_))); (case side2 => exact (Kd.R_reads' HO_6.out).2.1); (case side3 => repeat (first | exact (Kd.R_reads' HO532.out).2.2 | (with_reducible refine Kd.C_alloc ?_ _) | (with_reducible refine Kd.C_drewN ?_ _) | (with_reducible refine Kd.C_drew ?_))); (case side4 => exact (Kd.R_reads' HO532.out).2.1); rintro e w' ⟨rfl, ⟨nd, rfl⟩⟩))
                      go_meet
                      case rel => exact ⟨_, H', ⟨by have := HJ4.out; first | omega | exact Nat.le_refl _⟩, ⟨by (with_reducible repeat (first | apply Kd.R_alloc | apply Kd.R_drewN | apply Kd.R_drew)); exact Kd.R_mono HO_6.out (fun _ hk => ⟨hk.1.1, hk.1.2⟩)⟩, ⟨by (with_reducible repeat (first | apply Kd.S_alloc | apply Kd.S_drewN | apply Kd.S_drew)); exact Kd.S_mono HO_507000.out (fun _ hk => ⟨hk.1.1, ⟨hk.1.2.1, ⟨hk.1.2.2.1, hk.1.2.2.2⟩⟩⟩)⟩, ⟨by (with_reducible repeat (first | apply Kd.R_alloc | apply Kd.R_drewN | apply Kd.R_drew)); exact Kd.R_mono HO_507002.out (fun _ hk => hk.2)⟩, ⟨by (with_reducible repeat (first | apply Kd.R_alloc | apply Kd.R_drewN | apply Kd.R_drew)); exact Kd.R_mono HO_507004.out (fun _ hk => ⟨hk.1.1, hk.1.2⟩)⟩, ⟨by (with_reducible repeat (first | apply Kd.S_alloc | apply Kd.S_drewN | apply Kd.S_drew)); exact Kd.S_mono HO515.out (fun _ hk => ⟨hk.1.1, ⟨hk.1.2.1, ⟨hk.1.2.2.1, hk.1.2.2.2⟩⟩⟩)⟩, ⟨by (with_reducible repeat (first | apply Kd.R_alloc | apply Kd.R_drewN | apply Kd.R_drew)); exact HO528.out⟩, ⟨by (with_reducible repeat (first | apply Kd.R_alloc | apply Kd.R_drewN | apply Kd.R_drew)); exact Kd.R_mono HO523.out (fun _ hk => ⟨hk.1.1, hk.1.2⟩)⟩, ⟨by (with_reducible repeat (first | refine blk_drewN ?_ _ | refine blk_drew ?_ | refine blk_alloc ?_ _)); exact BK506.out⟩, ⟨by (with_reducible repeat (first | refine blk_drewN ?_ _ | refine blk_drew ?_ | refine blk_alloc ?_ _)); exact BK524.out⟩, ⟨by repeat (first | (with_reducible first | exact HI490.out | apply IsS79.alloc | apply IsS79.drewN | apply IsS79.drew | apply IsS79.set_0 | refine IsS79.far ?_ NB490_506.out _ | refine IsS79.far ?_ NB490_524.out _) | exact HI490.out)⟩, ⟨by repeat (first | (with_reducible first | exact HB.out | apply below_alloc | apply pw_below_drewN | apply below_drew1 | refine below_set ?_ (IsS79.ge HI490.out) | refine below_set ?_ GE506.out | refine below_set ?_ GE524.out) | exact HB.out)⟩⟩
                    · replace c48 := Bool.eq_false_iff.mpr c48
                      subst c48
                      have H1 : (some false) = some r := by rw [if_neg (show ¬ (false = true) by decide)] at H; exact H
                      clear H
                      have H := H1
                      clear H1
                      exact absurd ((Option.some.inj H).trans hrt.out) (by decide)
                  · rw [if_neg c46] at H
                    have c46b0 : (t533 == 0) = false := beq_eq_false_iff_ne.mpr c46
                    have c46b1 : (t533 != 0) = true := bne_iff_ne.mpr c46
                    exact absurd ((Option.some.inj H).trans hrt.out) (by decide)
              case rest =>
                clear HC25
                try clear c1
                try clear c2
                try clear p2
                try clear c3
                try clear c4
                try clear c5
                try clear p5
                try clear q5
                try clear hx5
                try clear c6
                try clear c7
                try clear c10
                try clear c15
                try clear c15b0
                try clear c15b1
                try clear c17
                try clear c18
                try clear c19
                try clear c22
                try clear c22b0
                try clear c23
                try clear c23b0
                try clear c24
                try clear c25
                try clear c26
                try clear c33
                try clear c34
                try clear c44
                try clear c44b0
                try clear c44b1
                try clear c46
                try clear c46b0
                try clear c46b1
                try clear c48
                try clear c49
                try clear c50
                try clear p52
                try clear q52
                try clear hx52
                try clear c54
                try clear c55
                try clear c59
                try clear c60
                try clear hcz11_0
                try clear hcz11_1
                try clear hcz11_2
                try clear hcz11_3
                try clear hcz11_4
                try clear hcz18_0
                try clear hcz18_1
                try clear hcz18_2
                try clear hcz18_3
                try clear hcz18_4
                try clear hcz27_0
                try clear hcz27_1
                try clear hcz27_2
                try clear hcz27_3
                try clear hcz27_4
                try clear hcz29_0
                try clear hcz29_1
                try clear hcz29_2
                try clear hcz29_3
                try clear hcz29_4
                try clear hcz35_0
                try clear hcz35_1
                try clear hcz35_2
                try clear hcz35_3
                try clear hcz35_4
                try clear hcz51_0
                try clear hcz51_1
                try clear hcz51_2
                try clear hcz51_3
                try clear hcz51_4
                try clear hcz56_0
                try clear hcz56_1
                try clear hcz56_2
                try clear hcz56_3
                try clear hcz56_4
                try clear hcz61_0
                try clear hcz61_1
                try clear hcz61_2
                try clear hcz61_3
                try clear hcz61_4
                try clear hfz11_0
                try clear hfz11_1
                try clear hfz11_2
                try clear hfz11_3
                try clear hfz11_4
                try clear hfz18_0
                try clear hfz18_1
                try clear hfz18_2
                try clear hfz18_3
                try clear hfz18_4
                try clear hfz27_0
                try clear hfz27_1
                try clear hfz27_2
                try clear hfz27_3
                try clear hfz27_4
                try clear hfz29_0
                try clear hfz29_1
                try clear hfz29_2
                try clear hfz29_3
                try clear hfz29_4
                try clear hfz35_0
                try clear hfz35_1
                try clear hfz35_2
                try clear hfz35_3
                try clear hfz35_4
                try clear hfz51_0
                try clear hfz51_1
                try clear hfz51_2
                try clear hfz51_3
                try clear hfz51_4
                try clear hfz56_0
                try clear hfz56_1
                try clear hfz56_2
                try clear hfz56_3
                try clear hfz56_4
                try clear hfz61_0
                try clear hfz61_1
                try clear hfz61_2
                try clear hfz61_3
                try clear hfz61_4
                try clear hx525_0
                try clear hx529_0
                try clear p2
                try clear p525
                try clear p529
                try clear q525
                try clear q529
                obtain ⟨kq, HA, HJ24, HO_6, HO_507000, HO_507002, HO_507004, HO_525000, HO_525002, HO_525004, BK506, BK524, HI490, HB⟩ := hcut
                cases kq with
                | zero => exact absurd HA.out (by simp [swarflaw04_StripMore.j1])
                | succ kj24 =>
                  have H := HA.out
                  clear HA
                  simp only [swarflaw04_StripMore.j1] at H
                  replace H := Option.bind_eq_some_iff.mp H
                  obtain ⟨⟨t535, t536⟩, A630, H⟩ := H
                  replace H : (if 0 ≤ (wrap64 ((y526.length : Int) - 1)) then (if (wrap64 ((y526.length : Int) - 1)) < (y526.length : Int) then ((strip_Out.f t513 t516 (y526.set ((wrap64 ((y526.length : Int) - 1)) : Int).toNat (⟨(rd_T61 y526 (wrap64 ((y526.length : Int) - 1))).f0, t535⟩ : S61)) (mn 12 (wrap64 (t520 + 1))) t521).bind fun bt538 => (if bt538.2 = 0 then (swarflaw04_StripMore.j2 kj24 t507 bt538.1 ((bt538.1.length : Int) != (t507.length : Int))) else (swarflaw04_StripMore.j2 kj24 t507 bt538.1 true))) else (none)) else (none)) = some r := H
                  have A63 := Aside0.mk A630
                  clear A630
                  obtain ⟨ji64, hji64⟩ : ∃ j_ : Int, (wrap64 ((y526.length : Int) - 1)) = j_ := ⟨_, rfl⟩
                  replace H : (if 0 ≤ (ji64) then (if (ji64) < (y526.length : Int) then ((strip_Out.f t513 t516 (y526.set ((ji64) : Int).toNat (⟨(rd_T61 y526 (ji64)).f0, t535⟩ : S61)) (mn 12 (wrap64 (t520 + 1))) t521).bind fun bt538 => (if bt538.2 = 0 then (swarflaw04_StripMore.j2 kj24 t507 bt538.1 ((bt538.1.length : Int) != (t507.length : Int))) else (swarflaw04_StripMore.j2 kj24 t507 bt538.1 true))) else (none)) else (none)) = some r := by first | (rw [hji64] at H; exact H) | (simp only [hji64] at H ⊢; exact H)
                  (try rw [hji64] at A63)
                  have hji64w : (IntKind.i64.wrap ((y526.length : Int) - 1)) = ji64 := (i64_w _).trans hji64
                  by_cases c65 : 0 ≤ (ji64)
                  · rw [if_pos c65] at H
                    have c65b0 : decide (0 ≤ (ji64)) = true := decide_eq_true c65
                    clear c65
                    by_cases c66 : (ji64) < (y526.length : Int)
                    · rw [if_pos c66] at H
                      have c66b0 : decide ((ji64) < (y526.length : Int)) = true := decide_eq_true c66
                      clear c66
                      obtain ⟨y537, hy537⟩ : ∃ y_ : List (S61), y_ = (y526.set ((ji64) : Int).toNat (⟨(rd_T61 y526 (ji64)).f0, t535⟩ : S61)) := ⟨_, rfl⟩
                      replace H : ((strip_Out.f t513 t516 y537 (mn 12 (wrap64 (t520 + 1))) t521).bind fun bt538 => (if bt538.2 = 0 then (swarflaw04_StripMore.j2 kj24 t507 bt538.1 ((bt538.1.length : Int) != (t507.length : Int))) else (swarflaw04_StripMore.j2 kj24 t507 bt538.1 true))) = some r := by first | (rw [hy537]; with_reducible exact H) | (have H2_ := (Option.bind_some _ _).symm.trans H; rw [hy537]; with_reducible exact H2_) | (have H2_ := (Option.bind_some _ _).symm.trans H; with_reducible exact H2_) | with_reducible exact H | (rw [hy537]; exact H) | exact H
                      have Ny537 := Aside0.mk hy537
                      clear hy537
                      obtain ⟨ji68, hji68⟩ : ∃ j_ : Int, (mn 12 (wrap64 (t520 + 1))) = j_ := ⟨_, rfl⟩
                      replace H : ((strip_Out.f t513 t516 y537 (ji68) t521).bind fun bt538 => (if bt538.2 = 0 then (swarflaw04_StripMore.j2 kj24 t507 bt538.1 ((bt538.1.length : Int) != (t507.length : Int))) else (swarflaw04_StripMore.j2 kj24 t507 bt538.1 true))) = some r := by first | (rw [hji68] at H; exact H) | (simp only [hji68] at H ⊢; exact H)
                      (try rw [hji68] at A63)
                      have hji68_ : (if (wrap64 (t520 + 1)) < 12 then (wrap64 (t520 + 1)) else 12) = ji68 := hji68
                      replace H := Option.bind_eq_some_iff.mp H
                      obtain ⟨⟨t538, t541⟩, A690, H⟩ := H
                      replace H : (if t541 = 0 then (swarflaw04_StripMore.j2 kj24 t507 t538 ((t538.length : Int) != (t507.length : Int))) else (swarflaw04_StripMore.j2 kj24 t507 t538 true)) = some r := H
                      have A69 := Aside0.mk A690
                      clear A690
                      have HC70 := Aside0.mk H
                      clear H
                      try go_wp2
                      have n0_ := Aside0.mk (Kd.R_drew HO_6.out)
                      have n1_ := Aside0.mk (Kd.S_drew HO_507000.out)
                      have n2_ := Aside0.mk (Kd.R_drew HO_507002.out)
                      have n3_ := Aside0.mk (Kd.R_drew HO_507004.out)
                      have n4_ := Aside0.mk (Kd.S_drew HO_525000.out)
                      have n5_ := Aside0.mk (Kd.R_drew HO_525002.out)
                      have n6_ := Aside0.mk (Kd.R_drew HO_525004.out)
                      have n7_ := Aside0.mk (blk_drew BK506.out)
                      have n8_ := Aside0.mk (blk_drew BK524.out)
                      have n9_ := Aside0.mk (IsS79.drew HI490.out)
                      have n10_ := Aside0.mk (below_drew1 HB.out)
                      clear HO_6
                      clear HO_507000
                      clear HO_507002
                      clear HO_507004
                      clear HO_525000
                      clear HO_525002
                      clear HO_525004
                      clear BK506
                      clear BK524
                      clear HI490
                      clear HB
                      have HO_6 := n0_
                      have HO_507000 := n1_
                      have HO_507002 := n2_
                      have HO_507004 := n3_
                      have HO_525000 := n4_
                      have HO_525002 := n5_
                      have HO_525004 := n6_
                      have BK506 := n7_
                      have BK524 := n8_
                      have HI490 := n9_
                      have HB := n10_
                      clear n0_ n1_ n2_ n3_ n4_ n5_ n6_ n7_ n8_ n9_ n10_
                      refine start_ (n := 11) (S := fun w' => w'.cell? ⟨gb524, 0, none⟩ = some (.slice Ao32 t513.length co32) ∧ w'.cell? ⟨gb524, 1, none⟩ = some (.int .i64 t516) ∧ w'.cell? ⟨gb524, 2, none⟩ = some (.slice Ao42 y526.length co42) ∧ w'.cell? ⟨gb524, 3, none⟩ = some (.int .i64 t520) ∧ w'.cell? ⟨gb524, 4, none⟩ = some (.slice Ao37 t521.length co37)) (ds := [10]) #[false, false, false, false, false, false, false, false, false, false, false] (by kernel_rfl) rfl rfl ⟨(blk_cell BK524.out 0).trans rfl, (blk_cell BK524.out 1).trans rfl, (blk_cell BK524.out 2).trans rfl, (blk_cell BK524.out 3).trans rfl, (blk_cell BK524.out 4).trans rfl⟩ (fun hHeld => ?_); refine with_tabW swarflaw04_StripMore.tab13 swarflaw04_StripMore.bits13 (fun HT_ HW_ => ?_)
                      generalize wc.drew = w71 at HO_6 HO_507000 HO_507002 HO_507004 HO_525000 HO_525002 HO_525004 BK506 BK524 HI490 HB hHeld ⊢
                      refine pure_ (i := 0) (N := some 74) (v := ?_) (a' := ?_) #[true, false, false, false, false, false, false, false, false, false, false] rfl rfl (any_of HT_.out (by kernel_rfl)) (fun _ _ _ h => h) (Or.inl ⟨by rfl, ?_⟩) ?_ ?_
                      rotate_left
                      · intro w'
                        go_simp
                        with_reducible rfl
                      rotate_left
                      · simp only [Act.put, List.setIfInBounds_toArray, List.set_cons_zero, List.set_cons_succ, i64_w, i32_w]
                        rfl
                      refine pure_ (i := 2) (N := some 76) (v := ?_) (a' := ?_) #[true, false, true, false, false, false, false, false, false, false, false] rfl rfl (any_of HT_.out (by kernel_rfl)) (fun _ _ _ h => h) (Or.inl ⟨by rfl, ?_⟩) ?_ ?_
                      rotate_left
                      · intro w'
                        go_simp
                        with_reducible rfl
                      rotate_left
                      · simp only [Act.put, List.setIfInBounds_toArray, List.set_cons_zero, List.set_cons_succ, i64_w, i32_w]
                        rfl
                      refine pure_ (i := 6) (N := some 80) (v := ?_) (a' := ?_) #[true, false, true, false, false, false, true, false, false, false, false] rfl rfl (any_of HT_.out (by kernel_rfl)) (fun _ _ _ h => h) (Or.inl ⟨by rfl, ?_⟩) ?_ ?_
                      rotate_left
                      · intro w'
                        go_simp
                        with_reducible rfl
                      rotate_left
                      · simp only [Act.put, List.setIfInBounds_toArray, List.set_cons_zero, List.set_cons_succ, i64_w, i32_w]
                        rfl
                      refine take_ (i := 1) (N := some 75) (v := ?_) (a' := ?_) #[true, true, true, false, false, false, true, false, false, false, false] rfl rfl (take_ofW HT_.out HW_.out (by kernel_rfl)) (fun _ _ _ h => h) (Or.inl ⟨by rfl, ?_⟩) hHeld ?_ ?_
                      rotate_left
                      · rintro w' ⟨s0, s1, s2, s3, s4⟩
                        go_simp
                        with_reducible rfl
                      rotate_left
                      · simp only [Act.put, List.setIfInBounds_toArray, List.set_cons_zero, List.set_cons_succ, i64_w, i32_w]
                        rfl
                      refine take_ (i := 3) (N := some 77) (v := ?_) (a' := ?_) #[true, true, true, true, false, false, true, false, false, false, false] rfl rfl (take_ofW HT_.out HW_.out (by kernel_rfl)) (fun _ _ _ h => h) (Or.inl ⟨by rfl, ?_⟩) hHeld ?_ ?_
                      rotate_left
                      · rintro w' ⟨s0, s1, s2, s3, s4⟩
                        go_simp
                        with_reducible rfl
                      rotate_left
                      · simp only [Act.put, List.setIfInBounds_toArray, List.set_cons_zero, List.set_cons_succ, i64_w, i32_w]
                        rfl
                      refine pure_ (i := 4) (N := some 78) (v := ?_) (a' := ?_) #[true, true, true, true, true, false, true, false, false, false, false] rfl rfl (any_of HT_.out (by kernel_rfl)) (fun _ _ _ h => h) (Or.inl ⟨by rfl, ?_⟩) ?_ ?_
                      rotate_left
                      · intro w'
                        go_simp
                        with_reducible rfl
                      rotate_left
                      · simp only [Act.put, List.setIfInBounds_toArray, List.set_cons_zero, List.set_cons_succ, i64_w, i32_w]
                        rfl
                      refine pure_ (i := 5) (N := some 79) (v := ?_) (a' := ?_) #[true, true, true, true, true, true, true, false, false, false, false] rfl rfl (any_of HT_.out (by kernel_rfl)) (fun _ _ _ h => h) (Or.inl ⟨by rfl, ?_⟩) ?_ ?_
                      rotate_left
                      · intro w'
                        go_simp
                        with_reducible rfl
                      rotate_left
                      · simp only [Act.put, List.setIfInBounds_toArray, List.set_cons_zero, List.set_cons_succ, i64_w, i32_w]
                        rfl
                      refine one_ (i := 7) (N := some 81) #[true, true, true, true, true, true, true, true, false, false, false] rfl rfl (one_of HT_.out (by kernel_rfl)) (by decide) (fun K hK => ?_)
                      refine goes_ Try.func35 (by kernel_rfl) rfl #[.pointer (some ⟨g490, 0, none⟩), .int .i64 1, .int .i64 2] (by rfl) rfl rfl (by (try simp only [List.map_toArray, List.map_cons, List.map_nil]); first | done | rfl | (simp only [List.length_drop, List.length_take]; rfl)) ?_
                      with_reducible refine (swarfkit_Feed_Often.calls g490 t512 1 2 t535 t536 w _ ?side1 ?side2 A63.out).mono ?_
                      (case side1 => repeat (first | (with_reducible first | exact HI490.out | apply IsS79.alloc | apply IsS79.drewN | apply IsS79.drew | apply IsS79.set_0 | refine IsS79.far ?_ NB490_506.out _ | refine IsS79.far ?_ NB490_524.out _) | exact HI490.out))
                      (case side2 => repeat (first | (with_reducible first | exact HB.out | apply below_alloc | apply pw_below_drewN | apply below_drew1 | refine below_set ?_ (IsS79.ge HI490.out) | refine below_set ?_ GE506.out | refine below_set ?_ GE524.out) | exact HB.out))
                      rintro e w72 ⟨rfl, hi, hb, hk⟩
                      refine ⟨_, rfl, ?_⟩
                      have n0_ := Aside0.mk (Kd.R_mono (Kd.R_keep (IsS79.apart (show IsS79 w _ g490 t512 from by repeat (first | (with_reducible first | exact HI490.out | apply IsS79.alloc | apply IsS79.drewN | apply IsS79.drew | apply IsS79.set_0 | refine IsS79.far ?_ NB490_506.out _ | refine IsS79.far ?_ NB490_524.out _) | exact HI490.out)) (by (with_reducible repeat (first | apply Kd.R_alloc | apply Kd.R_drewN | apply Kd.R_drew)); exact HO_6.out) (by decide)) hk (fun _ h => h.2)) (fun _ h => h.1))
                      have n1_ := Aside0.mk (Kd.S_mono (Kd.S_keep (IsS79.apartS (show IsS79 w _ g490 t512 from by repeat (first | (with_reducible first | exact HI490.out | apply IsS79.alloc | apply IsS79.drewN | apply IsS79.drew | apply IsS79.set_0 | refine IsS79.far ?_ NB490_506.out _ | refine IsS79.far ?_ NB490_524.out _) | exact HI490.out)) (by (with_reducible repeat (first | apply Kd.S_alloc | apply Kd.S_drewN | apply Kd.S_drew)); exact HO_507000.out) (by decide)) hk (fun _ h => h.2)) (fun _ h => h.1))
                      have n2_ := Aside0.mk (Kd.R_mono (Kd.R_keep (IsS79.apart (show IsS79 w _ g490 t512 from by repeat (first | (with_reducible first | exact HI490.out | apply IsS79.alloc | apply IsS79.drewN | apply IsS79.drew | apply IsS79.set_0 | refine IsS79.far ?_ NB490_506.out _ | refine IsS79.far ?_ NB490_524.out _) | exact HI490.out)) (by (with_reducible repeat (first | apply Kd.R_alloc | apply Kd.R_drewN | apply Kd.R_drew)); exact HO_507002.out) (by decide)) hk (fun _ h => h.2)) (fun _ h => h.1))
                      have n3_ := Aside0.mk (Kd.R_mono (Kd.R_keep (IsS79.apart (show IsS79 w _ g490 t512 from by repeat (first | (with_reducible first | exact HI490.out | apply IsS79.alloc | apply IsS79.drewN | apply IsS79.drew | apply IsS79.set_0 | refine IsS79.far ?_ NB490_506.out _ | refine IsS79.far ?_ NB490_524.out _) | exact HI490.out)) (by (with_reducible repeat (first | apply Kd.R_alloc | apply Kd.R_drewN | apply Kd.R_drew)); exact HO_507004.out) (by decide)) hk (fun _ h => h.2)) (fun _ h => h.1))
                      have n4_ := Aside0.mk (Kd.S_mono (Kd.S_keep (IsS79.apartS (show IsS79 w _ g490 t512 from by repeat (first | (with_reducible first | exact HI490.out | apply IsS79.alloc | apply IsS79.drewN | apply IsS79.drew | apply IsS79.set_0 | refine IsS79.far ?_ NB490_506.out _ | refine IsS79.far ?_ NB490_524.out _) | exact HI490.out)) (by (with_reducible repeat (first | apply Kd.S_alloc | apply Kd.S_drewN | apply Kd.S_drew)); exact HO_525000.out) (by decide)) hk (fun _ h => h.2)) (fun _ h => h.1))
                      have n5_ := Aside0.mk (Kd.R_mono (Kd.R_keep (IsS79.apart (show IsS79 w _ g490 t512 from by repeat (first | (with_reducible first | exact HI490.out | apply IsS79.alloc | apply IsS79.drewN | apply IsS79.drew | apply IsS79.set_0 | refine IsS79.far ?_ NB490_506.out _ | refine IsS79.far ?_ NB490_524.out _) | exact HI490.out)) (by (with_reducible repeat (first | apply Kd.R_alloc | apply Kd.R_drewN | apply Kd.R_drew)); exact HO_525002.out) (by decide)) hk (fun _ h => h.2)) (fun _ h => h.1))
                      have n6_ := Aside0.mk (Kd.R_mono (Kd.R_keep (IsS79.apart (show IsS79 w _ g490 t512 from by repeat (first | (with_reducible first | exact HI490.out | apply IsS79.alloc | apply IsS79.drewN | apply IsS79.drew | apply IsS79.set_0 | refine IsS79.far ?_ NB490_506.out _ | refine IsS79.far ?_ NB490_524.out _) | exact HI490.out)) (by (with_reducible repeat (first | apply Kd.R_alloc | apply Kd.R_drewN | apply Kd.R_drew)); exact HO_525004.out) (by decide)) hk (fun _ h => h.2)) (fun _ h => h.1))
                      have n7_ := Aside0.mk (KeepBut.blk hk (g' := gb506) (o := .cells #[.slice Ao9 t491.length co9, .int .i64 t494, .slice Ao12 t495.length co12, .int .i64 t498, .slice Ao13 t499.length co13] 26 (0, 0)) (by (with_reducible repeat (first | refine blk_drewN ?_ _ | refine blk_drew ?_ | refine blk_alloc ?_ _)); exact BK506.out) NB506_490.out (by simp))
                      have n8_ := Aside0.mk (KeepBut.blk hk (g' := gb524) (o := .cells #[.slice Ao32 t513.length co32, .int .i64 t516, .slice Ao42 y526.length co42, .int .i64 t520, .slice Ao37 t521.length co37] 26 (0, 0)) (by (with_reducible repeat (first | refine blk_drewN ?_ _ | refine blk_drew ?_ | refine blk_alloc ?_ _)); exact BK524.out) NB524_490.out (by simp))
                      have n9_ := Aside0.mk (hb)
                      have n10_ := Aside0.mk (hi)
                      clear HO_6
                      clear HO_507000
                      clear HO_507002
                      clear HO_507004
                      clear HO_525000
                      clear HO_525002
                      clear HO_525004
                      clear BK506
                      clear BK524
                      clear HB
                      clear HI490
                      have HO_6 := n0_
                      have HO_507000 := n1_
                      have HO_507002 := n2_
                      have HO_507004 := n3_
                      have HO_525000 := n4_
                      have HO_525002 := n5_
                      have HO_525004 := n6_
                      have BK506 := n7_
                      have BK524 := n8_
                      have HB := n9_
                      have HI490 := n10_
                      clear n0_ n1_ n2_ n3_ n4_ n5_ n6_ n7_ n8_ n9_ n10_
                      (try clear hb)
                      (try clear hb2)
                      (try clear hk)
                      (try clear hi)
                      have p67 : 0 ≤ ((ji64) : Int) := of_decide_eq_true (by first | (with_reducible assumption) | assumption)
                      have q67 : ((ji64) : Int) < ((y526.length : Int) : Int) := of_decide_eq_true (by first | (with_reducible assumption) | assumption)
                      obtain ⟨go67, co67, eo67, gb67, gl67, cl67, HG67⟩ := Kd.R_form HO_525002.out (by omega)
                      (first | cases eo67 | (injection eo67 with ea_ en_ ec_; (first | subst ea_ | (injection ea_ with ea_; subst ea_)); subst ec_; clear en_))
                      have GB67 := Aside0.mk gb67
                      have GG67 := Aside0.mk HG67
                      clear gb67 gl67 HG67
                      obtain ⟨ce67, hcl67, hM67, hcc67, hfr67⟩ := Kd.R_elem HO_525002.out z61 ((ji64) : Int) p67 q67
                      obtain rfl := k61_openM hM67
                      have hx67_0 : World.cell? _ ⟨go67, ((ji64) : Int).toNat * 2, none⟩ = some (.int .i64 ((rd_T61 y526 (ji64)).f0)) := hcc67 0 _ rfl
                      have hx67_1 : World.cell? _ ⟨go67, ((ji64) : Int).toNat * 2 + 1, none⟩ = some (.bool ((rd_T61 y526 (ji64)).f1)) := hcc67 1 _ rfl
                      have hf67_0 : World.frozen? _ ⟨go67, ((ji64) : Int).toNat * 2, none⟩ = false := hfr67 0
                      have hf67_1 : World.frozen? _ ⟨go67, ((ji64) : Int).toNat * 2 + 1, none⟩ = false := hfr67 1
                      clear hcl67 hcc67 hfr67 hM67
                      replace p67 := eq_true p67
                      replace q67 := eq_true q67
                      have HN490_go67 := Aside0.mk (show g490 ≠ go67 from by have h_ := IsS79.own_ne HI490.out HO_525002.out (by decide); intro e_; exact h_ (by rw [e_]; rfl))
                      obtain ⟨ce73, hcl73, hM73, hcc73, hfr73⟩ := Kd.R_elem HO_525002.out z61 ((ji64) : Int) (of_decide_eq_true (by first | (with_reducible assumption) | assumption)) (by have h_ : ((ji64) : Int) < ((y526.length : Int) : Int) := of_decide_eq_true (by first | (with_reducible assumption) | assumption); first | exact h_ | (have e_ := (Kd.R_reads' HO_525002.out).1; omega) | simpa using h_)
                      obtain rfl := k61_openM hM73
                      have HP73 := (Kd.R_seg HO_525002.out ((ji64) : Int) (of_decide_eq_true (by first | (with_reducible assumption) | assumption)) (by have h_ : ((ji64) : Int) < ((y526.length : Int) : Int) := of_decide_eq_true (by first | (with_reducible assumption) | assumption); first | exact h_ | (have e_ := (Kd.R_reads' HO_525002.out).1; omega) | simpa using h_) (seg := [.bool t535]) (j := 1) hcl73 hcc73 (show 2 ≤ 2 from by decide) (x' := (⟨(rd_T61 y526 (ji64)).f0, t535⟩ : S61)) (k61_mkM _ _ _ (⟨(rd_T61 y526 (ji64)).f0, t535⟩ : S61) ) (fun _ hk => hk)).1
                      rw [← Ny537.out] at HP73
                      have HQ73 := Aside0.mk HP73
                      clear hcl73 hcc73 hfr73 hM73 HP73
                      refine hK.out _ _ ⟨(blk_cell BK524.out 0).trans rfl, (blk_cell BK524.out 1).trans rfl, (blk_cell BK524.out 2).trans rfl, (blk_cell BK524.out 3).trans rfl, (blk_cell BK524.out 4).trans rfl⟩ (fun hHeld => ?_)
                      clear hK K
                      refine norm_ (a' := ?_) ?_ ?_
                      rotate_left
                      · show Act.put _ (some 81) _ = _
                        simp only [Act.put, List.setIfInBounds_toArray, List.set_cons_zero, List.set_cons_succ, i64_w, i32_w]
                        rfl
                      refine pure_ (i := 8) (N := some 82) (v := ?_) (a' := ?_) #[true, true, true, true, true, true, true, true, true, false, false] rfl rfl (any_of HT_.out (by kernel_rfl)) (fun _ _ _ h => h) (Or.inl ⟨by rfl, ?_⟩) ?_ ?_
                      rotate_left
                      · intro w'
                        go_simp
                        with_reducible rfl
                      rotate_left
                      · simp only [Act.put, List.setIfInBounds_toArray, List.set_cons_zero, List.set_cons_succ, i64_w, i32_w]
                        rfl
                      refine pure_ (i := 9) (N := some 83) (v := ?_) (a' := ?_) #[true, true, true, true, true, true, true, true, true, true, false] rfl rfl (any_of HT_.out (by kernel_rfl)) (fun _ _ _ h => h) (Or.inl ⟨by rfl, ?_⟩) ?_ ?_
                      rotate_left
                      · intro w'
                        go_simp
                        with_reducible rfl
                      rotate_left
                      · simp only [Act.put, List.setIfInBounds_toArray, List.set_cons_zero, List.set_cons_succ, i64_w, i32_w]
                        rfl
                      refine last_ (i := 10) (N := none) #[true, true, true, true, true, true, true, true, true, true, true] rfl rfl (one_of HT_.out (by kernel_rfl)) (by decide) (fun K hK => ?_)
                      refine skip_ (w1 := ?_) (by rfl) rfl ?_ ?_
                      rotate_left
                      · go_simp
                        rfl
                      refine hK.out _ _ ?_
                      clear hK K
                      refine done_ (done_of HT_.out (by kernel_rfl)) ?_
                      have n0_ : Aside0 (Kd.R (Kd.int .i64) 3 (w72.setCell ⟨go67, ((ji64) : Int).toNat * 2 + 1, none⟩ (.bool t535)) w.heap.size (fun k_ => some k_ ≠ (.slice Ao13 t499.length co13 : Value).ownBlock ∧ some k_ ≠ (.slice Ao37 t521.length co37 : Value).ownBlock) (.slice (some ad525) t507.length co40) t507) := ⟨by (with_reducible repeat (first | apply Kd.R_alloc | apply Kd.R_drewN | apply Kd.R_drew)); exact Kd.R_mono (Kd.R_far (p := ⟨go67, ((ji64) : Int).toNat * 2 + 1, none⟩) (Kd.R_types HO_6.out GG67.out (by decide)) (fun _ hk => hk.2) (.bool t535)) (fun _ hk => ⟨hk.1.1, hk.1.2⟩)⟩
                      have n1_ : Aside0 (Kd.S k50 50 (w72.setCell ⟨go67, ((ji64) : Int).toNat * 2 + 1, none⟩ (.bool t535)) w.heap.size (fun k_ => some k_ ≠ (.slice (some ad525) t507.length co40 : Value).ownBlock ∧ some k_ ≠ (.slice Ao13 t499.length co13 : Value).ownBlock ∧ some k_ ≠ (.slice Ao32 t513.length co32 : Value).ownBlock ∧ some k_ ≠ (.slice Ao37 t521.length co37 : Value).ownBlock) (.slice Ao9 t491.length co9) t491) := ⟨by (with_reducible repeat (first | apply Kd.S_alloc | apply Kd.S_drewN | apply Kd.S_drew)); exact Kd.S_mono (Kd.S_far (p := ⟨go67, ((ji64) : Int).toNat * 2 + 1, none⟩) (Kd.S_types HO_507000.out GG67.out (by decide)) (fun _ hk => hk.2) (.bool t535)) (fun _ hk => ⟨hk.1.1, ⟨hk.1.2.1, ⟨hk.1.2.2.1, hk.1.2.2.2⟩⟩⟩)⟩
                      have n2_ : Aside0 (Kd.R k61 61 (w72.setCell ⟨go67, ((ji64) : Int).toNat * 2 + 1, none⟩ (.bool t535)) w.heap.size (fun k_ => some k_ ≠ (.slice (some ⟨go67, 0, none⟩) y526.length co42 : Value).ownBlock) (.slice Ao12 t495.length co12) t495) := ⟨by (with_reducible repeat (first | apply Kd.R_alloc | apply Kd.R_drewN | apply Kd.R_drew)); exact Kd.R_mono (Kd.R_far (p := ⟨go67, ((ji64) : Int).toNat * 2 + 1, none⟩) (Kd.R_mono HO_507002.out (fun k_ hk => (⟨hk, fun e_ => hk (by rw [e_]; rfl)⟩ : _ ∧ k_ ≠ go67))) (fun _ hk => hk.2) (.bool t535)) (fun _ hk => hk.1)⟩
                      have n3_ : Aside0 (Kd.R (Kd.int .i64) 3 (w72.setCell ⟨go67, ((ji64) : Int).toNat * 2 + 1, none⟩ (.bool t535)) w.heap.size (fun k_ => some k_ ≠ (.slice (some ad525) t507.length co40 : Value).ownBlock ∧ some k_ ≠ (.slice Ao37 t521.length co37 : Value).ownBlock) (.slice Ao13 t499.length co13) t499) := ⟨by (with_reducible repeat (first | apply Kd.R_alloc | apply Kd.R_drewN | apply Kd.R_drew)); exact Kd.R_mono (Kd.R_far (p := ⟨go67, ((ji64) : Int).toNat * 2 + 1, none⟩) (Kd.R_types HO_507004.out GG67.out (by decide)) (fun _ hk => hk.2) (.bool t535)) (fun _ hk => ⟨hk.1.1, hk.1.2⟩)⟩
                      have n4_ : Aside0 (Kd.S k50 50 (w72.setCell ⟨go67, ((ji64) : Int).toNat * 2 + 1, none⟩ (.bool t535)) w.heap.size (fun k_ => some k_ ≠ (.slice (some ad525) t507.length co40 : Value).ownBlock ∧ some k_ ≠ (.slice Ao9 t491.length co9 : Value).ownBlock ∧ some k_ ≠ (.slice Ao13 t499.length co13 : Value).ownBlock ∧ some k_ ≠ (.slice Ao37 t521.length co37 : Value).ownBlock) (.slice Ao32 t513.length co32) t513) := ⟨by (with_reducible repeat (first | apply Kd.S_alloc | apply Kd.S_drewN | apply Kd.S_drew)); exact Kd.S_mono (Kd.S_far (p := ⟨go67, ((ji64) : Int).toNat * 2 + 1, none⟩) (Kd.S_types HO_525000.out GG67.out (by decide)) (fun _ hk => hk.2) (.bool t535)) (fun _ hk => ⟨hk.1.1, ⟨hk.1.2.1, ⟨hk.1.2.2.1, hk.1.2.2.2⟩⟩⟩)⟩
                      have n5_ : Aside0 (Kd.R k61 61 (w72.setCell ⟨go67, ((ji64) : Int).toNat * 2 + 1, none⟩ (.bool t535)) w.heap.size (fun k_ => some k_ ≠ (.slice Ao12 t495.length co12 : Value).ownBlock) (.slice (some ⟨go67, 0, none⟩) y526.length co42) y537) := ⟨by (with_reducible repeat (first | apply Kd.R_alloc | apply Kd.R_drewN | apply Kd.R_drew)); exact HQ73.out⟩
                      have n6_ : Aside0 (Kd.R (Kd.int .i64) 3 (w72.setCell ⟨go67, ((ji64) : Int).toNat * 2 + 1, none⟩ (.bool t535)) w.heap.size (fun k_ => some k_ ≠ (.slice (some ad525) t507.length co40 : Value).ownBlock ∧ some k_ ≠ (.slice Ao13 t499.length co13 : Value).ownBlock) (.slice Ao37 t521.length co37) t521) := ⟨by (with_reducible repeat (first | apply Kd.R_alloc | apply Kd.R_drewN | apply Kd.R_drew)); exact Kd.R_mono (Kd.R_far (p := ⟨go67, ((ji64) : Int).toNat * 2 + 1, none⟩) (Kd.R_types HO_525004.out GG67.out (by decide)) (fun _ hk => hk.2) (.bool t535)) (fun _ hk => ⟨hk.1.1, hk.1.2⟩)⟩
                      have n7_ : Aside0 ((w72.setCell ⟨go67, ((ji64) : Int).toNat * 2 + 1, none⟩ (.bool t535)).heap[gb506]? = some (.cells #[.slice Ao9 t491.length co9, .int .i64 t494, .slice Ao12 t495.length co12, .int .i64 t498, .slice Ao13 t499.length co13] 26 (0, 0))) := ⟨by (with_reducible repeat (first | refine blk_drewN ?_ _ | refine blk_drew ?_ | refine blk_alloc ?_ _)); refine blk_far ?_ (by have h_ := Kd.R_ne HO_525002.out BK506.out (by decide); intro e_; exact h_ (by rw [e_]; rfl)) _; (with_reducible repeat (first | refine blk_drewN ?_ _ | refine blk_drew ?_ | refine blk_alloc ?_ _)); exact BK506.out⟩
                      have n8_ : Aside0 ((w72.setCell ⟨go67, ((ji64) : Int).toNat * 2 + 1, none⟩ (.bool t535)).heap[gb524]? = some (.cells #[.slice Ao32 t513.length co32, .int .i64 t516, .slice (some ⟨go67, 0, none⟩) y526.length co42, .int .i64 t520, .slice Ao37 t521.length co37] 26 (0, 0))) := ⟨by (with_reducible repeat (first | refine blk_drewN ?_ _ | refine blk_drew ?_ | refine blk_alloc ?_ _)); refine blk_far ?_ (by have h_ := Kd.R_ne HO_525002.out BK524.out (by decide); intro e_; exact h_ (by rw [e_]; rfl)) _; (with_reducible repeat (first | refine blk_drewN ?_ _ | refine blk_drew ?_ | refine blk_alloc ?_ _)); exact BK524.out⟩
                      have n9_ : Aside0 (IsS79 w (w72.setCell ⟨go67, ((ji64) : Int).toNat * 2 + 1, none⟩ (.bool t535)) g490 t536) := ⟨by repeat (first | (with_reducible first | exact HI490.out | apply IsS79.alloc | apply IsS79.drewN | apply IsS79.drew | apply IsS79.set_0 | refine IsS79.far ?_ HN490_go67.out _ | refine IsS79.far ?_ NB490_506.out _ | refine IsS79.far ?_ NB490_524.out _) | exact HI490.out)⟩
                      have n10_ : Aside0 (Below w.heap.size w (w72.setCell ⟨go67, ((ji64) : Int).toNat * 2 + 1, none⟩ (.bool t535))) := ⟨by repeat (first | (with_reducible first | exact HB.out | apply below_alloc | apply pw_below_drewN | apply below_drew1 | refine below_set ?_ GB67.out | refine below_set ?_ (IsS79.ge HI490.out) | refine below_set ?_ GE506.out | refine below_set ?_ GE524.out) | exact HB.out)⟩
                      (try clear HO_6)
                      (try clear HO_507000)
                      (try clear HO_507002)
                      (try clear HO_507004)
                      (try clear HO_525000)
                      (try clear HO_525002)
                      (try clear HO_525004)
                      (try clear BK506)
                      (try clear BK524)
                      (try clear HI490)
                      (try clear HB)
                      generalize (w72.setCell ⟨go67, ((ji64) : Int).toNat * 2 + 1, none⟩ (.bool t535)) = w74 at n0_ n1_ n2_ n3_ n4_ n5_ n6_ n7_ n8_ n9_ n10_ ⊢
                      have HO_6 := n0_
                      have HO_507000 := n1_
                      have HO_507002 := n2_
                      have HO_507004 := n3_
                      have HO_525000 := n4_
                      have HO_525002 := n5_
                      have HO_525004 := n6_
                      have BK506 := n7_
                      have BK524 := n8_
                      have HI490 := n9_
                      have HB := n10_
                      clear n0_ n1_ n2_ n3_ n4_ n5_ n6_ n7_ n8_ n9_ n10_
                      have hnb75 := NB524_506.out
                      have hnc75 := NB506_524.out
                      have hnb76 := NB524_490.out
                      have hnc76 := NB490_524.out
                      have hcz77_0 : w74.cell? ⟨gb524, 0, none⟩ = some (.slice Ao32 t513.length co32) := (blk_cell BK524.out 0).trans rfl
                      have hcz77_1 : w74.cell? ⟨gb524, 1, none⟩ = some (.int .i64 t516) := (blk_cell BK524.out 1).trans rfl
                      have hcz77_2 : w74.cell? ⟨gb524, 2, none⟩ = some (.slice (some ⟨go67, 0, none⟩) y526.length co42) := (blk_cell BK524.out 2).trans rfl
                      have hcz77_3 : w74.cell? ⟨gb524, 3, none⟩ = some (.int .i64 t520) := (blk_cell BK524.out 3).trans rfl
                      have hcz77_4 : w74.cell? ⟨gb524, 4, none⟩ = some (.slice Ao37 t521.length co37) := (blk_cell BK524.out 4).trans rfl
                      have hfz77_0 := blk_frozen BK524.out 0
                      have hfz77_1 := blk_frozen BK524.out 1
                      have hfz77_2 := blk_frozen BK524.out 2
                      have hfz77_3 := blk_frozen BK524.out 3
                      have hfz77_4 := blk_frozen BK524.out 4
                      go_upto_region 16 with (first | ((with_reducible refine gate_callee (f := 26) rfl ?_); refine goesL_ (some 91) rfl rfl Try.func26 (by kernel_rfl) rfl #[.agg #[.slice Ao32 t513.length co32, .int .i64 t516, .slice (some ⟨go67, 0, none⟩) y537.length co42, .int .i64 ji68, .slice Ao37 t521.length co37]] rfl (by (try simp only [List.map_toArray, List.map_cons, List.map_nil]); first | done | (rw [show y537.length = y526.length from (Kd.R_reads' HO_525002.out).1.symm] <;> rfl) | (simp only [hji68]; rfl) | rfl | (simp only [List.length_drop, List.length_take]; rfl)) ?_; (with_reducible refine (strip_Out.calls _ _ t513 t516 _ _ y537 ji68 _ _ t521 t538 t541 _ ?side1 ?side2 ?side3 ?side4 ?side5 ?side6 A69.out).mono ?_); (case side1 => refine (Kd.S_reads' (e := 50) (base := w.heap.size) (ok := fun k_ => (some k_ ≠ (.slice (some ad525) t507.length co40 : Value).ownBlock ∧ (some k_ ≠ (.slice Ao9 t491.length co9 : Value).ownBlock ∧ (some k_ ≠ (.slice Ao13 t499.length co13 : Value).ownBlock ∧ some k_ ≠ (.slice Ao37 t521.length co37 : Value).ownBlock)))) (n := t513.length) (c := co32) ?_).2.2; exact (by (with_reducible repeat (first | apply Kd.S_alloc | apply Kd.S_drewN | apply Kd.S_drew)); exact (Kd.S_mono (Kd.S_far (p := ⟨gb524, 3, none⟩) (Kd.S_types HO_525000.out BK524.out (by decide)) (fun _ hk => hk.2) (.int .i64 ji68)) (fun _ h_ => h_.1)))); (case side2 => exact (Kd.S_reads' HO_525000.out).2.1); (case side3 => refine (Kd.R_reads' (e := 61) (base := w.heap.size) (ok := fun k_ => some k_ ≠ (.slice Ao12 t495.length co12 : Value).ownBlock) (n := y526.length) (c := co42) ?_).2.2; exact (by (with_reducible repeat (first | apply Kd.R_alloc | apply Kd.R_drewN | apply Kd.R_drew)); exact (Kd.R_mono (Kd.R_far (p := ⟨gb524, 3, none⟩) (Kd.R_types HO_525002.out BK524.out (by decide)) (fun _ hk => hk.2) (.int .i64 ji68)) (fun _ h_ => h_.1)))); (case side4 => rw [show y537.length = y526.length from (Kd.R_reads' HO_525002.out).1.symm]; exact (Kd.R_reads' HO_525002.out).2.1); (case side5 => refine (Kd.R_reads' (e := 3) (base := w.heap.size) (ok := fun k_ => (some k_ ≠ (.slice (some ad525) t507.length co40 : Value).ownBlock ∧ some k_ ≠ (.slice Ao13 t499.length co13 : Value).ownBlock)) (n := t521.length) (c := co37) ?_).2.2; exact (by (with_reducible repeat (first | apply Kd.R_alloc | apply Kd.R_drewN | apply Kd.R_drew)); exact (Kd.R_mono (Kd.R_far (p := ⟨gb524, 3, none⟩) (Kd.R_types HO_525004.out BK524.out (by decide)) (fun _ hk => hk.2) (.int .i64 ji68)) (fun _ h_ => h_.1)))); (case side6 => exact (Kd.R_reads' HO_525004.out).2.1); rintro e w78 ⟨v539, rfl, ho0, hb⟩; refine ⟨_, rfl, ?_⟩; have n0_ := Aside0.mk (Kd.R_elder' (by (with_reducible repeat (first | apply Kd.R_alloc | apply Kd.R_drewN | apply Kd.R_drew)); exact (Kd.R_mono (Kd.R_far (p := ⟨gb524, 3, none⟩) (Kd.R_types HO_6.out BK524.out (by decide)) (fun _ hk => hk.2) (.int .i64 ji68)) (fun _ h_ => h_.1))) (Kd.R_base ho0) hb); have n1_ := Aside0.mk (Kd.S_elder' (by (with_reducible repeat (first | apply Kd.S_alloc | apply Kd.S_drewN | apply Kd.S_drew)); exact (Kd.S_mono (Kd.S_far (p := ⟨gb524, 3, none⟩) (Kd.S_types HO_507000.out BK524.out (by decide)) (fun _ hk => hk.2) (.int .i64 ji68)) (fun _ h_ => h_.1))) (Kd.R_base ho0) hb); have n2_ := Aside0.mk (Kd.R_below (by (with_reducible repeat (first | apply Kd.R_alloc | apply Kd.R_drewN | apply Kd.R_drew)); exact (Kd.R_mono (Kd.R_far (p := ⟨gb524, 3, none⟩) (Kd.R_types HO_507002.out BK524.out (by decide)) (fun _ hk => hk.2) (.int .i64 ji68)) (fun _ h_ => h_.1))) hb); have n3_ := Aside0.mk (Kd.R_elder' (by (with_reducible repeat (first | apply Kd.R_alloc | apply Kd.R_drewN | apply Kd.R_drew)); exact (Kd.R_mono (Kd.R_far (p := ⟨gb524, 3, none⟩) (Kd.R_types HO_507004.out BK524.out (by decide)) (fun _ hk => hk.2) (.int .i64 ji68)) (fun _ h_ => h_.1))) (Kd.R_base ho0) hb); have n4_ := Aside0.mk (Kd.S_elder' (by (with_reducible repeat (first | apply Kd.S_alloc | apply Kd.S_drewN | apply Kd.S_drew)); exact (Kd.S_mono (Kd.S_far (p := ⟨gb524, 3, none⟩) (Kd.S_types HO_525000.out BK524.out (by decide)) (fun _ hk => hk.2) (.int .i64 ji68)) (fun _ h_ => h_.1))) (Kd.R_base ho0) hb); have n5_ := Aside0.mk (Kd.R_below (by (with_reducible repeat (first | apply Kd.R_alloc | apply Kd.R_drewN | apply Kd.R_drew)); exact (Kd.R_mono (Kd.R_far (p := ⟨gb524, 3, none⟩) (Kd.R_types HO_525002.out BK524.out (by decide)) (fun _ hk => hk.2) (.int .i64 ji68)) (fun _ h_ => h_.1))) hb); have n6_ := Aside0.mk (Kd.R_elder' (by (with_reducible repeat (first | apply Kd.R_alloc | apply Kd.R_drewN | apply Kd.R_drew)); exact (Kd.R_mono (Kd.R_far (p := ⟨gb524, 3, none⟩) (Kd.R_types HO_525004.out BK524.out (by decide)) (fun _ hk => hk.2) (.int .i64 ji68)) (fun _ h_ => h_.1))) (Kd.R_base ho0) hb); have n7_ := Aside0.mk (Kd.R_lower (Kd.R_new' (Kd.R_new' (Kd.R_new' ho0 (Kd.R_lt (by (with_reducible repeat (first | apply Kd.R_alloc | apply Kd.R_drewN | apply Kd.R_drew)); exact (Kd.R_mono (Kd.R_far (p := ⟨gb524, 3, none⟩) (Kd.R_types HO_6.out BK524.out (by decide)) (fun _ hk => hk.2) (.int .i64 ji68)) (fun _ h_ => h_.1))))) (Kd.R_lt (by (with_reducible repeat (first | apply Kd.R_alloc | apply Kd.R_drewN | apply Kd.R_drew)); exact (Kd.R_mono (Kd.R_far (p := ⟨gb524, 3, none⟩) (Kd.R_types HO_507004.out BK524.out (by decide)) (fun _ hk => hk.2) (.int .i64 ji68)) (fun _ h_ => h_.1))))) (Kd.R_lt (by (with_reducible repeat (first | apply Kd.R_alloc | apply Kd.R_drewN | apply Kd.R_drew)); exact (Kd.R_mono (Kd.R_far (p := ⟨gb524, 3, none⟩) (Kd.R_types HO_525004.out BK524.out (by decide)) (fun _ hk => hk.2) (.int .i64 ji68)) (fun _ h_ => h_.1))))) (below_size (by repeat (first | (with_reducible first | exact HB.out | apply below_alloc | apply pw_below_drewN | apply below_drew1 | refine below_set ?_ (IsS79.ge HI490.out) | refine below_set ?_ GE506.out | refine below_set ?_ GE524.out) | exact HB.out)))); have n8_ := Aside0.mk (blk_below (g := gb506) (o := .cells #[.slice Ao9 t491.length co9, .int .i64 t494, .slice Ao12 t495.length co12, .int .i64 t498, .slice Ao13 t499.length co13] 26 (0, 0)) (by (with_reducible repeat (first | refine blk_drewN ?_ _ | refine blk_drew ?_ | refine blk_alloc ?_ _)); refine blk_far ?_ NB506_524.out _; (with_reducible repeat (first | refine blk_drewN ?_ _ | refine blk_drew ?_ | refine blk_alloc ?_ _)); exact BK506.out) hb); have n9_ := Aside0.mk (blk_below (g := gb524) (o := .cells #[.slice Ao32 t513.length co32, .int .i64 t516, .slice (some ⟨go67, 0, none⟩) y526.length co42, .int .i64 ji68, .slice Ao37 t521.length co37] 26 (0, 0)) (by (with_reducible repeat (first | refine blk_drewN ?_ _ | refine blk_drew ?_ | refine blk_alloc ?_ _)); refine blk_put (cs := #[.slice Ao32 t513.length co32, .int .i64 t516, .slice (some ⟨go67, 0, none⟩) y526.length co42, .int .i64 t520, .slice Ao37 t521.length co37]) ?_ 3 _ rfl; (with_reducible repeat (first | refine blk_drewN ?_ _ | refine blk_drew ?_ | refine blk_alloc ?_ _)); exact BK524.out) hb); have n10_ := Aside0.mk (IsS79.below (show IsS79 w (w74.setCell ⟨gb524, 3, none⟩ (.int .i64 ji68)) g490 t536 from by repeat (first | (with_reducible first | exact HI490.out | apply IsS79.alloc | apply IsS79.drewN | apply IsS79.drew | apply IsS79.set_0 | refine IsS79.far ?_ NB490_506.out _ | refine IsS79.far ?_ NB490_524.out _) | exact HI490.out)) hb); have n11_ := Aside0.mk (below_step (by repeat (first | (with_reducible first | exact HB.out | apply below_alloc | apply pw_below_drewN | apply below_drew1 | refine below_set ?_ (IsS79.ge HI490.out) | refine below_set ?_ GE506.out | refine below_set ?_ GE524.out) | exact HB.out)) hb); clear HO_6; clear HO_507000; clear HO_507002; clear HO_507004; clear HO_525000; clear HO_525002; clear HO_525004; clear BK506; clear BK524; clear HI490; clear HB; have HO_6 := n0_; have HO_507000 := n1_; have HO_507002 := n2_; have HO_507004 := n3_; have HO_525000 := n4_; have HO_525002 := n5_; have HO_525004 := n6_; have HO540 := n7_; have BK506 := n8_; have BK524 := n9_; have HI490 := n10_; have HB := n11_; clear n0_ n1_ n2_ n3_ n4_ n5_ n6_ n7_ n8_ n9_ n10_ n11_; (try clear hb); (try clear hb2); (try clear hk); (try clear hi); (try clear ho0)))
                      (try simp only [Act.put, List.setIfInBounds_toArray, List.set_cons_zero, List.set_cons_succ])
                      go_cut [102] (fun v102 wc => ∃ (kq : Nat) (x102_69 : Bool), v102 = .bool x102_69 ∧ Aside0 (swarflaw04_StripMore.j2 kq t507 t538 x102_69 = some r) ∧ Aside0 (kq ≤ kj24) ∧ Aside0 (Kd.R (Kd.int .i64) 3 wc w.heap.size (fun k_ => some k_ ≠ (v539 : Value).ownBlock ∧ some k_ ≠ ((.slice Ao13 t499.length co13) : Value).ownBlock ∧ some k_ ≠ ((.slice Ao37 t521.length co37) : Value).ownBlock) (.slice (some ad525) t507.length co40) t507) ∧ Aside0 (Kd.R (Kd.int .i64) 3 wc w.heap.size (fun k_ => some k_ ≠ ((.slice (some ad525) t507.length co40) : Value).ownBlock ∧ some k_ ≠ ((.slice Ao13 t499.length co13) : Value).ownBlock ∧ some k_ ≠ ((.slice Ao37 t521.length co37) : Value).ownBlock) v539 t538) ∧ Aside0 (Kd.S k50 50 wc w.heap.size (fun k_ => some k_ ≠ ((.slice (some ad525) t507.length co40) : Value).ownBlock ∧ some k_ ≠ (v539 : Value).ownBlock ∧ some k_ ≠ ((.slice Ao13 t499.length co13) : Value).ownBlock ∧ some k_ ≠ ((.slice Ao32 t513.length co32) : Value).ownBlock ∧ some k_ ≠ ((.slice Ao37 t521.length co37) : Value).ownBlock) (.slice Ao9 t491.length co9) t491) ∧ Aside0 (Kd.R k61 61 wc w.heap.size (fun k_ => some k_ ≠ ((.slice (some ⟨go67, 0, none⟩) y526.length co42) : Value).ownBlock) (.slice Ao12 t495.length co12) t495) ∧ Aside0 (Kd.R (Kd.int .i64) 3 wc w.heap.size (fun k_ => some k_ ≠ ((.slice (some ad525) t507.length co40) : Value).ownBlock ∧ some k_ ≠ (v539 : Value).ownBlock ∧ some k_ ≠ ((.slice Ao37 t521.length co37) : Value).ownBlock) (.slice Ao13 t499.length co13) t499) ∧ Aside0 (Kd.S k50 50 wc w.heap.size (fun k_ => some k_ ≠ ((.slice (some ad525) t507.length co40) : Value).ownBlock ∧ some k_ ≠ (v539 : Value).ownBlock ∧ some k_ ≠ ((.slice Ao9 t491.length co9) : Value).ownBlock ∧ some k_ ≠ ((.slice Ao13 t499.length co13) : Value).ownBlock ∧ some k_ ≠ ((.slice Ao37 t521.length co37) : Value).ownBlock) (.slice Ao32 t513.length co32) t513) ∧ Aside0 (Kd.R k61 61 wc w.heap.size (fun k_ => some k_ ≠ ((.slice Ao12 t495.length co12) : Value).ownBlock) (.slice (some ⟨go67, 0, none⟩) y526.length co42) y537) ∧ Aside0 (Kd.R (Kd.int .i64) 3 wc w.heap.size (fun k_ => some k_ ≠ ((.slice (some ad525) t507.length co40) : Value).ownBlock ∧ some k_ ≠ (v539 : Value).ownBlock ∧ some k_ ≠ ((.slice Ao13 t499.length co13) : Value).ownBlock) (.slice Ao37 t521.length co37) t521) ∧ Aside0 (wc.heap[gb506]? = some (.cells #[(.slice Ao9 t491.length co9), .int .i64 t494, (.slice Ao12 t495.length co12), .int .i64 t498, (.slice Ao13 t499.length co13)] 26 (0, 0))) ∧ Aside0 (wc.heap[gb524]? = some (.cells #[(.slice Ao32 t513.length co32), .int .i64 t516, (.slice (some ⟨go67, 0, none⟩) y526.length co42), .int .i64 ji68, (.slice Ao37 t521.length co37)] 26 (0, 0))) ∧ Aside0 (Below w.heap.size w wc))
                      case first =>
                        have H := HC70.out
                        clear HC70
                        by_cases c79 : t541 = 0
                        · rw [if_pos c79] at H
                          have c79b0 : (t541 == 0) = true := beq_iff_eq.mpr c79
                          have c79b1 : (t541 != 0) = false := bne_eq_false_iff_eq.mpr c79
                          clear c79
                          (first | rw [c79b0] | (simp only [i64_w, i32_w]; rw [c79b0]) | skip)
                          have H' := Aside0.mk H
                          clear H
                          obtain ⟨Ao80, co80, eo80⟩ := Kd.R_slice HO540.out
                          subst eo80
                          go_wp2
                          go_meet
                          case rel => exact ⟨_, (((t538.length : Int) != (t507.length : Int))), (by first | rfl | (simp; done) | (simp [*]; done)), H', ⟨by have := HJ4.out; have := HJ24.out; first | omega | exact Nat.le_refl _⟩, ⟨by (with_reducible repeat (first | apply Kd.R_alloc | apply Kd.R_drewN | apply Kd.R_drew)); exact Kd.R_mono HO_6.out (fun _ hk => ⟨hk.2, ⟨hk.1.1, hk.1.2⟩⟩)⟩, ⟨by (with_reducible repeat (first | apply Kd.R_alloc | apply Kd.R_drewN | apply Kd.R_drew)); exact Kd.R_mono HO540.out (fun _ hk => ⟨hk.1.1.2, ⟨hk.1.2, hk.2⟩⟩)⟩, ⟨by (with_reducible repeat (first | apply Kd.S_alloc | apply Kd.S_drewN | apply Kd.S_drew)); exact Kd.S_mono HO_507000.out (fun _ hk => ⟨hk.1.1, ⟨hk.2, ⟨hk.1.2.1, ⟨hk.1.2.2.1, hk.1.2.2.2⟩⟩⟩⟩)⟩, ⟨by (with_reducible repeat (first | apply Kd.R_alloc | apply Kd.R_drewN | apply Kd.R_drew)); exact HO_507002.out⟩, ⟨by (with_reducible repeat (first | apply Kd.R_alloc | apply Kd.R_drewN | apply Kd.R_drew)); exact Kd.R_mono HO_507004.out (fun _ hk => ⟨hk.1.1, ⟨hk.2, hk.1.2⟩⟩)⟩, ⟨by (with_reducible repeat (first | apply Kd.S_alloc | apply Kd.S_drewN | apply Kd.S_drew)); exact Kd.S_mono HO_525000.out (fun _ hk => ⟨hk.1.1, ⟨hk.2, ⟨hk.1.2.1, ⟨hk.1.2.2.1, hk.1.2.2.2⟩⟩⟩⟩)⟩, ⟨by (with_reducible repeat (first | apply Kd.R_alloc | apply Kd.R_drewN | apply Kd.R_drew)); exact HO_525002.out⟩, ⟨by (with_reducible repeat (first | apply Kd.R_alloc | apply Kd.R_drewN | apply Kd.R_drew)); exact Kd.R_mono HO_525004.out (fun _ hk => ⟨hk.1.1, ⟨hk.2, hk.1.2⟩⟩)⟩, ⟨by (with_reducible repeat (first | refine blk_drewN ?_ _ | refine blk_drew ?_ | refine blk_alloc ?_ _)); exact BK506.out⟩, ⟨by (with_reducible repeat (first | refine blk_drewN ?_ _ | refine blk_drew ?_ | refine blk_alloc ?_ _)); exact BK524.out⟩, ⟨by repeat (first | (with_reducible first | exact HB.out | apply below_alloc | apply pw_below_drewN | apply below_drew1 | refine below_set ?_ (IsS79.ge HI490.out) | refine below_set ?_ GE506.out | refine below_set ?_ GE524.out) | exact HB.out)⟩⟩
                        · rw [if_neg c79] at H
                          have c79b0 : (t541 == 0) = false := beq_eq_false_iff_ne.mpr c79
                          have c79b1 : (t541 != 0) = true := bne_iff_ne.mpr c79
                          (first | rw [c79b0] | (simp only [i64_w, i32_w]; rw [c79b0]) | skip)
                          have H' := Aside0.mk H
                          clear H
                          go_wp2
                          go_meet
                          case rel => exact ⟨_, (true), (by first | rfl | (simp; done) | (simp [*]; done)), H', ⟨by have := HJ4.out; have := HJ24.out; first | omega | exact Nat.le_refl _⟩, ⟨by (with_reducible repeat (first | apply Kd.R_alloc | apply Kd.R_drewN | apply Kd.R_drew)); exact Kd.R_mono HO_6.out (fun _ hk => ⟨hk.2, ⟨hk.1.1, hk.1.2⟩⟩)⟩, ⟨by (with_reducible repeat (first | apply Kd.R_alloc | apply Kd.R_drewN | apply Kd.R_drew)); exact Kd.R_mono HO540.out (fun _ hk => ⟨hk.1.1.2, ⟨hk.1.2, hk.2⟩⟩)⟩, ⟨by (with_reducible repeat (first | apply Kd.S_alloc | apply Kd.S_drewN | apply Kd.S_drew)); exact Kd.S_mono HO_507000.out (fun _ hk => ⟨hk.1.1, ⟨hk.2, ⟨hk.1.2.1, ⟨hk.1.2.2.1, hk.1.2.2.2⟩⟩⟩⟩)⟩, ⟨by (with_reducible repeat (first | apply Kd.R_alloc | apply Kd.R_drewN | apply Kd.R_drew)); exact HO_507002.out⟩, ⟨by (with_reducible repeat (first | apply Kd.R_alloc | apply Kd.R_drewN | apply Kd.R_drew)); exact Kd.R_mono HO_507004.out (fun _ hk => ⟨hk.1.1, ⟨hk.2, hk.1.2⟩⟩)⟩, ⟨by (with_reducible repeat (first | apply Kd.S_alloc | apply Kd.S_drewN | apply Kd.S_drew)); exact Kd.S_mono HO_525000.out (fun _ hk => ⟨hk.1.1, ⟨hk.2, ⟨hk.1.2.1, ⟨hk.1.2.2.1, hk.1.2.2.2⟩⟩⟩⟩)⟩, ⟨by (with_reducible repeat (first | apply Kd.R_alloc | apply Kd.R_drewN | apply Kd.R_drew)); exact HO_525002.out⟩, ⟨by (with_reducible repeat (first | apply Kd.R_alloc | apply Kd.R_drewN | apply Kd.R_drew)); exact Kd.R_mono HO_525004.out (fun _ hk => ⟨hk.1.1, ⟨hk.2, hk.1.2⟩⟩)⟩, ⟨by (with_reducible repeat (first | refine blk_drewN ?_ _ | refine blk_drew ?_ | refine blk_alloc ?_ _)); exact BK506.out⟩, ⟨by (with_reducible repeat (first | refine blk_drewN ?_ _ | refine blk_drew ?_ | refine blk_alloc ?_ _)); exact BK524.out⟩, ⟨by repeat (first | (with_reducible first | exact HB.out | apply below_alloc | apply pw_below_drewN | apply below_drew1 | refine below_set ?_ (IsS79.ge HI490.out) | refine below_set ?_ GE506.out | refine below_set ?_ GE524.out) | exact HB.out)⟩⟩
                      case rest =>
                        clear HC70
                        try clear c1
                        try clear c2
                        try clear p2
                        try clear c3
                        try clear c4
                        try clear c5
                        try clear p5
                        try clear q5
                        try clear hx5
                        try clear c6
                        try clear p6
                        try clear q6
                        try clear hx6
                        try clear hf6
                        try clear c7
                        try clear c10
                        try clear c15
                        try clear c15b0
                        try clear c15b1
                        try clear c17
                        try clear c18
                        try clear c19
                        try clear c22
                        try clear c22b0
                        try clear c23
                        try clear c23b0
                        try clear c24
                        try clear c25
                        try clear c26
                        try clear c33
                        try clear c34
                        try clear c35
                        try clear c44
                        try clear c44b0
                        try clear c44b1
                        try clear c46
                        try clear c46b0
                        try clear c46b1
                        try clear c48
                        try clear c49
                        try clear c50
                        try clear p52
                        try clear q52
                        try clear hx52
                        try clear c54
                        try clear c55
                        try clear c59
                        try clear c60
                        try clear p64
                        try clear c65
                        try clear c65b0
                        try clear c66
                        try clear c66b0
                        try clear c67
                        try clear p67
                        try clear q67
                        try clear hx67
                        try clear hf67
                        try clear c73
                        try clear c75
                        try clear c76
                        try clear c79
                        try clear c79b0
                        try clear c79b1
                        try clear hcz11_0
                        try clear hcz11_1
                        try clear hcz11_2
                        try clear hcz11_3
                        try clear hcz11_4
                        try clear hcz18_0
                        try clear hcz18_1
                        try clear hcz18_2
                        try clear hcz18_3
                        try clear hcz18_4
                        try clear hcz27_0
                        try clear hcz27_1
                        try clear hcz27_2
                        try clear hcz27_3
                        try clear hcz27_4
                        try clear hcz29_0
                        try clear hcz29_1
                        try clear hcz29_2
                        try clear hcz29_3
                        try clear hcz29_4
                        try clear hcz35_0
                        try clear hcz35_1
                        try clear hcz35_2
                        try clear hcz35_3
                        try clear hcz35_4
                        try clear hcz51_0
                        try clear hcz51_1
                        try clear hcz51_2
                        try clear hcz51_3
                        try clear hcz51_4
                        try clear hcz56_0
                        try clear hcz56_1
                        try clear hcz56_2
                        try clear hcz56_3
                        try clear hcz56_4
                        try clear hcz61_0
                        try clear hcz61_1
                        try clear hcz61_2
                        try clear hcz61_3
                        try clear hcz61_4
                        try clear hcz77_0
                        try clear hcz77_1
                        try clear hcz77_2
                        try clear hcz77_3
                        try clear hcz77_4
                        try clear hfz11_0
                        try clear hfz11_1
                        try clear hfz11_2
                        try clear hfz11_3
                        try clear hfz11_4
                        try clear hfz18_0
                        try clear hfz18_1
                        try clear hfz18_2
                        try clear hfz18_3
                        try clear hfz18_4
                        try clear hfz27_0
                        try clear hfz27_1
                        try clear hfz27_2
                        try clear hfz27_3
                        try clear hfz27_4
                        try clear hfz29_0
                        try clear hfz29_1
                        try clear hfz29_2
                        try clear hfz29_3
                        try clear hfz29_4
                        try clear hfz35_0
                        try clear hfz35_1
                        try clear hfz35_2
                        try clear hfz35_3
                        try clear hfz35_4
                        try clear hfz51_0
                        try clear hfz51_1
                        try clear hfz51_2
                        try clear hfz51_3
                        try clear hfz51_4
                        try clear hfz56_0
                        try clear hfz56_1
                        try clear hfz56_2
                        try clear hfz56_3
                        try clear hfz56_4
                        try clear hfz61_0
                        try clear hfz61_1
                        try clear hfz61_2
                        try clear hfz61_3
                        try clear hfz61_4
                        try clear hfz77_0
                        try clear hfz77_1
                        try clear hfz77_2
                        try clear hfz77_3
                        try clear hfz77_4
                        try clear hx525_0
                        try clear hx529_0
                        try clear hx67_0
                        try clear hx67_1
                        try clear p2
                        try clear p5
                        try clear p52
                        try clear p525
                        try clear p529
                        try clear p67
                        try clear q5
                        try clear q52
                        try clear q525
                        try clear q529
                        try clear q67
                        obtain ⟨kq, x102_69, rfl, HA, HJ69, HO_6, HO_12, HO_507000, HO_507002, HO_507004, HO_525000, HO_525002, HO_525004, BK506, BK524, HB⟩ := hcut
                        have hl525002_69 := (Kd.R_reads' HO_525002.out).1
                        rw [hl525002_69] at HO_525002
                        (try simp only [hl525002_69])
                        (try simp only [hl525002_69] at BK506)
                        (try simp only [hl525002_69] at BK524)
                        (try simp only [hl525002_69] at HO_6)
                        (try simp only [hl525002_69] at HO_12)
                        (try simp only [hl525002_69] at HO_507000)
                        (try simp only [hl525002_69] at HO_507002)
                        (try simp only [hl525002_69] at HO_507004)
                        (try simp only [hl525002_69] at HO_525000)
                        (try simp only [hl525002_69] at HO_525004)
                        cases kq with
                        | zero => exact absurd HA.out (by simp [swarflaw04_StripMore.j2])
                        | succ kj69 =>
                          have H := HA.out
                          clear HA
                          simp only [swarflaw04_StripMore.j2] at H
                          by_cases c81 : x102_69 = true
                          · subst c81
                            have H1 : (some false) = some r := by rw [if_pos rfl] at H; exact H
                            clear H
                            have H := H1
                            clear H1
                            exact absurd ((Option.some.inj H).trans hrt.out) (by decide)
                          · replace c81 := Bool.eq_false_iff.mpr c81
                            subst c81
                            have H1 : (swarflaw04_StripMore.l0 kj69 t507 t538 0) = some r := by rw [if_neg (show ¬ (false = true) by decide)] at H; exact H
                            clear H
                            have H := H1
                            clear H1
                            have H' := Aside0.mk H
                            clear H
                            go_wp2
                            go_loopg [14] kj69 (fun kq v14 w' => ∃ (x14_4 : Int), v14 = .int .i64 x14_4 ∧ Aside0 (swarflaw04_StripMore.l0 kq t507 t538 x14_4 = some r) ∧ Aside0 (kq ≤ kj69) ∧ Aside0 (Kd.R (Kd.int .i64) 3 w' w.heap.size (fun k_ => some k_ ≠ (v539 : Value).ownBlock ∧ some k_ ≠ ((.slice Ao13 t499.length co13) : Value).ownBlock ∧ some k_ ≠ ((.slice Ao37 t521.length co37) : Value).ownBlock) (.slice (some ad525) t507.length co40) t507) ∧ Aside0 (Kd.R (Kd.int .i64) 3 w' w.heap.size (fun k_ => some k_ ≠ ((.slice (some ad525) t507.length co40) : Value).ownBlock ∧ some k_ ≠ ((.slice Ao13 t499.length co13) : Value).ownBlock ∧ some k_ ≠ ((.slice Ao37 t521.length co37) : Value).ownBlock) v539 t538) ∧ Aside0 (Kd.S k50 50 w' w.heap.size (fun k_ => some k_ ≠ ((.slice (some ad525) t507.length co40) : Value).ownBlock ∧ some k_ ≠ (v539 : Value).ownBlock ∧ some k_ ≠ ((.slice Ao13 t499.length co13) : Value).ownBlock ∧ some k_ ≠ ((.slice Ao32 t513.length co32) : Value).ownBlock ∧ some k_ ≠ ((.slice Ao37 t521.length co37) : Value).ownBlock) (.slice Ao9 t491.length co9) t491) ∧ Aside0 (Kd.R k61 61 w' w.heap.size (fun k_ => some k_ ≠ ((.slice (some ⟨go67, 0, none⟩) y537.length co42) : Value).ownBlock) (.slice Ao12 t495.length co12) t495) ∧ Aside0 (Kd.R (Kd.int .i64) 3 w' w.heap.size (fun k_ => some k_ ≠ ((.slice (some ad525) t507.length co40) : Value).ownBlock ∧ some k_ ≠ (v539 : Value).ownBlock ∧ some k_ ≠ ((.slice Ao37 t521.length co37) : Value).ownBlock) (.slice Ao13 t499.length co13) t499) ∧ Aside0 (Kd.S k50 50 w' w.heap.size (fun k_ => some k_ ≠ ((.slice (some ad525) t507.length co40) : Value).ownBlock ∧ some k_ ≠ (v539 : Value).ownBlock ∧ some k_ ≠ ((.slice Ao9 t491.length co9) : Value).ownBlock ∧ some k_ ≠ ((.slice Ao13 t499.length co13) : Value).ownBlock ∧ some k_ ≠ ((.slice Ao37 t521.length co37) : Value).ownBlock) (.slice Ao32 t513.length co32) t513) ∧ Aside0 (Kd.R k61 61 w' w.heap.size (fun k_ => some k_ ≠ ((.slice Ao12 t495.length co12) : Value).ownBlock) (.slice (some ⟨go67, 0, none⟩) y537.length co42) y537) ∧ Aside0 (Kd.R (Kd.int .i64) 3 w' w.heap.size (fun k_ => some k_ ≠ ((.slice (some ad525) t507.length co40) : Value).ownBlock ∧ some k_ ≠ (v539 : Value).ownBlock ∧ some k_ ≠ ((.slice Ao13 t499.length co13) : Value).ownBlock) (.slice Ao37 t521.length co37) t521) ∧ Aside0 (w'.heap[gb506]? = some (.cells #[(.slice Ao9 t491.length co9), .int .i64 t494, (.slice Ao12 t495.length co12), .int .i64 t498, (.slice Ao13 t499.length co13)] 26 (0, 0))) ∧ Aside0 (w'.heap[gb524]? = some (.cells #[(.slice Ao32 t513.length co32), .int .i64 t516, (.slice (some ⟨go67, 0, none⟩) y537.length co42), .int .i64 ji68, (.slice Ao37 t521.length co37)] 26 (0, 0))) ∧ Aside0 (Below w.heap.size w w'))
                            case atStart => exact ⟨(0), (by first | rfl | (simp; done) | (simp [*]; done)), H', ⟨Nat.le_refl _⟩, ⟨by (try simp only [hl525002_69]); (with_reducible repeat (first | apply Kd.R_alloc | apply Kd.R_drewN | apply Kd.R_drew)); exact HO_6.out⟩, ⟨by (try simp only [hl525002_69]); (with_reducible repeat (first | apply Kd.R_alloc | apply Kd.R_drewN | apply Kd.R_drew)); exact HO_12.out⟩, ⟨by (try simp only [hl525002_69]); (with_reducible repeat (first | apply Kd.S_alloc | apply Kd.S_drewN | apply Kd.S_drew)); exact HO_507000.out⟩, ⟨by (try simp only [hl525002_69]); (with_reducible repeat (first | apply Kd.R_alloc | apply Kd.R_drewN | apply Kd.R_drew)); exact HO_507002.out⟩, ⟨by (try simp only [hl525002_69]); (with_reducible repeat (first | apply Kd.R_alloc | apply Kd.R_drewN | apply Kd.R_drew)); exact HO_507004.out⟩, ⟨by (try simp only [hl525002_69]); (with_reducible repeat (first | apply Kd.S_alloc | apply Kd.S_drewN | apply Kd.S_drew)); exact HO_525000.out⟩, ⟨by (try simp only [hl525002_69]); (with_reducible repeat (first | apply Kd.R_alloc | apply Kd.R_drewN | apply Kd.R_drew)); exact HO_525002.out⟩, ⟨by (try simp only [hl525002_69]); (with_reducible repeat (first | apply Kd.R_alloc | apply Kd.R_drewN | apply Kd.R_drew)); exact HO_525004.out⟩, ⟨by (try simp only [hl525002_69]); (with_reducible repeat (first | refine blk_drewN ?_ _ | refine blk_drew ?_ | refine blk_alloc ?_ _)); exact BK506.out⟩, ⟨by (try simp only [hl525002_69]); (with_reducible repeat (first | refine blk_drewN ?_ _ | refine blk_drew ?_ | refine blk_alloc ?_ _)); exact BK524.out⟩, ⟨by repeat (first | (with_reducible first | exact HB.out | apply below_alloc | apply pw_below_drewN | apply below_drew1 | refine below_set ?_ GE506.out | refine below_set ?_ GE524.out) | exact HB.out)⟩⟩
                            case round =>
                              clear H'
                              try clear c1
                              try clear c2
                              try clear p2
                              try clear c3
                              try clear c4
                              try clear c5
                              try clear p5
                              try clear q5
                              try clear hx5
                              try clear c6
                              try clear p6
                              try clear q6
                              try clear hx6
                              try clear hf6
                              try clear c7
                              try clear c8
                              try clear c10
                              try clear c15
                              try clear c15b0
                              try clear c15b1
                              try clear c17
                              try clear c18
                              try clear c19
                              try clear c22
                              try clear c22b0
                              try clear c23
                              try clear c23b0
                              try clear c24
                              try clear c25
                              try clear c26
                              try clear c33
                              try clear c34
                              try clear c35
                              try clear c44
                              try clear c44b0
                              try clear c44b1
                              try clear c46
                              try clear c46b0
                              try clear c46b1
                              try clear c48
                              try clear c49
                              try clear c50
                              try clear p52
                              try clear q52
                              try clear hx52
                              try clear c54
                              try clear c55
                              try clear c59
                              try clear c60
                              try clear p64
                              try clear c65
                              try clear c65b0
                              try clear c66
                              try clear c66b0
                              try clear c67
                              try clear p67
                              try clear q67
                              try clear hx67
                              try clear hf67
                              try clear c73
                              try clear c75
                              try clear c76
                              try clear c79
                              try clear c79b0
                              try clear c79b1
                              try clear c81
                              try clear hcz11_0
                              try clear hcz11_1
                              try clear hcz11_2
                              try clear hcz11_3
                              try clear hcz11_4
                              try clear hcz18_0
                              try clear hcz18_1
                              try clear hcz18_2
                              try clear hcz18_3
                              try clear hcz18_4
                              try clear hcz27_0
                              try clear hcz27_1
                              try clear hcz27_2
                              try clear hcz27_3
                              try clear hcz27_4
                              try clear hcz29_0
                              try clear hcz29_1
                              try clear hcz29_2
                              try clear hcz29_3
                              try clear hcz29_4
                              try clear hcz35_0
                              try clear hcz35_1
                              try clear hcz35_2
                              try clear hcz35_3
                              try clear hcz35_4
                              try clear hcz51_0
                              try clear hcz51_1
                              try clear hcz51_2
                              try clear hcz51_3
                              try clear hcz51_4
                              try clear hcz56_0
                              try clear hcz56_1
                              try clear hcz56_2
                              try clear hcz56_3
                              try clear hcz56_4
                              try clear hcz61_0
                              try clear hcz61_1
                              try clear hcz61_2
                              try clear hcz61_3
                              try clear hcz61_4
                              try clear hcz77_0
                              try clear hcz77_1
                              try clear hcz77_2
                              try clear hcz77_3
                              try clear hcz77_4
                              try clear hfz11_0
                              try clear hfz11_1
                              try clear hfz11_2
                              try clear hfz11_3
                              try clear hfz11_4
                              try clear hfz18_0
                              try clear hfz18_1
                              try clear hfz18_2
                              try clear hfz18_3
                              try clear hfz18_4
                              try clear hfz27_0
                              try clear hfz27_1
                              try clear hfz27_2
                              try clear hfz27_3
                              try clear hfz27_4
                              try clear hfz29_0
                              try clear hfz29_1
                              try clear hfz29_2
                              try clear hfz29_3
                              try clear hfz29_4
                              try clear hfz35_0
                              try clear hfz35_1
                              try clear hfz35_2
                              try clear hfz35_3
                              try clear hfz35_4
                              try clear hfz51_0
                              try clear hfz51_1
                              try clear hfz51_2
                              try clear hfz51_3
                              try clear hfz51_4
                              try clear hfz56_0
                              try clear hfz56_1
                              try clear hfz56_2
                              try clear hfz56_3
                              try clear hfz56_4
                              try clear hfz61_0
                              try clear hfz61_1
                              try clear hfz61_2
                              try clear hfz61_3
                              try clear hfz61_4
                              try clear hfz77_0
                              try clear hfz77_1
                              try clear hfz77_2
                              try clear hfz77_3
                              try clear hfz77_4
                              try clear hx525_0
                              try clear hx529_0
                              try clear hx67_0
                              try clear hx67_1
                              try clear p2
                              try clear p5
                              try clear p52
                              try clear p525
                              try clear p529
                              try clear p6
                              try clear p64
                              try clear p67
                              try clear q5
                              try clear q52
                              try clear q525
                              try clear q529
                              try clear q6
                              try clear q67
                              obtain ⟨x14_4, rfl, HA, HK4, HO_6, HO_12, HO_507000, HO_507002, HO_507004, HO_525000, HO_525002, HO_525004, BK506, BK524, HB⟩ := hrel
                              cases gk with
                              | zero => exact absurd HA.out (by simp [swarflaw04_StripMore.l0])
                              | succ k4 =>
                                have H := HA.out
                                clear HA
                                simp only [swarflaw04_StripMore.l0] at H
                                by_cases c82 : x14_4 < (t538.length : Int)
                                · rw [if_pos c82] at H
                                  have c82b0 : decide (x14_4 < (t538.length : Int)) = true := decide_eq_true c82
                                  clear c82
                                  by_cases c83 : 0 ≤ x14_4
                                  · rw [if_pos c83] at H
                                    have c83b0 : decide (0 ≤ x14_4) = true := decide_eq_true c83
                                    clear c83
                                    by_cases c84 : (rd t538 x14_4) = 3
                                    · rw [if_pos c84] at H
                                      have c84b0 : ((rd t538 x14_4) == 3) = true := beq_iff_eq.mpr c84
                                      have c84b1 : ((rd t538 x14_4) != 3) = false := bne_eq_false_iff_eq.mpr c84
                                      clear c84
                                      have H' := Aside0.mk H
                                      clear H
                                      obtain ⟨Ao85, co85, eo85⟩ := Kd.R_slice HO_12.out
                                      subst eo85
                                      try go_wp2
                                      have n0_ := Aside0.mk (Kd.R_drew HO_6.out)
                                      have n1_ := Aside0.mk (Kd.R_drew HO_12.out)
                                      have n2_ := Aside0.mk (Kd.S_drew HO_507000.out)
                                      have n3_ := Aside0.mk (Kd.R_drew HO_507002.out)
                                      have n4_ := Aside0.mk (Kd.R_drew HO_507004.out)
                                      have n5_ := Aside0.mk (Kd.S_drew HO_525000.out)
                                      have n6_ := Aside0.mk (Kd.R_drew HO_525002.out)
                                      have n7_ := Aside0.mk (Kd.R_drew HO_525004.out)
                                      have n8_ := Aside0.mk (blk_drew BK506.out)
                                      have n9_ := Aside0.mk (blk_drew BK524.out)
                                      have n10_ := Aside0.mk (below_drew1 HB.out)
                                      clear HO_6
                                      clear HO_12
                                      clear HO_507000
                                      clear HO_507002
                                      clear HO_507004
                                      clear HO_525000
                                      clear HO_525002
                                      clear HO_525004
                                      clear BK506
                                      clear BK524
                                      clear HB
                                      have HO_6 := n0_
                                      have HO_12 := n1_
                                      have HO_507000 := n2_
                                      have HO_507002 := n3_
                                      have HO_507004 := n4_
                                      have HO_525000 := n5_
                                      have HO_525002 := n6_
                                      have HO_525004 := n7_
                                      have BK506 := n8_
                                      have BK524 := n9_
                                      have HB := n10_
                                      clear n0_ n1_ n2_ n3_ n4_ n5_ n6_ n7_ n8_ n9_ n10_
                                      have p542 : 0 ≤ (x14_4 : Int) := of_decide_eq_true (by first | (with_reducible assumption) | assumption)
                                      have q542 : x14_4 < (t538.length : Int) := of_decide_eq_true (by first | (with_reducible assumption) | assumption)
                                      obtain ⟨ad542, e542, hx542_0⟩ := Kd.at_int (Kd.R_reads' HO_12.out).2.2 x14_4 p542 q542
                                      cases e542
                                      replace p542 := eq_true p542
                                      replace q542 := eq_true q542
                                      refine start_ (n := 16) (S := fun w' => w'.cell? (ad542.add (x14_4).toNat) = some (.int .i64 (rd t538 x14_4))) (ds := []) #[false, false, false, false, false, false, false, false, false, false, false, false, false, false, false, false] (by kernel_rfl) rfl rfl (hx542_0) (fun hHeld => ?_); refine with_tabW swarflaw04_StripMore.tab21 swarflaw04_StripMore.bits21 (fun HT_ HW_ => ?_)
                                      generalize wr.drew = w86 at HO_6 HO_12 HO_507000 HO_507002 HO_507004 HO_525000 HO_525002 HO_525004 BK506 BK524 HB hx542_0 hHeld ⊢
                                      refine pure_ (i := 0) (N := some 109) (v := ?_) (a' := ?_) #[true, false, false, false, false, false, false, false, false, false, false, false, false, false, false, false] rfl rfl (any_of HT_.out (by kernel_rfl)) (fun _ _ _ h => h) (Or.inl ⟨by rfl, ?_⟩) ?_ ?_
                                      rotate_left
                                      · intro w'
                                        go_simp
                                        with_reducible rfl
                                      rotate_left
                                      · simp only [Act.put, List.setIfInBounds_toArray, List.set_cons_zero, List.set_cons_succ, i64_w, i32_w]
                                        rfl
                                      refine pure_ (i := 1) (N := some 110) (v := ?_) (a' := ?_) #[true, true, false, false, false, false, false, false, false, false, false, false, false, false, false, false] rfl rfl (any_of HT_.out (by kernel_rfl)) (fun _ _ _ h => h) (Or.inl ⟨by rfl, ?_⟩) ?_ ?_
                                      rotate_left
                                      · intro w'
                                        go_simp
                                        with_reducible rfl
                                      rotate_left
                                      · simp only [Act.put, List.setIfInBounds_toArray, List.set_cons_zero, List.set_cons_succ, i64_w, i32_w]
                                        rfl
                                      refine pure_ (i := 2) (N := some 111) (v := ?_) (a' := ?_) #[true, true, true, false, false, false, false, false, false, false, false, false, false, false, false, false] rfl rfl (any_of HT_.out (by kernel_rfl)) (fun _ _ _ h => h) (Or.inl ⟨by rfl, ?_⟩) ?_ ?_
                                      rotate_left
                                      · intro w'
                                        go_simp
                                        with_reducible rfl
                                      rotate_left
                                      · simp only [Act.put, List.setIfInBounds_toArray, List.set_cons_zero, List.set_cons_succ, i64_w, i32_w]
                                        rfl
                                      refine take_ (i := 3) (N := some 112) (v := ?_) (a' := ?_) #[true, true, true, true, false, false, false, false, false, false, false, false, false, false, false, false] rfl rfl (take_ofW HT_.out HW_.out (by kernel_rfl)) (fun _ _ _ h => h) (Or.inl ⟨by rfl, ?_⟩) hHeld ?_ ?_
                                      rotate_left
                                      · intro w' s0
                                        go_simp
                                        with_reducible rfl
                                      rotate_left
                                      · simp only [Act.put, List.setIfInBounds_toArray, List.set_cons_zero, List.set_cons_succ, i64_w, i32_w]
                                        rfl
                                      refine pure_ (i := 4) (N := some 113) (v := ?_) (a' := ?_) #[true, true, true, true, true, false, false, false, false, false, false, false, false, false, false, false] rfl rfl (any_of HT_.out (by kernel_rfl)) (fun _ _ _ h => h) (Or.inl ⟨by rfl, ?_⟩) ?_ ?_
                                      rotate_left
                                      · intro w'
                                        go_simp
                                        with_reducible rfl
                                      rotate_left
                                      · simp only [Act.put, List.setIfInBounds_toArray, List.set_cons_zero, List.set_cons_succ, i64_w, i32_w]
                                        rfl
                                      refine pure_ (i := 5) (N := some 114) (v := ?_) (a' := ?_) #[true, true, true, true, true, true, false, false, false, false, false, false, false, false, false, false] rfl rfl (any_of HT_.out (by kernel_rfl)) (fun _ _ _ h => h) (Or.inl ⟨by rfl, ?_⟩) ?_ ?_
                                      rotate_left
                                      · intro w'
                                        go_simp
                                        with_reducible rfl
                                      rotate_left
                                      · simp only [Act.put, List.setIfInBounds_toArray, List.set_cons_zero, List.set_cons_succ, i64_w, i32_w]
                                        rfl
                                      refine pure_ (i := 6) (N := some 115) (v := undef) (a' := ?_) #[true, true, true, true, true, true, true, false, false, false, false, false, false, false, false, false] rfl rfl (any_of HT_.out (by kernel_rfl)) (fun _ _ _ h => h) (Or.inr ⟨by rfl, rfl⟩) ?_ ?_
                                      rotate_left
                                      · simp only [Act.put, List.setIfInBounds_toArray, List.set_cons_zero, List.set_cons_succ, i64_w, i32_w]
                                        rfl
                                      refine pure_ (i := 7) (N := some 116) (v := undef) (a' := ?_) #[true, true, true, true, true, true, true, true, false, false, false, false, false, false, false, false] rfl rfl (any_of HT_.out (by kernel_rfl)) (fun _ _ _ h => h) (Or.inr ⟨by rfl, rfl⟩) ?_ ?_
                                      rotate_left
                                      · simp only [Act.put, List.setIfInBounds_toArray, List.set_cons_zero, List.set_cons_succ, i64_w, i32_w]
                                        rfl
                                      refine pure_ (i := 8) (N := some 117) (v := undef) (a' := ?_) #[true, true, true, true, true, true, true, true, true, false, false, false, false, false, false, false] rfl rfl (any_of HT_.out (by kernel_rfl)) (fun _ _ _ h => h) (Or.inr ⟨by rfl, rfl⟩) ?_ ?_
                                      rotate_left
                                      · simp only [Act.put, List.setIfInBounds_toArray, List.set_cons_zero, List.set_cons_succ, i64_w, i32_w]
                                        rfl
                                      refine pure_ (i := 9) (N := some 118) (v := undef) (a' := ?_) #[true, true, true, true, true, true, true, true, true, true, false, false, false, false, false, false] rfl rfl (any_of HT_.out (by kernel_rfl)) (fun _ _ _ h => h) (Or.inr ⟨by rfl, rfl⟩) ?_ ?_
                                      rotate_left
                                      · simp only [Act.put, List.setIfInBounds_toArray, List.set_cons_zero, List.set_cons_succ, i64_w, i32_w]
                                        rfl
                                      refine pure_ (i := 10) (N := some 119) (v := undef) (a' := ?_) #[true, true, true, true, true, true, true, true, true, true, true, false, false, false, false, false] rfl rfl (any_of HT_.out (by kernel_rfl)) (fun _ _ _ h => h) (Or.inr ⟨by rfl, rfl⟩) ?_ ?_
                                      rotate_left
                                      · simp only [Act.put, List.setIfInBounds_toArray, List.set_cons_zero, List.set_cons_succ, i64_w, i32_w]
                                        rfl
                                      refine pure_ (i := 11) (N := some 120) (v := undef) (a' := ?_) #[true, true, true, true, true, true, true, true, true, true, true, true, false, false, false, false] rfl rfl (any_of HT_.out (by kernel_rfl)) (fun _ _ _ h => h) (Or.inr ⟨by rfl, rfl⟩) ?_ ?_
                                      rotate_left
                                      · simp only [Act.put, List.setIfInBounds_toArray, List.set_cons_zero, List.set_cons_succ, i64_w, i32_w]
                                        rfl
                                      refine pure_ (i := 12) (N := some 121) (v := undef) (a' := ?_) #[true, true, true, true, true, true, true, true, true, true, true, true, true, false, false, false] rfl rfl (any_of HT_.out (by kernel_rfl)) (fun _ _ _ h => h) (Or.inr ⟨by rfl, rfl⟩) ?_ ?_
                                      rotate_left
                                      · simp only [Act.put, List.setIfInBounds_toArray, List.set_cons_zero, List.set_cons_succ, i64_w, i32_w]
                                        rfl
                                      refine pure_ (i := 13) (N := some 122) (v := undef) (a' := ?_) #[true, true, true, true, true, true, true, true, true, true, true, true, true, true, false, false] rfl rfl (any_of HT_.out (by kernel_rfl)) (fun _ _ _ h => h) (Or.inr ⟨by rfl, rfl⟩) ?_ ?_
                                      rotate_left
                                      · simp only [Act.put, List.setIfInBounds_toArray, List.set_cons_zero, List.set_cons_succ, i64_w, i32_w]
                                        rfl
                                      refine pure_ (i := 14) (N := some 123) (v := undef) (a' := ?_) #[true, true, true, true, true, true, true, true, true, true, true, true, true, true, true, false] rfl rfl (any_of HT_.out (by kernel_rfl)) (fun _ _ _ h => h) (Or.inr ⟨by rfl, rfl⟩) ?_ ?_
                                      rotate_left
                                      · simp only [Act.put, List.setIfInBounds_toArray, List.set_cons_zero, List.set_cons_succ, i64_w, i32_w]
                                        rfl
                                      refine pure_ (i := 15) (N := some 124) (v := ?_) (a' := ?_) #[true, true, true, true, true, true, true, true, true, true, true, true, true, true, true, true] rfl rfl (any_of HT_.out (by kernel_rfl)) (fun _ _ _ h => h) (Or.inl ⟨by rfl, ?_⟩) ?_ ?_
                                      rotate_left
                                      · intro w'
                                        go_simp
                                        with_reducible rfl
                                      rotate_left
                                      · simp only [Act.put, List.setIfInBounds_toArray, List.set_cons_zero, List.set_cons_succ, i64_w, i32_w]
                                        rfl
                                      refine done_ (done_of HT_.out (by kernel_rfl)) ?_
                                      try go_wp2
                                      go_roundg k4
                                      case measure => have := HJ4.out; have := HJ24.out; have := HJ69.out; have := HK4.out; omega
                                      case rel => exact ⟨(wrap64 (x14_4 + 1)), (by first | rfl | (simp; done) | (simp [*]; done)), H', ⟨by have := HJ4.out; have := HJ24.out; have := HJ69.out; have := HK4.out; omega⟩, ⟨by (try simp only [hl525002_69]); (with_reducible repeat (first | apply Kd.R_alloc | apply Kd.R_drewN | apply Kd.R_drew)); exact HO_6.out⟩, ⟨by (try simp only [hl525002_69]); (with_reducible repeat (first | apply Kd.R_alloc | apply Kd.R_drewN | apply Kd.R_drew)); exact HO_12.out⟩, ⟨by (try simp only [hl525002_69]); (with_reducible repeat (first | apply Kd.S_alloc | apply Kd.S_drewN | apply Kd.S_drew)); exact HO_507000.out⟩, ⟨by (try simp only [hl525002_69]); (with_reducible repeat (first | apply Kd.R_alloc | apply Kd.R_drewN | apply Kd.R_drew)); exact HO_507002.out⟩, ⟨by (try simp only [hl525002_69]); (with_reducible repeat (first | apply Kd.R_alloc | apply Kd.R_drewN | apply Kd.R_drew)); exact HO_507004.out⟩, ⟨by (try simp only [hl525002_69]); (with_reducible repeat (first | apply Kd.S_alloc | apply Kd.S_drewN | apply Kd.S_drew)); exact HO_525000.out⟩, ⟨by (try simp only [hl525002_69]); (with_reducible repeat (first | apply Kd.R_alloc | apply Kd.R_drewN | apply Kd.R_drew)); exact HO_525002.out⟩, ⟨by (try simp only [hl525002_69]); (with_reducible repeat (first | apply Kd.R_alloc | apply Kd.R_drewN | apply Kd.R_drew)); exact HO_525004.out⟩, ⟨by (try simp only [hl525002_69]); (with_reducible repeat (first | refine blk_drewN ?_ _ | refine blk_drew ?_ | refine blk_alloc ?_ _)); exact BK506.out⟩, ⟨by (try simp only [hl525002_69]); (with_reducible repeat (first | refine blk_drewN ?_ _ | refine blk_drew ?_ | refine blk_alloc ?_ _)); exact BK524.out⟩, ⟨by repeat (first | (with_reducible first | exact HB.out | apply below_alloc | apply pw_below_drewN | apply below_drew1 | refine below_set ?_ GE506.out | refine below_set ?_ GE524.out) | exact HB.out)⟩⟩
                                    · rw [if_neg c84] at H
                                      have c84b0 : ((rd t538 x14_4) == 3) = false := beq_eq_false_iff_ne.mpr c84
                                      have c84b1 : ((rd t538 x14_4) != 3) = true := bne_iff_ne.mpr c84
                                      by_cases c87 : x14_4 < (t507.length : Int)
                                      · rw [if_pos c87] at H
                                        have c87b0 : decide (x14_4 < (t507.length : Int)) = true := decide_eq_true c87
                                        clear c87
                                        by_cases c88 : (rd t538 x14_4) = (rd t507 x14_4)
                                        · rw [if_pos c88] at H
                                          have c88b0 : ((rd t538 x14_4) == (rd t507 x14_4)) = true := beq_iff_eq.mpr c88
                                          have c88b1 : ((rd t538 x14_4) != (rd t507 x14_4)) = false := bne_eq_false_iff_eq.mpr c88
                                          clear c88
                                          have H' := Aside0.mk H
                                          clear H
                                          obtain ⟨Ao89, co89, eo89⟩ := Kd.R_slice HO_12.out
                                          subst eo89
                                          try go_wp2
                                          have n0_ := Aside0.mk (Kd.R_drew HO_6.out)
                                          have n1_ := Aside0.mk (Kd.R_drew HO_12.out)
                                          have n2_ := Aside0.mk (Kd.S_drew HO_507000.out)
                                          have n3_ := Aside0.mk (Kd.R_drew HO_507002.out)
                                          have n4_ := Aside0.mk (Kd.R_drew HO_507004.out)
                                          have n5_ := Aside0.mk (Kd.S_drew HO_525000.out)
                                          have n6_ := Aside0.mk (Kd.R_drew HO_525002.out)
                                          have n7_ := Aside0.mk (Kd.R_drew HO_525004.out)
                                          have n8_ := Aside0.mk (blk_drew BK506.out)
                                          have n9_ := Aside0.mk (blk_drew BK524.out)
                                          have n10_ := Aside0.mk (below_drew1 HB.out)
                                          clear HO_6
                                          clear HO_12
                                          clear HO_507000
                                          clear HO_507002
                                          clear HO_507004
                                          clear HO_525000
                                          clear HO_525002
                                          clear HO_525004
                                          clear BK506
                                          clear BK524
                                          clear HB
                                          have HO_6 := n0_
                                          have HO_12 := n1_
                                          have HO_507000 := n2_
                                          have HO_507002 := n3_
                                          have HO_507004 := n4_
                                          have HO_525000 := n5_
                                          have HO_525002 := n6_
                                          have HO_525004 := n7_
                                          have BK506 := n8_
                                          have BK524 := n9_
                                          have HB := n10_
                                          clear n0_ n1_ n2_ n3_ n4_ n5_ n6_ n7_ n8_ n9_ n10_
                                          have p542 : 0 ≤ (x14_4 : Int) := of_decide_eq_true (by first | (with_reducible assumption) | assumption)
                                          have q542 : x14_4 < (t538.length : Int) := of_decide_eq_true (by first | (with_reducible assumption) | assumption)
                                          obtain ⟨ad542, e542, hx542_0⟩ := Kd.at_int (Kd.R_reads' HO_12.out).2.2 x14_4 p542 q542
                                          cases e542
                                          replace p542 := eq_true p542
                                          replace q542 := eq_true q542
                                          have p543 : 0 ≤ (x14_4 : Int) := of_decide_eq_true (by first | (with_reducible assumption) | assumption)
                                          have q543 : x14_4 < (t538.length : Int) := of_decide_eq_true (by first | (with_reducible assumption) | assumption)
                                          obtain ⟨ad543, e543, hx543_0⟩ := Kd.at_int (Kd.R_reads' HO_12.out).2.2 x14_4 p543 q543
                                          obtain rfl : ad542 = ad543 := (by injection e543)
                                          replace p543 := eq_true p543
                                          replace q543 := eq_true q543
                                          have p544 : 0 ≤ (x14_4 : Int) := of_decide_eq_true (by first | (with_reducible assumption) | assumption)
                                          have q544 : x14_4 < (t507.length : Int) := of_decide_eq_true (by first | (with_reducible assumption) | assumption)
                                          obtain ⟨ad544, e544, hx544_0⟩ := Kd.at_int (Kd.R_reads' HO_6.out).2.2 x14_4 p544 q544
                                          obtain rfl : ad525 = ad544 := (by injection e544)
                                          replace p544 := eq_true p544
                                          replace q544 := eq_true q544
                                          refine start_ (n := 16) (S := fun w' => w'.cell? (ad542.add (x14_4).toNat) = some (.int .i64 (rd t538 x14_4)) ∧ w'.cell? (ad542.add (x14_4).toNat) = some (.int .i64 (rd t538 x14_4)) ∧ w'.cell? (ad525.add (x14_4).toNat) = some (.int .i64 (rd t507 x14_4))) (ds := []) #[false, false, false, false, false, false, false, false, false, false, false, false, false, false, false, false] (by kernel_rfl) rfl rfl ⟨hx542_0, hx543_0, hx544_0⟩ (fun hHeld => ?_); refine with_tabW swarflaw04_StripMore.tab21 swarflaw04_StripMore.bits21 (fun HT_ HW_ => ?_)
                                          generalize wr.drew = w90 at HO_6 HO_12 HO_507000 HO_507002 HO_507004 HO_525000 HO_525002 HO_525004 BK506 BK524 HB hx542_0 hx543_0 hx544_0 hHeld ⊢
                                          refine pure_ (i := 0) (N := some 109) (v := ?_) (a' := ?_) #[true, false, false, false, false, false, false, false, false, false, false, false, false, false, false, false] rfl rfl (any_of HT_.out (by kernel_rfl)) (fun _ _ _ h => h) (Or.inl ⟨by rfl, ?_⟩) ?_ ?_
                                          rotate_left
                                          · intro w'
                                            go_simp
                                            with_reducible rfl
                                          rotate_left
                                          · simp only [Act.put, List.setIfInBounds_toArray, List.set_cons_zero, List.set_cons_succ, i64_w, i32_w]
                                            rfl
                                          refine pure_ (i := 1) (N := some 110) (v := ?_) (a' := ?_) #[true, true, false, false, false, false, false, false, false, false, false, false, false, false, false, false] rfl rfl (any_of HT_.out (by kernel_rfl)) (fun _ _ _ h => h) (Or.inl ⟨by rfl, ?_⟩) ?_ ?_
                                          rotate_left
                                          · intro w'
                                            go_simp
                                            with_reducible rfl
                                          rotate_left
                                          · simp only [Act.put, List.setIfInBounds_toArray, List.set_cons_zero, List.set_cons_succ, i64_w, i32_w]
                                            rfl
                                          refine pure_ (i := 2) (N := some 111) (v := ?_) (a' := ?_) #[true, true, true, false, false, false, false, false, false, false, false, false, false, false, false, false] rfl rfl (any_of HT_.out (by kernel_rfl)) (fun _ _ _ h => h) (Or.inl ⟨by rfl, ?_⟩) ?_ ?_
                                          rotate_left
                                          · intro w'
                                            go_simp
                                            with_reducible rfl
                                          rotate_left
                                          · simp only [Act.put, List.setIfInBounds_toArray, List.set_cons_zero, List.set_cons_succ, i64_w, i32_w]
                                            rfl
                                          refine take_ (i := 3) (N := some 112) (v := ?_) (a' := ?_) #[true, true, true, true, false, false, false, false, false, false, false, false, false, false, false, false] rfl rfl (take_ofW HT_.out HW_.out (by kernel_rfl)) (fun _ _ _ h => h) (Or.inl ⟨by rfl, ?_⟩) hHeld ?_ ?_
                                          rotate_left
                                          · rintro w' ⟨s0, s1, s2⟩
                                            go_simp
                                            with_reducible rfl
                                          rotate_left
                                          · simp only [Act.put, List.setIfInBounds_toArray, List.set_cons_zero, List.set_cons_succ, i64_w, i32_w]
                                            rfl
                                          refine pure_ (i := 4) (N := some 113) (v := ?_) (a' := ?_) #[true, true, true, true, true, false, false, false, false, false, false, false, false, false, false, false] rfl rfl (any_of HT_.out (by kernel_rfl)) (fun _ _ _ h => h) (Or.inl ⟨by rfl, ?_⟩) ?_ ?_
                                          rotate_left
                                          · intro w'
                                            go_simp
                                            with_reducible rfl
                                          rotate_left
                                          · simp only [Act.put, List.setIfInBounds_toArray, List.set_cons_zero, List.set_cons_succ, i64_w, i32_w]
                                            rfl
                                          refine pure_ (i := 5) (N := some 114) (v := ?_) (a' := ?_) #[true, true, true, true, true, true, false, false, false, false, false, false, false, false, false, false] rfl rfl (any_of HT_.out (by kernel_rfl)) (fun _ _ _ h => h) (Or.inl ⟨by rfl, ?_⟩) ?_ ?_
                                          rotate_left
                                          · intro w'
                                            go_simp
                                            with_reducible rfl
                                          rotate_left
                                          · simp only [Act.put, List.setIfInBounds_toArray, List.set_cons_zero, List.set_cons_succ, i64_w, i32_w]
                                            rfl
                                          refine pure_ (i := 6) (N := some 115) (v := ?_) (a' := ?_) #[true, true, true, true, true, true, true, false, false, false, false, false, false, false, false, false] rfl rfl (any_of HT_.out (by kernel_rfl)) (fun _ _ _ h => h) (Or.inl ⟨by rfl, ?_⟩) ?_ ?_
                                          rotate_left
                                          · intro w'
                                            go_simp
                                            with_reducible rfl
                                          rotate_left
                                          · simp only [Act.put, List.setIfInBounds_toArray, List.set_cons_zero, List.set_cons_succ, i64_w, i32_w]
                                            rfl
                                          refine pure_ (i := 7) (N := some 116) (v := ?_) (a' := ?_) #[true, true, true, true, true, true, true, true, false, false, false, false, false, false, false, false] rfl rfl (any_of HT_.out (by kernel_rfl)) (fun _ _ _ h => h) (Or.inl ⟨by rfl, ?_⟩) ?_ ?_
                                          rotate_left
                                          · intro w'
                                            go_simp
                                            with_reducible rfl
                                          rotate_left
                                          · simp only [Act.put, List.setIfInBounds_toArray, List.set_cons_zero, List.set_cons_succ, i64_w, i32_w]
                                            rfl
                                          refine pure_ (i := 8) (N := some 117) (v := ?_) (a' := ?_) #[true, true, true, true, true, true, true, true, true, false, false, false, false, false, false, false] rfl rfl (any_of HT_.out (by kernel_rfl)) (fun _ _ _ h => h) (Or.inl ⟨by rfl, ?_⟩) ?_ ?_
                                          rotate_left
                                          · intro w'
                                            go_simp
                                            with_reducible rfl
                                          rotate_left
                                          · simp only [Act.put, List.setIfInBounds_toArray, List.set_cons_zero, List.set_cons_succ, i64_w, i32_w]
                                            rfl
                                          refine pure_ (i := 10) (N := some 119) (v := ?_) (a' := ?_) #[true, true, true, true, true, true, true, true, true, false, true, false, false, false, false, false] rfl rfl (any_of HT_.out (by kernel_rfl)) (fun _ _ _ h => h) (Or.inl ⟨by rfl, ?_⟩) ?_ ?_
                                          rotate_left
                                          · intro w'
                                            go_simp
                                            with_reducible rfl
                                          rotate_left
                                          · simp only [Act.put, List.setIfInBounds_toArray, List.set_cons_zero, List.set_cons_succ, i64_w, i32_w]
                                            rfl
                                          refine pure_ (i := 11) (N := some 120) (v := ?_) (a' := ?_) #[true, true, true, true, true, true, true, true, true, false, true, true, false, false, false, false] rfl rfl (any_of HT_.out (by kernel_rfl)) (fun _ _ _ h => h) (Or.inl ⟨by rfl, ?_⟩) ?_ ?_
                                          rotate_left
                                          · intro w'
                                            go_simp
                                            with_reducible rfl
                                          rotate_left
                                          · simp only [Act.put, List.setIfInBounds_toArray, List.set_cons_zero, List.set_cons_succ, i64_w, i32_w]
                                            rfl
                                          refine pure_ (i := 12) (N := some 121) (v := ?_) (a' := ?_) #[true, true, true, true, true, true, true, true, true, false, true, true, true, false, false, false] rfl rfl (any_of HT_.out (by kernel_rfl)) (fun _ _ _ h => h) (Or.inl ⟨by rfl, ?_⟩) ?_ ?_
                                          rotate_left
                                          · intro w'
                                            go_simp
                                            with_reducible rfl
                                          rotate_left
                                          · simp only [Act.put, List.setIfInBounds_toArray, List.set_cons_zero, List.set_cons_succ, i64_w, i32_w]
                                            rfl
                                          refine take_ (i := 9) (N := some 118) (v := ?_) (a' := ?_) #[true, true, true, true, true, true, true, true, true, true, true, true, true, false, false, false] rfl rfl (take_ofW HT_.out HW_.out (by kernel_rfl)) (fun _ _ _ h => h) (Or.inl ⟨by rfl, ?_⟩) hHeld ?_ ?_
                                          rotate_left
                                          · rintro w' ⟨s0, s1, s2⟩
                                            go_simp
                                            with_reducible rfl
                                          rotate_left
                                          · simp only [Act.put, List.setIfInBounds_toArray, List.set_cons_zero, List.set_cons_succ, i64_w, i32_w]
                                            rfl
                                          refine take_ (i := 13) (N := some 122) (v := ?_) (a' := ?_) #[true, true, true, true, true, true, true, true, true, true, true, true, true, true, false, false] rfl rfl (take_ofW HT_.out HW_.out (by kernel_rfl)) (fun _ _ _ h => h) (Or.inl ⟨by rfl, ?_⟩) hHeld ?_ ?_
                                          rotate_left
                                          · rintro w' ⟨s0, s1, s2⟩
                                            go_simp
                                            with_reducible rfl
                                          rotate_left
                                          · simp only [Act.put, List.setIfInBounds_toArray, List.set_cons_zero, List.set_cons_succ, i64_w, i32_w]
                                            rfl
                                          refine pure_ (i := 14) (N := some 123) (v := ?_) (a' := ?_) #[true, true, true, true, true, true, true, true, true, true, true, true, true, true, true, false] rfl rfl (any_of HT_.out (by kernel_rfl)) (fun _ _ _ h => h) (Or.inl ⟨by rfl, ?_⟩) ?_ ?_
                                          rotate_left
                                          · intro w'
                                            go_simp
                                            with_reducible rfl
                                          rotate_left
                                          · simp only [Act.put, List.setIfInBounds_toArray, List.set_cons_zero, List.set_cons_succ, i64_w, i32_w]
                                            rfl
                                          refine pure_ (i := 15) (N := some 124) (v := ?_) (a' := ?_) #[true, true, true, true, true, true, true, true, true, true, true, true, true, true, true, true] rfl rfl (any_of HT_.out (by kernel_rfl)) (fun _ _ _ h => h) (Or.inl ⟨by rfl, ?_⟩) ?_ ?_
                                          rotate_left
                                          · intro w'
                                            go_simp
                                            with_reducible rfl
                                          rotate_left
                                          · simp only [Act.put, List.setIfInBounds_toArray, List.set_cons_zero, List.set_cons_succ, i64_w, i32_w]
                                            rfl
                                          refine done_ (done_of HT_.out (by kernel_rfl)) ?_
                                          try go_wp2
                                          go_roundg k4
                                          case measure => have := HJ4.out; have := HJ24.out; have := HJ69.out; have := HK4.out; omega
                                          case rel => exact ⟨(wrap64 (x14_4 + 1)), (by first | rfl | (simp; done) | (simp [*]; done)), H', ⟨by have := HJ4.out; have := HJ24.out; have := HJ69.out; have := HK4.out; omega⟩, ⟨by (try simp only [hl525002_69]); (with_reducible repeat (first | apply Kd.R_alloc | apply Kd.R_drewN | apply Kd.R_drew)); exact HO_6.out⟩, ⟨by (try simp only [hl525002_69]); (with_reducible repeat (first | apply Kd.R_alloc | apply Kd.R_drewN | apply Kd.R_drew)); exact HO_12.out⟩, ⟨by (try simp only [hl525002_69]); (with_reducible repeat (first | apply Kd.S_alloc | apply Kd.S_drewN | apply Kd.S_drew)); exact HO_507000.out⟩, ⟨by (try simp only [hl525002_69]); (with_reducible repeat (first | apply Kd.R_alloc | apply Kd.R_drewN | apply Kd.R_drew)); exact HO_507002.out⟩, ⟨by (try simp only [hl525002_69]); (with_reducible repeat (first | apply Kd.R_alloc | apply Kd.R_drewN | apply Kd.R_drew)); exact HO_507004.out⟩, ⟨by (try simp only [hl525002_69]); (with_reducible repeat (first | apply Kd.S_alloc | apply Kd.S_drewN | apply Kd.S_drew)); exact HO_525000.out⟩, ⟨by (try simp only [hl525002_69]); (with_reducible repeat (first | apply Kd.R_alloc | apply Kd.R_drewN | apply Kd.R_drew)); exact HO_525002.out⟩, ⟨by (try simp only [hl525002_69]); (with_reducible repeat (first | apply Kd.R_alloc | apply Kd.R_drewN | apply Kd.R_drew)); exact HO_525004.out⟩, ⟨by (try simp only [hl525002_69]); (with_reducible repeat (first | refine blk_drewN ?_ _ | refine blk_drew ?_ | refine blk_alloc ?_ _)); exact BK506.out⟩, ⟨by (try simp only [hl525002_69]); (with_reducible repeat (first | refine blk_drewN ?_ _ | refine blk_drew ?_ | refine blk_alloc ?_ _)); exact BK524.out⟩, ⟨by repeat (first | (with_reducible first | exact HB.out | apply below_alloc | apply pw_below_drewN | apply below_drew1 | refine below_set ?_ GE506.out | refine below_set ?_ GE524.out) | exact HB.out)⟩⟩
                                        · rw [if_neg c88] at H
                                          have c88b0 : ((rd t538 x14_4) == (rd t507 x14_4)) = false := beq_eq_false_iff_ne.mpr c88
                                          have c88b1 : ((rd t538 x14_4) != (rd t507 x14_4)) = true := bne_iff_ne.mpr c88
                                          exact absurd ((Option.some.inj H).trans hrt.out) (by decide)
                                      · rw [if_neg c87] at H
                                        exact absurd H (by simp)
                                  · rw [if_neg c83] at H
                                    exact absurd H (by simp)
                                · rw [if_neg c82] at H
                                  have c82b0 : decide (x14_4 < (t538.length : Int)) = false := decide_eq_false c82
                                  clear c82
                                  replace H := Option.bind_eq_some_iff.mp H
                                  obtain ⟨t545, A930, H⟩ := H
                                  replace H : (some t545) = some r := H
                                  have A93 := Aside0.mk A930
                                  clear A930
                                  obtain rfl := Option.some.inj H
                                  obtain ⟨Ao94, co94, eo94⟩ := Kd.R_slice HO_12.out
                                  subst eo94
                                  go_wp2_with (first | ((with_reducible refine gate_callee (f := 16) rfl ?_); refine goesL_ (some 125) rfl rfl Try.func16 (by kernel_rfl) rfl #[] rfl (by (try simp only [List.map_toArray, List.map_cons, List.map_nil]); first | done | rfl | (simp only [List.length_drop, List.length_take]; rfl)) ?_; (with_reducible refine (swarflaw04_awake.calls k4  t545 _ A93.out).mono ?_); rintro e w95 ⟨rfl, hb⟩; refine ⟨_, rfl, ?_⟩; have n0_ := Aside0.mk (Kd.R_below (by (with_reducible repeat (first | apply Kd.R_alloc | apply Kd.R_drewN | apply Kd.R_drew)); exact HO_6.out) hb); have n1_ := Aside0.mk (Kd.R_below (by (with_reducible repeat (first | apply Kd.R_alloc | apply Kd.R_drewN | apply Kd.R_drew)); exact HO_12.out) hb); have n2_ := Aside0.mk (Kd.S_below (by (with_reducible repeat (first | apply Kd.S_alloc | apply Kd.S_drewN | apply Kd.S_drew)); exact HO_507000.out) hb); have n3_ := Aside0.mk (Kd.R_below (by (with_reducible repeat (first | apply Kd.R_alloc | apply Kd.R_drewN | apply Kd.R_drew)); exact HO_507002.out) hb); have n4_ := Aside0.mk (Kd.R_below (by (with_reducible repeat (first | apply Kd.R_alloc | apply Kd.R_drewN | apply Kd.R_drew)); exact HO_507004.out) hb); have n5_ := Aside0.mk (Kd.S_below (by (with_reducible repeat (first | apply Kd.S_alloc | apply Kd.S_drewN | apply Kd.S_drew)); exact HO_525000.out) hb); have n6_ := Aside0.mk (Kd.R_below (by (with_reducible repeat (first | apply Kd.R_alloc | apply Kd.R_drewN | apply Kd.R_drew)); exact HO_525002.out) hb); have n7_ := Aside0.mk (Kd.R_below (by (with_reducible repeat (first | apply Kd.R_alloc | apply Kd.R_drewN | apply Kd.R_drew)); exact HO_525004.out) hb); have n8_ := Aside0.mk (blk_below (g := gb506) (o := .cells #[.slice Ao9 t491.length co9, .int .i64 t494, .slice Ao12 t495.length co12, .int .i64 t498, .slice Ao13 t499.length co13] 26 (0, 0)) (by (with_reducible repeat (first | refine blk_drewN ?_ _ | refine blk_drew ?_ | refine blk_alloc ?_ _)); exact BK506.out) hb); have n9_ := Aside0.mk (blk_below (g := gb524) (o := .cells #[.slice Ao32 t513.length co32, .int .i64 t516, .slice (some ⟨go67, 0, none⟩) y537.length co42, .int .i64 ji68, .slice Ao37 t521.length co37] 26 (0, 0)) (by (with_reducible repeat (first | refine blk_drewN ?_ _ | refine blk_drew ?_ | refine blk_alloc ?_ _)); exact BK524.out) hb); have n10_ := Aside0.mk (below_step (by repeat (first | (with_reducible first | exact HB.out | apply below_alloc | apply pw_below_drewN | apply below_drew1 | refine below_set ?_ GE506.out | refine below_set ?_ GE524.out) | exact HB.out)) hb); clear HO_6; clear HO_12; clear HO_507000; clear HO_507002; clear HO_507004; clear HO_525000; clear HO_525002; clear HO_525004; clear BK506; clear BK524; clear HB; have HO_6 := n0_; have HO_12 := n1_; have HO_507000 := n2_; have HO_507002 := n3_; have HO_507004 := n4_; have HO_525000 := n5_; have HO_525002 := n6_; have HO_525004 := n7_; have BK506 := n8_; have BK524 := n9_; have HB := n10_; clear n0_ n1_ n2_ n3_ n4_ n5_ n6_ n7_ n8_ n9_ n10_; (try clear hb); (try clear hb2); (try clear hk); (try clear hi)))
                                  go_ret
                                  exact ⟨by first | rfl | (simp [errW_none, errW_some] <;> rfl) | (simp only [← hji64, ← hji68]; first | rfl | (simp [errW_none, errW_some] <;> rfl)) | (simp [*, errW_none, errW_some] <;> rfl), by repeat (first | (with_reducible first | exact HB.out | apply below_alloc | apply pw_below_drewN | apply below_drew1 | refine below_set ?_ GE506.out | refine below_set ?_ GE524.out) | exact HB.out)⟩
                    · rw [if_neg c66] at H
                      exact absurd H (by simp)
                  · rw [if_neg c65] at H
                    exact absurd H (by simp)
            · rw [if_neg c24] at H
              exact absurd H (by simp)
          · rw [if_neg c23] at H
            exact absurd H (by simp)
        · rw [if_neg c22] at H
          exact absurd H (by simp)
def swarflaw04_StripMore.Pure : Prop := ∀ (l0 : List Int), l0.length ≤ maxLen → l0.length * 8 ≤ 140737488351232 → (∀ x ∈ l0, (Lit.int .i64 x).wf = true) → ∃ k, swarflaw04_StripMore.f k l0 = some true
theorem swarflaw04_StripMore.walk (P : swarflaw04_StripMore.Pure) (a0 : Option Addr) (len0 cap0 : Nat) (z0 : List Int) (w : World) (w0 : (a0 = none ∧ len0 = 0 ∧ cap0 = 0 ∧ z0 = []) ∨ ∃ x, a0 = some x ∧ len0 ≤ cap0 ∧ cap0 ≤ maxLen ∧ z0.length = cap0 ∧ (∀ i, i < z0.length → w.cell? (x.add i) = some (.int .i64 (z0.getD i 0))) ∧ ∀ n ∈ z0, (Lit.int .i64 n).wf = true) (y0 : len0 * 8 ≤ 140737488351232) :
    Calls Try.prog 7 #[.slice a0 len0 cap0] w fun e w' => e = .returned (.bool true) ∧ Below w.heap.size w w' := by
  obtain ⟨l0, rfl, hr0, hm0, hw0, hc0⟩ := ReadsInt.ofRowC w0
  obtain ⟨k, h⟩ := P l0 hm0 y0 hw0
  refine (swarflaw04_StripMore.calls k _ _ l0 true ⟨rfl⟩ w (Kd.C_of_reads (d := (0 : Int)) (h1 := fun _ => rfl) hr0) hc0 h).mono ?_
  rintro e w' ⟨rfl, hd⟩
  exact ⟨rfl, hd⟩
end Go.Proofs.Ytkkmfcdikkiodaa.PC4
namespace Go.Proofs.Ytkkmfcdikkiodaa.PC4
set_option linter.unusedVariables false
open Go.RowKit Go.Proofs.YtkkmfcdikkiodaaW.PrintWords Go.Proofs.YtkkmfcdikkiodaaW.PrintLast Go.Proofs.YtkkmfcdikkiodaaW.PrintMore
structure TruthSet (parts : List S50) (T : List Nat) : Prop where
  ne : T ≠ []
  few : parts.length ≤ 9
  pok : ∀ i, i < parts.length → PartOK i (parts.getD i z50)
  lt : ∀ s, s ∈ T → s < 65536
  ok : ∀ s, s ∈ T → ∀ i, i < parts.length → s.testBit i = true → ∀ x, x ∈ (parts.getD i z50).f0 → s.testBit x.toNat = true
def partV (T : List Nat) (i : Nat) : Int := verdictS (setsI T) (rawHas (i : Int))
def carV (parts : List S50) (T : List Nat) : Int := verdictS (setsI T) (rawAll (badMask parts : Nat))
theorem outL_getD (n : Nat) (T : List Nat) {i : Nat} (h : i < n) : (outL n T).getD i 0 = partV T i := by
  have hl : i < (outL n T).length := by rw [outL_len]; exact h
  rw [List.getD, List.getElem?_eq_getElem hl]
  simp [outL, partV]
theorem partV_cases {parts : List S50} {T : List Nat} (h : TruthSet parts T) {i : Nat} (hi : i < parts.length) :
    (partV T i = 1 ∧ ∀ s, s ∈ T → s.testBit i = true) ∨ (partV T i = 2 ∧ T ≠ [] ∧ ∀ s, s ∈ T → s.testBit i = false) ∨ (partV T i = 3 ∧ (∃ s, s ∈ T ∧ s.testBit i = true) ∧ ∃ s, s ∈ T ∧ s.testBit i = false) :=
  verdict_cases T _ (fun s => s.testBit i) (fun s hs => rawHas_eq s i (h.lt s hs) (by have := h.few; omega))
theorem some_truth {T : List Nat} (h : T ≠ []) : ∃ s, s ∈ T := List.exists_mem_of_ne_nil T h
theorem partV_one {parts : List S50} {T : List Nat} (h : TruthSet parts T) {i : Nat} (hi : i < parts.length) : partV T i = 1 ↔ ∀ s, s ∈ T → s.testBit i = true := by
  obtain ⟨s, hs⟩ := some_truth h.ne
  rcases partV_cases h hi with ⟨h1, h2⟩ | ⟨h1, _, h2⟩ | ⟨h1, _, t, ht, h2⟩
  · exact ⟨fun _ => h2, fun _ => h1⟩
  · refine ⟨fun e => by omega, fun e => ?_⟩
    have := e s hs
    rw [h2 s hs] at this
    cases this
  · refine ⟨fun e => by omega, fun e => ?_⟩
    have := e t ht
    rw [h2] at this
    cases this
theorem partV_two {parts : List S50} {T : List Nat} (h : TruthSet parts T) {i : Nat} (hi : i < parts.length) : partV T i = 2 ↔ ∀ s, s ∈ T → s.testBit i = false := by
  obtain ⟨s, hs⟩ := some_truth h.ne
  rcases partV_cases h hi with ⟨h1, h2⟩ | ⟨h1, _, h2⟩ | ⟨h1, ⟨t, ht, h2⟩, _⟩
  · refine ⟨fun e => by omega, fun e => ?_⟩
    have := e s hs
    rw [h2 s hs] at this
    cases this
  · exact ⟨fun _ => h2, fun _ => h1⟩
  · refine ⟨fun e => by omega, fun e => ?_⟩
    have := e t ht
    rw [h2] at this
    cases this
theorem truthSet {parts : List S50} {looks : List S61} {wrong : Int} (h9 : parts.length ≤ 9) (hp : ∀ i, i < parts.length → PartOK i (parts.getD i z50)) (hne : truthsL parts looks wrong ≠ []) : TruthSet parts (truthsL parts looks wrong) :=
  ⟨hne, h9, hp, fun s hs => by have h1 := ((mem_truths s).1 hs).1; have h2 := pow_le_512 h9; omega, fun s hs => (okM_iff hp s).1 ((mem_truths s).1 hs).2.1⟩
theorem CarGood.set {a1 a2 : Int} {parts : List S50} {swap : Int} {looks : List S61} {wrong : Int} {needs : List Int} {st : List Bool} (h : CarGood a1 a2 parts swap looks wrong needs st) (h9 : a1 ≤ 9) : TruthSet parts (truthsL parts looks wrong) :=
  truthSet (by have := h.few; omega) h.p.ok (fun e => by have := h.truth; rw [e] at this; cases this)
theorem CarGood.out {a1 a2 : Int} {parts : List S50} {swap : Int} {looks : List S61} {wrong : Int} {needs : List Int} {st : List Bool} (h : CarGood a1 a2 parts swap looks wrong needs st) (h9 : a1 ≤ 9) (h12 : a2 ≤ 12) :
    strip_Out.f parts swap looks wrong needs = some (outL parts.length (truthsL parts looks wrong), 0) := by
  unfold strip_Out.f outE
  rw [if_pos (h.fits h9 h12), if_pos (h.check h9 h12), if_neg (h.set h9).ne]
end Go.Proofs.Ytkkmfcdikkiodaa.PC4
namespace Go.Proofs.Ytkkmfcdikkiodaa.PC4
open Go.RowKit Go.Proofs.YtkkmfcdikkiodaaW.PrintWords Go.Proofs.YtkkmfcdikkiodaaW.PrintLast Go.Proofs.YtkkmfcdikkiodaaW.PrintMore
attribute [local go_sem] max2_int min2_int max_two min_two max_three min_three max_four min_four
set_option linter.unusedVariables false
set_option linter.unusedSimpArgs false
def swarfref04_IsClean.l0 : Nat → List Bool → Int → List (S50) → Int → List (S61) → Int → List Int → Option (Bool)
  | 0, _, _, _, _, _, _, _ => none
  | k + 1, x1, x5, x271000, x271001, x271002, x271003, x271004 => if x5 < (x1.length : Int) then (if 0 ≤ x5 then (if x5 < (x271000.length : Int) then (if (rd_T50 x271000 x5).f1 = true then (if rdOf false x1 x5 = true then (swarfref04_IsClean.l0 k x1 (wrap64 (x5 + 1)) x271000 x271001 x271002 x271003 x271004) else (some false)) else (swarfref04_IsClean.l0 k x1 (wrap64 (x5 + 1)) x271000 x271001 x271002 x271003 x271004)) else (none)) else (none)) else (some true)
def swarfref04_IsClean.f (k : Nat) (l0_0 : List (S50)) (a0_1 : Int) (l0_2 : List (S61)) (a0_3 : Int) (l0_4 : List Int) (l1 : List Bool) : Option (Bool) := swarfref04_IsClean.l0 k l1 0 l0_0 a0_1 l0_2 a0_3 l0_4
theorem swarfref04_IsClean.mono_l : ∀ k, (∀ y0 y1 y2 y3 y4 y5 y6, LeO (swarfref04_IsClean.l0 k y0 y1 y2 y3 y4 y5 y6) (swarfref04_IsClean.l0 (k + 1) y0 y1 y2 y3 y4 y5 y6))
  | 0 => fun _ _ _ _ _ _ _ r h => by simp [swarfref04_IsClean.l0] at h
  | k + 1 => by
    have ih0 := swarfref04_IsClean.mono_l k
    · intro y0 y1 y2 y3 y4 y5 y6
      unfold swarfref04_IsClean.l0
      repeat' first
      | (with_reducible exact ih0 _ _ _ _ _ _ _)
      | (with_reducible exact LeO.refl _)
      | (with_reducible exact LeO.none _)
      | (with_reducible refine LeO.ite ?_ ?_)
      | (with_reducible refine LeO.bind ?_ (fun _ => ?_))
      | exact ih0 _ _ _ _ _ _ _
      | exact LeO.none _
      | refine LeO.ite ?_ ?_
      | refine LeO.bind ?_ (fun _ => ?_)
theorem swarfref04_IsClean.mono : ∀ a0 a1 a2 a3 a4 a5 k, LeO (swarfref04_IsClean.f k a0 a1 a2 a3 a4 a5) (swarfref04_IsClean.f (k + 1) a0 a1 a2 a3 a4 a5) := by
  intro a0 a1 a2 a3 a4 a5 k
  have ih0 := swarfref04_IsClean.mono_l k
  unfold swarfref04_IsClean.f
  repeat' first
      | (with_reducible exact ih0 _ _ _ _ _ _ _)
      | (with_reducible exact LeO.refl _)
      | (with_reducible exact LeO.none _)
      | (with_reducible refine LeO.ite ?_ ?_)
      | (with_reducible refine LeO.bind ?_ (fun _ => ?_))
      | exact ih0 _ _ _ _ _ _ _
      | exact LeO.none _
      | refine LeO.ite ?_ ?_
      | refine LeO.bind ?_ (fun _ => ?_)
set_option maxHeartbeats 8000000 in
set_option maxRecDepth 100000 in
theorem swarfref04_IsClean.calls (k : Nat) (A0_0 : Option Addr) (c0_0 : Nat) (l0_0 : List (S50)) (a0_1 : Int) (A0_2 : Option Addr) (c0_2 : Nat) (l0_2 : List (S61)) (a0_3 : Int) (A0_4 : Option Addr) (c0_4 : Nat) (l0_4 : List Int) (A1 : Option Addr) (c1 : Nat) (l1 : List Bool) (r : Bool) (w : World) (hr0_0 : Kd.C k50 w A0_0 l0_0.length l0_0) (hc0_0 : l0_0.length ≤ c0_0) (hr0_2 : Kd.C k61 w A0_2 l0_2.length l0_2) (hc0_2 : l0_2.length ≤ c0_2) (hr0_4 : Kd.C (Kd.int .i64) w A0_4 l0_4.length l0_4) (hc0_4 : l0_4.length ≤ c0_4) (hr1 : Kd.C Kd.bool w A1 l1.length l1) (hc1 : l1.length ≤ c1) (h : swarfref04_IsClean.f k l0_0 a0_1 l0_2 a0_3 l0_4 l1 = some r) :
    Calls Try.prog 29 #[.agg #[.slice A0_0 l0_0.length c0_0, .int .i64 a0_1, .slice A0_2 l0_2.length c0_2, .int .i64 a0_3, .slice A0_4 l0_4.length c0_4], .slice A1 l1.length c1] w fun e w' => e = .returned (.bool r) ∧ Below w.heap.size w w' := by
  have hu26 := Try.underlying26
  have HR0_0 := Aside0.mk hr0_0
  have HC0_0 := Aside0.mk hc0_0
  clear hr0_0 hc0_0
  have HR0_2 := Aside0.mk hr0_2
  have HC0_2 := Aside0.mk hc0_2
  clear hr0_2 hc0_2
  have HR0_4 := Aside0.mk hr0_4
  have HC0_4 := Aside0.mk hc0_4
  clear hr0_4 hc0_4
  have HR1 := Aside0.mk hr1
  have HC1 := Aside0.mk hc1
  clear hr1 hc1
  have HB := Aside0.mk (Below.refl w.heap.size w)
  have H : (swarfref04_IsClean.l0 k l1 0 l0_0 a0_1 l0_2 a0_3 l0_4) = some r := h
  clear h
  have H' := Aside0.mk H
  clear H
  go_enter Try.func29, Try.ntmps29
  go_wp2_with (first | ((with_reducible refine gate_dst (N := 2) rfl ?_); refine box_event ?hg (N := 2) ?hd (cs := #[.slice A0_0 l0_0.length c0_0, .int .i64 a0_1, .slice A0_2 l0_2.length c0_2, .int .i64 a0_3, .slice A0_4 l0_4.length c0_4]) (t := 26) ?hr ?_; (case hd => rfl); (case hg => rfl); (case hr => first | (go_simp; done) | (go_simp; rfl)); intro gb270 hg w3 hbox hb; have n0_ := Aside0.mk (below_step (by repeat (first | (with_reducible first | exact HB.out | apply below_alloc | apply pw_below_drewN | apply below_drew1) | exact HB.out)) hb); have n1_ := Aside0.mk (hbox); have n2_ := Aside0.mk ((by rw [hg]; exact (below_size (by repeat (first | (with_reducible first | exact HB.out | apply below_alloc | apply pw_below_drewN | apply below_drew1) | exact HB.out))) : w.heap.size ≤ gb270)); have n3_ := Aside0.mk ((by rw [hg]; exact (below_size (by repeat (first | (with_reducible first | exact HB.out | apply below_alloc | apply pw_below_drewN | apply below_drew1) | exact HB.out))) : w.heap.size ≤ gb270)); clear HB; have HB := n0_; have BK270 := n1_; have GW270 := n2_; have GE270 := n3_; clear n0_ n1_ n2_ n3_; clear hb hbox hg))
  go_loopg [5] k (fun kq v5 w' => ∃ (x5_1 : Int), v5 = .int .i64 x5_1 ∧ Aside0 (swarfref04_IsClean.l0 kq l1 x5_1 l0_0 a0_1 l0_2 a0_3 l0_4 = some r) ∧ Aside0 (kq ≤ k) ∧ Aside0 (w'.heap[gb270]? = some (.cells #[(.slice A0_0 l0_0.length c0_0), .int .i64 a0_1, (.slice A0_2 l0_2.length c0_2), .int .i64 a0_3, (.slice A0_4 l0_4.length c0_4)] 26 (0, 0))) ∧ Aside0 (Below w.heap.size w w'))
  case atStart => exact ⟨(0), (by first | rfl | (simp; done) | (simp [*]; done)), H', ⟨Nat.le_refl _⟩, ⟨by (with_reducible repeat (first | refine blk_drewN ?_ _ | refine blk_drew ?_ | refine blk_alloc ?_ _)); exact BK270.out⟩, ⟨by repeat (first | (with_reducible first | exact HB.out | apply below_alloc | apply pw_below_drewN | apply below_drew1 | refine below_set ?_ GE270.out) | exact HB.out)⟩⟩
  case round =>
    clear H'
    try clear c1
    try clear c2
    try clear p2
    obtain ⟨x5_1, rfl, HA, HK1, BK270, HB⟩ := hrel
    cases gk with
    | zero => exact absurd HA.out (by simp [swarfref04_IsClean.l0])
    | succ k1 =>
      have H := HA.out
      clear HA
      simp only [swarfref04_IsClean.l0] at H
      by_cases c4 : x5_1 < (l1.length : Int)
      · rw [if_pos c4] at H
        have c4b0 : decide (x5_1 < (l1.length : Int)) = true := decide_eq_true c4
        clear c4
        by_cases c5 : 0 ≤ x5_1
        · rw [if_pos c5] at H
          have c5b0 : decide (0 ≤ x5_1) = true := decide_eq_true c5
          clear c5
          by_cases c6 : x5_1 < (l0_0.length : Int)
          · rw [if_pos c6] at H
            have c6b0 : decide (x5_1 < (l0_0.length : Int)) = true := decide_eq_true c6
            clear c6
            obtain ⟨bq7, hbq7⟩ : ∃ b_ : Bool, b_ = ((rd_T50 l0_0 x5_1).f1) := ⟨_, rfl⟩
            replace H : (if bq7 = true then (if rdOf false l1 x5_1 = true then (swarfref04_IsClean.l0 k1 l1 (wrap64 (x5_1 + 1)) l0_0 a0_1 l0_2 a0_3 l0_4) else (some false)) else (swarfref04_IsClean.l0 k1 l1 (wrap64 (x5_1 + 1)) l0_0 a0_1 l0_2 a0_3 l0_4)) = some r := by rw [← hbq7] at H; exact H
            have Nbq7 := Aside0.mk hbq7
            clear hbq7
            by_cases c8 : bq7 = true
            · subst c8
              have H1 : (if rdOf false l1 x5_1 = true then (swarfref04_IsClean.l0 k1 l1 (wrap64 (x5_1 + 1)) l0_0 a0_1 l0_2 a0_3 l0_4) else (some false)) = some r := by rw [if_pos rfl] at H; exact H
              clear H
              have H := H1
              clear H1
              obtain ⟨bq9, hbq9⟩ : ∃ b_ : Bool, b_ = (rdOf false l1 x5_1) := ⟨_, rfl⟩
              replace H : (if bq9 = true then (swarfref04_IsClean.l0 k1 l1 (wrap64 (x5_1 + 1)) l0_0 a0_1 l0_2 a0_3 l0_4) else (some false)) = some r := by rw [← hbq9] at H; exact H
              have Nbq9 := Aside0.mk hbq9
              clear hbq9
              by_cases c10 : bq9 = true
              · subst c10
                have H1 : (swarfref04_IsClean.l0 k1 l1 (wrap64 (x5_1 + 1)) l0_0 a0_1 l0_2 a0_3 l0_4) = some r := by rw [if_pos rfl] at H; exact H
                clear H
                have H := H1
                clear H1
                have H' := Aside0.mk H
                clear H
                have hcz11_0 : wr.cell? ⟨gb270, 0, none⟩ = some (.slice A0_0 l0_0.length c0_0) := (blk_cell BK270.out 0).trans rfl
                have hcz11_1 : wr.cell? ⟨gb270, 1, none⟩ = some (.int .i64 a0_1) := (blk_cell BK270.out 1).trans rfl
                have hcz11_2 : wr.cell? ⟨gb270, 2, none⟩ = some (.slice A0_2 l0_2.length c0_2) := (blk_cell BK270.out 2).trans rfl
                have hcz11_3 : wr.cell? ⟨gb270, 3, none⟩ = some (.int .i64 a0_3) := (blk_cell BK270.out 3).trans rfl
                have hcz11_4 : wr.cell? ⟨gb270, 4, none⟩ = some (.slice A0_4 l0_4.length c0_4) := (blk_cell BK270.out 4).trans rfl
                have hfz11_0 := blk_frozen BK270.out 0
                have hfz11_1 := blk_frozen BK270.out 1
                have hfz11_2 := blk_frozen BK270.out 2
                have hfz11_3 := blk_frozen BK270.out 3
                have hfz11_4 := blk_frozen BK270.out 4
                have p271 : 0 ≤ (x5_1 : Int) := of_decide_eq_true (by first | (with_reducible assumption) | assumption)
                have q271 : x5_1 < (l0_0.length : Int) := of_decide_eq_true (by first | (with_reducible assumption) | assumption)
                obtain ⟨ad271, A271_0, c271_0, e271, hx271_0, hx271_1, hx271_2, hx271_3, hl271_0, hi271_0⟩ := at_T50 HR0_0.out x5_1 p271 q271
                (try rw [← Nbq7.out] at hx271_1)
                (try rw [← Nbq9.out] at hx271_1)
                cases e271
                replace hx271_0 := (HB.out.cell (World.block_lt_of_cell? w _ hx271_0)).trans hx271_0
                replace hx271_1 := (HB.out.cell (World.block_lt_of_cell? w _ hx271_1)).trans hx271_1
                replace hx271_2 := (HB.out.cell (World.block_lt_of_cell? w _ hx271_2)).trans hx271_2
                replace hx271_3 := (HB.out.cell (World.block_lt_of_cell? w _ hx271_3)).trans hx271_3
                have HR271_0 := Aside0.mk hi271_0
                have HC271_0 := Aside0.mk hl271_0
                clear hi271_0 hl271_0
                replace p271 := eq_true p271
                replace q271 := eq_true q271
                have p272 : 0 ≤ (x5_1 : Int) := of_decide_eq_true (by first | (with_reducible assumption) | assumption)
                have q272 : x5_1 < (l1.length : Int) := of_decide_eq_true (by first | (with_reducible assumption) | assumption)
                obtain ⟨ad272, e272, hx272_0⟩ := Kd.at_bool HR1.out x5_1 p272 q272
                (try rw [← Nbq7.out] at hx272_0)
                (try rw [← Nbq9.out] at hx272_0)
                cases e272
                replace hx272_0 := (HB.out.cell (World.block_lt_of_cell? w _ hx272_0)).trans hx272_0
                replace p272 := eq_true p272
                replace q272 := eq_true q272
                go_wp2
                go_roundg k1
                case measure => have := HK1.out; omega
                case rel => exact ⟨(wrap64 (x5_1 + 1)), (by first | rfl | (simp; done) | (simp [*]; done)), H', ⟨by have := HK1.out; omega⟩, ⟨by (with_reducible repeat (first | refine blk_drewN ?_ _ | refine blk_drew ?_ | refine blk_alloc ?_ _)); exact BK270.out⟩, ⟨by repeat (first | (with_reducible first | exact HB.out | apply below_alloc | apply pw_below_drewN | apply below_drew1 | refine below_set ?_ GE270.out) | exact HB.out)⟩⟩
              · replace c10 := Bool.eq_false_iff.mpr c10
                subst c10
                have H1 : (some false) = some r := by rw [if_neg (show ¬ (false = true) by decide)] at H; exact H
                clear H
                have H := H1
                clear H1
                obtain rfl := Option.some.inj H
                have hcz12_0 : wr.cell? ⟨gb270, 0, none⟩ = some (.slice A0_0 l0_0.length c0_0) := (blk_cell BK270.out 0).trans rfl
                have hcz12_1 : wr.cell? ⟨gb270, 1, none⟩ = some (.int .i64 a0_1) := (blk_cell BK270.out 1).trans rfl
                have hcz12_2 : wr.cell? ⟨gb270, 2, none⟩ = some (.slice A0_2 l0_2.length c0_2) := (blk_cell BK270.out 2).trans rfl
                have hcz12_3 : wr.cell? ⟨gb270, 3, none⟩ = some (.int .i64 a0_3) := (blk_cell BK270.out 3).trans rfl
                have hcz12_4 : wr.cell? ⟨gb270, 4, none⟩ = some (.slice A0_4 l0_4.length c0_4) := (blk_cell BK270.out 4).trans rfl
                have hfz12_0 := blk_frozen BK270.out 0
                have hfz12_1 := blk_frozen BK270.out 1
                have hfz12_2 := blk_frozen BK270.out 2
                have hfz12_3 := blk_frozen BK270.out 3
                have hfz12_4 := blk_frozen BK270.out 4
                have p271 : 0 ≤ (x5_1 : Int) := of_decide_eq_true (by first | (with_reducible assumption) | assumption)
                have q271 : x5_1 < (l0_0.length : Int) := of_decide_eq_true (by first | (with_reducible assumption) | assumption)
                obtain ⟨ad271, A271_0, c271_0, e271, hx271_0, hx271_1, hx271_2, hx271_3, hl271_0, hi271_0⟩ := at_T50 HR0_0.out x5_1 p271 q271
                (try rw [← Nbq7.out] at hx271_1)
                (try rw [← Nbq9.out] at hx271_1)
                cases e271
                replace hx271_0 := (HB.out.cell (World.block_lt_of_cell? w _ hx271_0)).trans hx271_0
                replace hx271_1 := (HB.out.cell (World.block_lt_of_cell? w _ hx271_1)).trans hx271_1
                replace hx271_2 := (HB.out.cell (World.block_lt_of_cell? w _ hx271_2)).trans hx271_2
                replace hx271_3 := (HB.out.cell (World.block_lt_of_cell? w _ hx271_3)).trans hx271_3
                have HR271_0 := Aside0.mk hi271_0
                have HC271_0 := Aside0.mk hl271_0
                clear hi271_0 hl271_0
                replace p271 := eq_true p271
                replace q271 := eq_true q271
                have p272 : 0 ≤ (x5_1 : Int) := of_decide_eq_true (by first | (with_reducible assumption) | assumption)
                have q272 : x5_1 < (l1.length : Int) := of_decide_eq_true (by first | (with_reducible assumption) | assumption)
                obtain ⟨ad272, e272, hx272_0⟩ := Kd.at_bool HR1.out x5_1 p272 q272
                (try rw [← Nbq7.out] at hx272_0)
                (try rw [← Nbq9.out] at hx272_0)
                cases e272
                replace hx272_0 := (HB.out.cell (World.block_lt_of_cell? w _ hx272_0)).trans hx272_0
                replace p272 := eq_true p272
                replace q272 := eq_true q272
                go_wp2
                go_ret
                exact ⟨by first | rfl | (simp [errW_none, errW_some] <;> rfl) | (simp [*, errW_none, errW_some] <;> rfl), by repeat (first | (with_reducible first | exact HB.out | apply below_alloc | apply pw_below_drewN | apply below_drew1 | refine below_set ?_ GE270.out) | exact HB.out)⟩
            · replace c8 := Bool.eq_false_iff.mpr c8
              subst c8
              have H1 : (swarfref04_IsClean.l0 k1 l1 (wrap64 (x5_1 + 1)) l0_0 a0_1 l0_2 a0_3 l0_4) = some r := by rw [if_neg (show ¬ (false = true) by decide)] at H; exact H
              clear H
              have H := H1
              clear H1
              have H' := Aside0.mk H
              clear H
              have hcz13_0 : wr.cell? ⟨gb270, 0, none⟩ = some (.slice A0_0 l0_0.length c0_0) := (blk_cell BK270.out 0).trans rfl
              have hcz13_1 : wr.cell? ⟨gb270, 1, none⟩ = some (.int .i64 a0_1) := (blk_cell BK270.out 1).trans rfl
              have hcz13_2 : wr.cell? ⟨gb270, 2, none⟩ = some (.slice A0_2 l0_2.length c0_2) := (blk_cell BK270.out 2).trans rfl
              have hcz13_3 : wr.cell? ⟨gb270, 3, none⟩ = some (.int .i64 a0_3) := (blk_cell BK270.out 3).trans rfl
              have hcz13_4 : wr.cell? ⟨gb270, 4, none⟩ = some (.slice A0_4 l0_4.length c0_4) := (blk_cell BK270.out 4).trans rfl
              have hfz13_0 := blk_frozen BK270.out 0
              have hfz13_1 := blk_frozen BK270.out 1
              have hfz13_2 := blk_frozen BK270.out 2
              have hfz13_3 := blk_frozen BK270.out 3
              have hfz13_4 := blk_frozen BK270.out 4
              have p271 : 0 ≤ (x5_1 : Int) := of_decide_eq_true (by first | (with_reducible assumption) | assumption)
              have q271 : x5_1 < (l0_0.length : Int) := of_decide_eq_true (by first | (with_reducible assumption) | assumption)
              obtain ⟨ad271, A271_0, c271_0, e271, hx271_0, hx271_1, hx271_2, hx271_3, hl271_0, hi271_0⟩ := at_T50 HR0_0.out x5_1 p271 q271
              (try rw [← Nbq7.out] at hx271_1)
              cases e271
              replace hx271_0 := (HB.out.cell (World.block_lt_of_cell? w _ hx271_0)).trans hx271_0
              replace hx271_1 := (HB.out.cell (World.block_lt_of_cell? w _ hx271_1)).trans hx271_1
              replace hx271_2 := (HB.out.cell (World.block_lt_of_cell? w _ hx271_2)).trans hx271_2
              replace hx271_3 := (HB.out.cell (World.block_lt_of_cell? w _ hx271_3)).trans hx271_3
              have HR271_0 := Aside0.mk hi271_0
              have HC271_0 := Aside0.mk hl271_0
              clear hi271_0 hl271_0
              replace p271 := eq_true p271
              replace q271 := eq_true q271
              go_wp2
              go_roundg k1
              case measure => have := HK1.out; omega
              case rel => exact ⟨(wrap64 (x5_1 + 1)), (by first | rfl | (simp; done) | (simp [*]; done)), H', ⟨by have := HK1.out; omega⟩, ⟨by (with_reducible repeat (first | refine blk_drewN ?_ _ | refine blk_drew ?_ | refine blk_alloc ?_ _)); exact BK270.out⟩, ⟨by repeat (first | (with_reducible first | exact HB.out | apply below_alloc | apply pw_below_drewN | apply below_drew1 | refine below_set ?_ GE270.out) | exact HB.out)⟩⟩
          · rw [if_neg c6] at H
            exact absurd H (by simp)
        · rw [if_neg c5] at H
          exact absurd H (by simp)
      · rw [if_neg c4] at H
        have c4b0 : decide (x5_1 < (l1.length : Int)) = false := decide_eq_false c4
        clear c4
        obtain rfl := Option.some.inj H
        go_wp2
        go_ret
        exact ⟨by first | rfl | (simp [errW_none, errW_some] <;> rfl) | (simp [*, errW_none, errW_some] <;> rfl), by repeat (first | (with_reducible first | exact HB.out | apply below_alloc | apply pw_below_drewN | apply below_drew1 | refine below_set ?_ GE270.out) | exact HB.out)⟩
end Go.Proofs.Ytkkmfcdikkiodaa.PC4
namespace Go.Proofs.Ytkkmfcdikkiodaa.PC4
set_option linter.unusedVariables false
open Go.RowKit Go.Proofs.YtkkmfcdikkiodaaW.PrintWords Go.Proofs.YtkkmfcdikkiodaaW.PrintLast Go.Proofs.YtkkmfcdikkiodaaW.PrintMore
theorem Ev.succ {α : Type} {g : Nat → Option α} {r : α} (h : Ev (fun k => g (k + 1)) r) : Ev g r := Ev.step (fun _ => rfl) h
theorem Res.succ {α : Type} {g : Nat → Option α} {P : α → Prop} (h : Res (fun k => g (k + 1)) P) : Res g P := Res.step (fun _ => rfl) h
theorem Res.of {α : Type} {g : Nat → Option α} {P : α → Prop} {r : α} (h : Ev g r) (hp : P r) : Res g P := ⟨r, h, hp⟩
theorem Res.now {α : Type} {P : α → Prop} {r : α} (hp : P r) : Res (fun _ => some r) P := ⟨r, Ev.now r, hp⟩
theorem Res.mono {α : Type} {g : Nat → Option α} {P Q : α → Prop} (h : Res g P) (k : ∀ r, P r → Q r) : Res g Q := by
  obtain ⟨r, h1, h2⟩ := h
  exact ⟨r, h1, k r h2⟩
theorem Ev.tail {α : Type} {g : Nat → Option α} {r : α} (h : Ev g r) : Ev (fun k => (g k).bind fun t => some t) r := Ev.bind h (Ev.now r)
theorem Ev.take {α β : Type} {o : Option α} {a : α} {f : Nat → α → Option β} {r : β} (h : o = some a) (k : Ev (fun n => f n a) r) : Ev (fun n => o.bind (f n)) r := by subst h; exact k
theorem Res.take {α β : Type} {o : Option α} {a : α} {f : Nat → α → Option β} {P : β → Prop} (h : o = some a) (k : Res (fun n => f n a) P) : Res (fun n => o.bind (f n)) P := by subst h; exact k
theorem wrapS {i : Nat} (h : i < 4611686018427387904) : wrap64 ((i : Int) + 1) = ((i + 1 : Nat) : Int) := by rw [wrap64_id (by omega) (by omega)]; omega
theorem wrapP {i : Nat} (h0 : 0 < i) (h : i < 4611686018427387904) : wrap64 ((i : Int) - 1) = ((i - 1 : Nat) : Int) := by rw [wrap64_id (by omega) (by omega)]; omega
theorem rd50 (l : List S50) (k : Nat) : rd_T50 l (k : Int) = l.getD k z50 := by simp [rd_T50]
theorem rd61 (l : List S61) (k : Nat) : rd_T61 l (k : Int) = l.getD k z61 := by simp [rd_T61]
theorem getD_mem {α : Type} (l : List α) (k : Nat) (d : α) (h : k < l.length) : l.getD k d ∈ l := by
  rw [List.getD, List.getElem?_eq_getElem h]; exact List.getElem_mem h
theorem getD_get {α : Type} (l : List α) (k : Nat) (d : α) (h : k < l.length) : l.getD k d = l[k] := by
  rw [List.getD, List.getElem?_eq_getElem h]; rfl
theorem ints_f (l : List Int) (h : l.length < 17592186044416) : swarfkit_Ints.f l = some l := by
  unfold swarfkit_Ints.f
  simp (disch := omega) only [Option.bind_some, List.length_nil, List.nil_append, if_pos]
theorem copyCar_l0 (parts : List S50) (swap : Int) (looks : List S61) (wrong : Int) (needs : List Int) (s2 : Int) (l2 : List S61) (w2 : Int) (n2 : List Int) (hl : parts.length ≤ 100000) (hb : ∀ p, p ∈ parts → p.f0.length ≤ 100000) (d : Nat) :
    ∀ (i : Nat), i + d = parts.length → Ev (fun K => swarfkit_CopyCar.l0 K (i : Int) parts swap looks wrong needs (parts.take i) s2 l2 w2 n2) (parts, s2, l2, w2, n2) := by
  induction d with
  | zero =>
    intro i hi
    refine Ev.succ ?_
    simp (disch := omega) only [swarfkit_CopyCar.l0, if_neg]
    rw [List.take_of_length_le (by omega)]
    exact Ev.now _
  | succ d ih =>
    intro i hi
    have hlt : i < parts.length := by omega
    have ihk := ih (i + 1) (by omega)
    have hp := hb _ (getD_mem parts i z50 hlt)
    have htl : (parts.take i).length ≤ i := List.length_take_le _ _
    refine Ev.succ ?_
    simp (disch := omega) only [swarfkit_CopyCar.l0, if_pos, wrapS, rd50, ints_f, Option.bind_some]
    rw [List.take_succ_eq_append_getElem hlt] at ihk
    rw [getD_get _ _ _ hlt]
    exact ihk
theorem copyCar_ev (parts : List S50) (swap : Int) (looks : List S61) (wrong : Int) (needs : List Int) (hl : parts.length ≤ 100000) (hb : ∀ p, p ∈ parts → p.f0.length ≤ 100000) (h2 : looks.length ≤ 100000) (h3 : needs.length ≤ 100000) :
    Ev (fun K => swarfkit_CopyCar.f K parts swap looks wrong needs) (parts, swap, looks, wrong, needs) := by
  unfold swarfkit_CopyCar.f
  simp (disch := omega) only [Option.bind_some, List.length_nil, List.nil_append, if_pos, ints_f]
  exact copyCar_l0 parts swap looks wrong needs swap looks wrong needs hl hb parts.length 0 (by omega)
theorem CarGood.copy {a1 a2 : Int} {parts : List S50} {swap : Int} {looks : List S61} {wrong : Int} {needs : List Int} {st : List Bool} (h : CarGood a1 a2 parts swap looks wrong needs st) (h9 : a1 ≤ 9) (h12 : a2 ≤ 12) :
    Ev (fun K => swarfkit_CopyCar.f K parts swap looks wrong needs) (parts, swap, looks, wrong, needs) := by
  have hf := h.few
  have hl := h.ll
  have hn := h.nl
  refine copyCar_ev parts swap looks wrong needs (by omega) (fun p hp => ?_) (by omega) (by omega)
  obtain ⟨i, hi, rfl⟩ := List.getElem_of_mem hp
  have hk2 := h.p.ok i hi
  rw [getD_get _ _ _ hi] at hk2
  have : (parts[i]).f0.length ≤ i := hk2.len
  omega
theorem CarGood.check2 {a1 a2 : Int} {parts : List S50} {swap : Int} {looks : List S61} {wrong : Int} {needs : List Int} {st : List Bool} (h : CarGood a1 a2 parts swap looks wrong needs st) (h9 : a1 ≤ 9) (h12 : a2 ≤ 12) {w : Int} (h0 : 0 ≤ w) (h1 : w ≤ 12) : checkE parts swap looks w needs = 0 := by
  have hc := h.check h9 h12
  have e1 : inB wrong 0 12 = true := inB_of ⟨h.wr.1, h.wr.2.1⟩
  have e2 : inB w 0 12 = true := inB_of ⟨h0, h1⟩
  unfold checkE checkT at hc ⊢
  rw [e1] at hc
  rw [e2]
  exact hc
theorem CarGood.out2 {a1 a2 : Int} {parts : List S50} {swap : Int} {looks : List S61} {wrong : Int} {needs : List Int} {st : List Bool} (h : CarGood a1 a2 parts swap looks wrong needs st) (h9 : a1 ≤ 9) (h12 : a2 ≤ 12) {w : Int} (h0 : 0 ≤ w) (h1 : w ≤ 12) :
    strip_Out.f parts swap looks w needs = some (if truthsL parts looks w = [] then ([], 9) else (outL parts.length (truthsL parts looks w), 0)) := by
  unfold strip_Out.f outE
  rw [if_pos (h.fits h9 h12), if_pos (h.check2 h9 h12 h0 h1)]
end Go.Proofs.Ytkkmfcdikkiodaa.PC4
namespace Go.Proofs.Ytkkmfcdikkiodaa.PC4
set_option linter.unusedVariables false
set_option linter.unusedSimpArgs false
open Go.RowKit Go.Proofs.YtkkmfcdikkiodaaW.PrintWords Go.Proofs.YtkkmfcdikkiodaaW.PrintLast
theorem wrongB_snoc (st : List Bool) (l : List S61) (x : S61) : wrongB st (l ++ [x]) = wrongB st l + (if st.getD x.f0.toNat false != x.f1 then 1 else 0) := by
  induction l with
  | nil => simp [wrongB]
  | cons y l ih => simp only [List.cons_append, wrongB, ih]; omega
theorem CarGood.more {a1 a2 : Int} {parts : List S50} {swap : Int} {looks : List S61} {wrong : Int} {needs : List Int} {st : List Bool} (h : CarGood a1 a2 parts swap looks wrong needs st) {x : S61} {w : Int} (hx : 0 ≤ x.f0 ∧ x.f0 < parts.length) (hw : 0 ≤ w ∧ w ≤ 12 ∧ (wrongB st (looks ++ [x]) : Int) ≤ w) :
    CarGood a1 (a2 + 1) parts swap (looks ++ [x]) w needs st := by
  refine ⟨h.p, h.one, h.few, h.sw, fun l hl => ?_, ?_, hw, h.nd, h.nl⟩
  · rcases List.mem_append.1 hl with hl | hl
    · exact h.lk l hl
    · rw [List.mem_singleton.1 hl]; exact hx
  · have := h.ll
    rw [List.length_append, List.length_singleton]
    omega
section
variable (out out2 : List Int)
theorem more_l0 (hl : out2.length = out.length) (h9 : out.length ≤ 100) (hv : ∀ i, i < out.length → out2.getD i 0 ≠ 3 → out2.getD i 0 = out.getD i 0) (d : Nat) : ∀ i : Nat, i + d = out2.length → Ev (fun K => swarflaw04_StripMore.l0 K out out2 (i : Int)) true := by
  induction d with
  | zero =>
    intro i hi
    refine Ev.succ ?_
    simp (disch := omega) only [swarflaw04_StripMore.l0, if_neg]
    exact Ev.tail awake_ev
  | succ d ih =>
    intro i hi
    have ihk := ih (i + 1) (by omega)
    have hvi := hv i (by omega)
    refine Ev.succ ?_
    simp (disch := omega) only [swarflaw04_StripMore.l0, if_pos, wrapS, rd_getD]
    by_cases h3 : out2.getD i 0 = 3
    · simp only [h3, if_true]; exact ihk
    · simp only [h3, if_false]; exact ihk
end
theorem more_j1 {parts : List S50} {swap : Int} {looks : List S61} {wrong : Int} {needs : List Int} {st : List Bool} (hG : CarGood 9 11 parts swap looks wrong needs st) (k : Nat) (hk : k < parts.length) (b : Bool) (s : Int) :
    Ev (fun K => swarflaw04_StripMore.j1 K (outL parts.length (truthsL parts looks wrong)) s parts swap (looks ++ [⟨(k : Int), b⟩]) wrong needs) true := by
  obtain ⟨c, s2, hc⟩ := often_ok s 1 2 (by decide) (by decide)
  have hll := hG.ll
  have hwr := hG.wr
  have hlen : (looks ++ [(⟨(k : Int), b⟩ : S61)]).length = looks.length + 1 := by simp
  have hset : ∀ y : S61, (looks ++ [(⟨(k : Int), b⟩ : S61)]).set looks.length y = looks ++ [y] := by
    intro y
    rw [List.set_append_right _ _ (Nat.le_refl _)]
    simp
  have hrd : rd_T61 (looks ++ [(⟨(k : Int), b⟩ : S61)]) (looks.length : Nat) = ⟨(k : Int), b⟩ := by
    rw [rd61, getD_snoc_eq]
  have hw1 : wrap64 (((looks.length + 1 : Nat) : Int) - 1) = (looks.length : Nat) := by
    rw [wrapP (by omega) (by omega)]; simp
  have hmn : mn 12 (wrap64 (wrong + 1)) = if wrong < 12 then wrong + 1 else 12 := by
    rw [wrap64_id (by omega) (by omega)]
    unfold mn
    split <;> split <;> omega
  have hG2 : CarGood 9 12 parts swap (looks ++ [⟨(k : Int), c⟩]) (if wrong < 12 then wrong + 1 else 12) needs st := by
    refine hG.more ⟨by show 0 ≤ (k : Int); omega, by show (k : Int) < _; omega⟩ ?_
    have h1 := wrongB_snoc st looks ⟨(k : Int), c⟩
    have h2 := wrongB_le st (looks ++ [(⟨(k : Int), c⟩ : S61)])
    rw [List.length_append, List.length_singleton] at h2
    have h3 : wrongB st (looks ++ [(⟨(k : Int), c⟩ : S61)]) ≤ wrongB st looks + 1 := by rw [h1]; split <;> omega
    split <;> omega
  have ho := hG2.out (by decide) (by decide)
  have hS := hG.set (by decide)
  have hS2 := hG2.set (by decide)
  refine Ev.succ ?_
  simp only [swarflaw04_StripMore.j1]
  refine Ev.take hc ?_
  simp (disch := omega) only [hw1, if_pos, hlen, Int.toNat_natCast, hrd, hset, hmn]
  refine Ev.take ho ?_
  have hne : (((outL parts.length (truthsL parts (looks ++ [(⟨(k : Int), c⟩ : S61)]) (if wrong < 12 then wrong + 1 else 12))).length : Int) != ((outL parts.length (truthsL parts looks wrong)).length : Int)) = false := by
    rw [outL_len, outL_len]; simp
  simp only [if_true, hne]
  refine Ev.succ ?_
  simp only [swarflaw04_StripMore.j2, Bool.false_eq_true, if_false]
  have h9 := hS.few
  refine more_l0 _ _ (by rw [outL_len, outL_len]) (by rw [outL_len]; omega) (fun i hi h3 => ?_) parts.length 0 (by rw [outL_len]; omega)
  rw [outL_len] at hi
  rw [outL_getD _ _ hi] at h3 ⊢
  rw [outL_getD _ _ hi]
  have hsub : ∀ s, s ∈ truthsL parts looks wrong → s ∈ truthsL parts (looks ++ [(⟨(k : Int), c⟩ : S61)]) (if wrong < 12 then wrong + 1 else 12) := by
    intro s hs
    obtain ⟨q1, q2, q3⟩ := (mem_truths s).1 hs
    refine (mem_truths s).2 ⟨q1, q2, ?_⟩
    have h1 := wrongM_snoc s looks ⟨(k : Int), c⟩
    have h2 := wrongM_le s (looks ++ [(⟨(k : Int), c⟩ : S61)])
    rw [List.length_append, List.length_singleton] at h2
    have h3 : wrongM s (looks ++ [(⟨(k : Int), c⟩ : S61)]) ≤ wrongM s looks + 1 := by rw [h1]; split <;> omega
    split <;> omega
  rcases partV_cases hS2 hi with ⟨e1, e2⟩ | ⟨e1, _, e2⟩ | ⟨e1, _⟩
  · rw [e1, (partV_one hS hi).2 (fun s hs => e2 s (hsub s hs))]
  · rw [e1, (partV_two hS hi).2 (fun s hs => e2 s (hsub s hs))]
  · exact absurd e1 h3
theorem truths_more {parts : List S50} {looks : List S61} {wrong : Int} {x : S61} (h : ∀ s, s ∈ truthsL parts looks wrong → s.testBit x.f0.toNat = x.f1) : truthsL parts (looks ++ [x]) wrong = truthsL parts looks wrong := by
  have e : ∀ l : List S61, truthsL parts l wrong = ((List.range (2 ^ parts.length)).filter fun s => okM parts s && decide ((wrongM s l : Int) ≤ wrong)) := by
    intro l
    unfold truthsL truthsOf statesL statesTo
    rw [List.filter_map, List.map_map, List.filter_filter]
    simp only [Function.comp_def, List.map_id']
    congr 1
    funext s
    rw [Bool.and_comm]
  rw [e, e]
  refine List.filter_congr (fun s hs => ?_)
  cases hok : okM parts s with
  | false => rfl
  | true =>
    rw [Bool.true_and, Bool.true_and, decide_eq_decide, wrongM_snoc]
    by_cases hw : (wrongM s looks : Int) ≤ wrong
    · have := h s ((mem_truths s).2 ⟨List.mem_range.1 hs, hok, hw⟩)
      rw [this]
      simp
    · constructor
      · intro h2; omega
      · intro h2; exact absurd h2 hw
theorem stripMore_pure : swarflaw04_StripMore.Pure := by
  intro l0 h1 h2 h3
  obtain ⟨r, hev, hg⟩ := carOf_ev (feedAll l0) 9 11 (by decide) (by decide) (by decide) (by decide)
  obtain ⟨parts, swap, looks, wrong, needs, st, s'⟩ := r
  have hG : CarGood 9 11 parts swap looks wrong needs st := hg
  have hl0 : l0.length ≤ 140737488351232 := by omega
  have hfew := hG.few
  have hone := hG.one
  have hll := hG.ll
  have ho := hG.out (by decide) (by decide)
  have hS := hG.set (by decide)
  obtain ⟨q, s2, hb, hq0, hq1⟩ := below_ok s' parts.length (by omega) (by omega)
  obtain ⟨k, rfl⟩ : ∃ k : Nat, q = k := ⟨q.toNat, by omega⟩
  have hk : k < parts.length := by omega
  have hcopy := hG.copy (by decide) (by decide)
  have hne : (((outL parts.length (truthsL parts looks wrong)).length : Int) != (parts.length : Int)) = false := by rw [outL_len]; simp
  have hlenO : (outL parts.length (truthsL parts looks wrong)).length = parts.length := outL_len _ _
  have hrd : rd (outL parts.length (truthsL parts looks wrong)) (k : Int) = partV (truthsL parts looks wrong) k := by rw [rd_getD, outL_getD _ _ hk]
  refine Ev.rounds (r := true) ?_
  unfold swarflaw04_StripMore.f swarfkit_FeedOf.f
  simp only [hl0, if_true, Option.bind_some]
  refine Ev.bind hev ?_
  refine Ev.take ho ?_
  simp only [if_true, hne]
  refine Ev.succ ?_
  simp only [swarflaw04_StripMore.j0, Bool.false_eq_true, if_false]
  refine Ev.take hb ?_
  refine Ev.bind hcopy ?_
  simp (disch := omega) only [if_pos, hlenO, Option.bind_some, hrd]
  by_cases h3 : partV (truthsL parts looks wrong) k = 3
  · simp only [h3, if_true]
    rw [← h3]
    exact more_j1 hG k hk _ _
  · simp only [h3, if_false]
    have hx : ∀ s, s ∈ truthsL parts looks wrong → s.testBit k = (partV (truthsL parts looks wrong) k == 1) := by
      intro s hs
      rcases partV_cases hS hk with ⟨e1, e2⟩ | ⟨e1, _, e2⟩ | ⟨e1, _⟩
      · rw [e1, e2 s hs]; rfl
      · rw [e1, e2 s hs]; rfl
      · exact absurd e1 h3
    have hG2 : CarGood 9 12 parts swap (looks ++ [⟨(k : Int), partV (truthsL parts looks wrong) k == 1⟩]) wrong needs st := by
      refine hG.more ⟨by show 0 ≤ (k : Int); omega, by show (k : Int) < _; omega⟩ ⟨hG.wr.1, hG.wr.2.1, ?_⟩
      have h4 := hx _ hG.truth
      rw [stM_bit] at h4
      rw [wrongB_snoc]
      have h5 := hG.wr.2.2
      show (((wrongB st looks + if (st.getD (k : Int).toNat false != (partV (truthsL parts looks wrong) k == 1)) = true then 1 else 0 : Nat)) : Int) ≤ wrong
      rw [Int.toNat_natCast, h4]
      simpa using h5
    have ho2 := hG2.out (by decide) (by decide)
    have htm : truthsL parts (looks ++ [⟨(k : Int), partV (truthsL parts looks wrong) k == 1⟩]) wrong = truthsL parts looks wrong := truths_more (fun s hs => hx s hs)
    rw [htm] at ho2
    refine Ev.take ho2 ?_
    simp only [if_true]
    refine Ev.bind (equal_ev _ _ (by rw [outL_len]; omega) (by rw [outL_len]; omega)) ?_
    simp only [decide_true, if_true]
    exact more_j1 hG k hk _ _
end Go.Proofs.Ytkkmfcdikkiodaa.PC4
namespace Go.Proofs.Ytkkmfcdikkiodaa.Pure
open Go.Proofs.Ytkkmfcdikkiodaa.PC4
theorem StripMore : swarflaw04_StripMore.Pure := stripMore_pure
end Go.Proofs.Ytkkmfcdikkiodaa.Pure
namespace Go.Proofs.YtkkmfcdikkiodaaW.PrintWords
open Go.ChangeShapes Go.WideShapes
theorem sized_ints {H : Type} {enc : TypeId × Value → H} {P : Program} {W : World} {base : Nat} {spare : Nat → Bool} {held : Bool} {t e : TypeId} {k : IntKind} {a : Option Addr} {len cap : Nat} {d : DataW H} {ps : List MemPlace} {ts : List TypeId} {ds : List (DataW H)} {j : Nat}
    (hsz : (DataW.weightsEach P ts ds).all (· ≤ reachBytes) = true) (ht : ts[j]? = some t) (hd : ds[j]? = some d) (hu : P.underlying t = some (.slice e)) (he : P.underlying e = some (.int k)) (hc : P.cellsOf e = 1) {B : Nat} (hB : P.bytesOf e = B)
    (h : DataW.Trod enc P W base spare held t (.slice a len cap) d ps) : len * B ≤ 140737488351232 := by
  obtain ⟨fuel, hf⟩ := h
  rcases open_ints hu he hc hf with ⟨hcs, _⟩ | ⟨x, l, c, zs, hcs, _, hl, _, hz, hx, _, _⟩
  · simp [Value.cells] at hcs
    obtain ⟨rfl, rfl, rfl⟩ := hcs
    simp
  · simp [Value.cells] at hcs
    obtain ⟨rfl, rfl, rfl⟩ := hcs
    obtain ⟨hx, _⟩ := Prod.mk.inj hx
    subst hx
    have z := sized_slice hsz ht hd hu
    rw [hB] at z
    have hl2 : len ≤ zs.length := by
      rw [hz]
      split
      · exact hl
      · exact Nat.le_refl _
    have h1 : (lits (H := H) k (zs.take len)).length + (lits (H := H) k (zs.drop len)).length = zs.length := by
      simp [lits]
      omega
    rw [h1] at z
    exact Nat.le_trans (Nat.mul_le_mul_right _ hl2) z
end Go.Proofs.YtkkmfcdikkiodaaW.PrintWords
namespace Go.Proofs.Ytkkmfcdikkiodaa.stripMore
open Go.ChangeShapes Go.WideShapes Go.ChangeAt Go.RowKit
open Go.ChangeMaps (open_string shut_string)
set_option linter.unusedVariables false
theorem own : ownKnob Try.prog.godebug = none := by kernel_rfl
theorem laidOut : laidOutB Try.prog = true := by kernel_rfl
def IsRow (k : IntKind) (w : World) (a : Option Addr) (len cap : Nat) (zs : List Int) : Prop :=
  (a = none ∧ len = 0 ∧ cap = 0 ∧ zs = []) ∨
  ∃ x, a = some x ∧ len ≤ cap ∧ cap ≤ maxLen ∧ zs.length = cap ∧ (∀ i, i < zs.length → w.cell? (x.add i) = some (.int k (zs.getD i 0))) ∧ ∀ n ∈ zs, (Lit.int k n).wf = true
set_option maxRecDepth 100000 in
theorem lifted (os : Os) (started : os.Started) (H : Type) (enc : TypeId × Value → H) :
    ReturnsInHanded {} Try.checked os 7 .any (Rows.stripMoreSpec.pre6 enc Try.prog Try.f7 Rows.stripMoreRow.domain false) (Rows.stripMoreSpec.post enc Try.prog Try.f7 false true false false) := by
  refine returnsInHanded_of_change_sized (C := Try.checked) own started (by kernel_rfl) Try.func7
    (ChangeSpec.witness6 (enc := enc) (C := Try.checked) false ⟨#[], #[.slice none 0 0], []⟩ 8 (by kernel_rfl) (by kernel_rfl) (by kernel_rfl) (by kernel_rfl)) ?_
  intro W base args ds gs before hval0 hW hcnd hsz0 _
  have hsz : (DataW.weightsEach Try.prog (Try.f7.params.toList ++ Rows.stripMoreSpec.plain.varTypes Try.prog) (ds ++ gs)).all (· ≤ reachBytes) = true := hsz0
  have hval : ∀ (j : Nat) t v, Try.f7.params[j]? = some t → args[j]? = some v → Value.okWide Try.prog W .any base t v := hval0
  have hW' := hW
  obtain ⟨p, q, hA0, hV, rfl, hfz, hnd⟩ := hW
  have hA : DataW.TrodAll enc Try.prog W 0 (fun _ => true) true Try.f7.params.toList args.toList ds p := hA0
  rw [Try.params7] at hA hval hsz
  obtain ⟨v0, vs0, d0, ds0, p0, q0, hargs, rfl, rfl, h0, r0⟩ := trodAll_cons hA
  obtain ⟨rfl, rfl, rfl⟩ := trodAll_nil r0
  obtain rfl : args = #[v0] := by cases args; simp_all
  obtain ⟨rfl, rfl⟩ := trodVars_none hV
  obtain ⟨a0, len0, cap0, rfl⟩ := okWide_slice Try.underlying24 (hval 0 24 v0 rfl rfl)
  have k0 := h0
  have lt0 : ∀ x ∈ p0, x.block < W.heap.size := by obtain ⟨m, hm⟩ := k0; exact DataW.trod_lt m _ _ _ hm
  obtain ⟨z0, w0⟩ : ∃ zs, IsRow .i64 W a0 len0 cap0 zs := by
    obtain ⟨fuel, hf⟩ := h0
    rcases open_ints Try.underlying24 Try.underlying3 (by kernel_rfl) hf with ⟨hcs, _⟩ | ⟨x, l, c, zs, hcs, _, hl, hm, hz, _, hcell, hwz⟩
    · simp [Value.cells] at hcs
      obtain ⟨rfl, rfl, rfl⟩ := hcs
      exact ⟨[], .inl ⟨rfl, rfl, rfl, rfl⟩⟩
    · simp [Value.cells] at hcs
      obtain ⟨rfl, rfl, rfl⟩ := hcs
      exact ⟨zs, .inr ⟨_, rfl, hl, hm, by simpa using hz, hcell, hwz⟩⟩
  have y0 : len0 * 8 ≤ 140737488351232 := Go.Proofs.YtkkmfcdikkiodaaW.PrintWords.sized_ints hsz (j := 0) (t := 24) rfl rfl Try.underlying24 Try.underlying3 (by kernel_rfl) (by kernel_rfl) h0
  clear hA0 hval0 hsz0 hsz
  refine (PC4.swarflaw04_StripMore.walk Pure.StripMore a0 len0 cap0 z0 W w0 y0).mono fun e W' ⟨he, bel⟩ => ?_
  subst he
  exact ⟨_, rfl, _, _, _, [], _, [], hW', trodAll_mk1 (shut_bool Try.underlying4 _), (trodAll_cons_mk (Below.trod laidOut (by kernel_rfl) (of_decide_eq_true (by kernel_rfl)) k0 bel lt0) trodAll_mk0), rfl, bel.frame _, fun h => by cases h⟩
theorem over : Rows.stripMoreRow.holds Try.pinned (OpenSpec.ofChange Rows.stripMoreSpec) :=
  OpenClaim.holds_of_wide 7 Try.f7 rfl rfl rfl rfl rfl rfl rfl ⟨rfl, rfl, rfl, rfl, rfl⟩ rfl rfl rfl rfl rfl (by kernel_rfl) Try.func7 (by kernel_rfl)
    (of_decide_eq_true (by kernel_rfl)) (by unfold Func.isWrapper; first | (rw [if_pos (by decide +kernel)]; kernel_rfl) | (rw [if_neg (by decide +kernel)]; exact ⟨rfl, rfl⟩))
    (fun os started H enc _ => lifted os started H enc)
theorem proved : Rows.StripMoreSaid := over
#print axioms proved
end Go.Proofs.Ytkkmfcdikkiodaa.stripMore
namespace Go.Proofs.Ytkkmfcdikkiodaa
theorem stripMore_holds : Rows.StripMoreSaid := stripMore.proved
end Go.Proofs.Ytkkmfcdikkiodaa
