/- Lemmas on the way to this: What Out and Clean say of a car is what all its states say, gone through one by one: for every list of numbers of the size that Go can hold. -/
import Derived.Test.YtkkmfcdikkiodaaCStripAll1
import Derived.Test.YtkkmfcdikkiodaaCStripAll2
import Derived.Test.YtkkmfcdikkiodaaCStripAll5
import Derived.Test.YtkkmfcdikkiodaaCStripAll4
import Derived.Test.YtkkmfcdikkiodaaCStripAll3
namespace Go.Proofs.Ytkkmfcdikkiodaa.PC4
open Go.RowKit Go.Proofs.YtkkmfcdikkiodaaW.PrintWords Go.Proofs.YtkkmfcdikkiodaaW.PrintLast Go.Proofs.YtkkmfcdikkiodaaW.PrintMore
attribute [local go_sem] max2_int min2_int max_two min_two max_three min_three max_four min_four
set_option linter.unusedVariables false
set_option linter.unusedSimpArgs false
mutual
def swarflaw04_StripAll.l0 : Nat → List Int → Int → Int → Int → List Int → Int → Int → Int → List (S50) → Int → List (S61) → Int → List Int → Option (Bool)
  | 0, _, _, _, _, _, _, _, _, _, _, _, _, _ => none
  | k + 1, x6, x7, x8, x9, x10, x11, x12, x13, x291000, x291001, x291002, x291003, x291004 => if x13 < (shl .i64 1 (x291000.length : Int)) then (if 0 ≤ (x291000.length : Int) then (if ((x291000.length : Int) : Int).toNat ≤ 281474976710656 then (swarflaw04_StripAll.l1 k x6 x7 x8 x9 x10 x11 x12 x13 (List.replicate ((x291000.length : Int) : Int).toNat false) true 0 x291000 x291001 x291002 x291003 x291004) else (none)) else (none)) else (if x12 = 0 then (if x7 = 9 then (if x9 = 9 then ((swarflaw04_awake.f k).bind fun t321 => (some t321)) else (some false)) else (some false)) else (if x7 = 0 then (if x9 = 0 then (if (x6.length : Int) = (x10.length : Int) then ((swarflaw04_said.f x11 x12).bind fun t322 => (swarflaw04_StripAll.j5 k x6 x10 x12 (x8 != t322))) else (swarflaw04_StripAll.j5 k x6 x10 x12 true)) else (swarflaw04_StripAll.j5 k x6 x10 x12 true)) else (swarflaw04_StripAll.j5 k x6 x10 x12 true)))
def swarflaw04_StripAll.l1 : Nat → List Int → Int → Int → Int → List Int → Int → Int → Int → List Bool → Bool → Int → List (S50) → Int → List (S61) → Int → List Int → Option (Bool)
  | 0, _, _, _, _, _, _, _, _, _, _, _, _, _, _, _, _ => none
  | k + 1, x6, x7, x8, x9, x10, x11, x12, x13, x14, x15, x16, x291000, x291001, x291002, x291003, x291004 => if x16 < (x14.length : Int) then (if 0 ≤ x16 then (swarflaw04_StripAll.l2 k x6 x7 x8 x9 x10 x11 x12 x13 (x14.set (x16 : Int).toNat ((Go.bits .and .i64 (shr .i64 x13 x16) 1) == 1)) x15 x16 0 x291000 x291001 x291002 x291003 x291004) else (none)) else (if x15 = true then ((swarfref04_Wrongs.f k x291000 x291001 x291002 x291003 x291004 x14).bind fun t316 => (swarflaw04_StripAll.j3 k x6 x7 x8 x9 x10 x11 x12 x13 x14 (decide (t316 > x291003)) x291000 x291001 x291002 x291003 x291004)) else (swarflaw04_StripAll.j3 k x6 x7 x8 x9 x10 x11 x12 x13 x14 true x291000 x291001 x291002 x291003 x291004))
def swarflaw04_StripAll.l2 : Nat → List Int → Int → Int → Int → List Int → Int → Int → Int → List Bool → Bool → Int → Int → List (S50) → Int → List (S61) → Int → List Int → Option (Bool)
  | 0, _, _, _, _, _, _, _, _, _, _, _, _, _, _, _, _, _ => none
  | k + 1, x6, x7, x8, x9, x10, x11, x12, x13, x14, x15, x16, x17, x291000, x291001, x291002, x291003, x291004 => if 0 ≤ x16 then (if x16 < (x14.length : Int) then (if rdOf false x14 x16 = true then (if x16 < (x291000.length : Int) then (if x17 < (((rd_T50 x291000 x16).f0).length : Int) then (if x15 = true then (if 0 ≤ x17 then (if 0 ≤ (rd ((rd_T50 x291000 x16).f0) x17) then (if (rd ((rd_T50 x291000 x16).f0) x17) < (x14.length : Int) then (swarflaw04_StripAll.l2 k x6 x7 x8 x9 x10 x11 x12 x13 x14 (rdOf false x14 (rd ((rd_T50 x291000 x16).f0) x17)) x16 (wrap64 (x17 + 1)) x291000 x291001 x291002 x291003 x291004) else (none)) else (none)) else (none)) else (swarflaw04_StripAll.l2 k x6 x7 x8 x9 x10 x11 x12 x13 x14 false x16 (wrap64 (x17 + 1)) x291000 x291001 x291002 x291003 x291004)) else (swarflaw04_StripAll.l1 k x6 x7 x8 x9 x10 x11 x12 x13 x14 x15 (wrap64 (x16 + 1)) x291000 x291001 x291002 x291003 x291004)) else (none)) else (swarflaw04_StripAll.l1 k x6 x7 x8 x9 x10 x11 x12 x13 x14 x15 (wrap64 (x16 + 1)) x291000 x291001 x291002 x291003 x291004)) else (none)) else (none)
def swarflaw04_StripAll.j3 : Nat → List Int → Int → Int → Int → List Int → Int → Int → Int → List Bool → Bool → List (S50) → Int → List (S61) → Int → List Int → Option (Bool)
  | 0, _, _, _, _, _, _, _, _, _, _, _, _, _, _, _ => none
  | k + 1, x6, x7, x8, x9, x10, x11, x12, x13, x14, x116, x291000, x291001, x291002, x291003, x291004 => if x116 = true then (swarflaw04_StripAll.l0 k x6 x7 x8 x9 x10 x11 x12 (wrap64 (x13 + 1)) x291000 x291001 x291002 x291003 x291004) else (swarflaw04_StripAll.l3 k x6 x7 x8 x9 x10 x11 (wrap64 (x12 + 1)) x13 x14 0 x291000 x291001 x291002 x291003 x291004)
def swarflaw04_StripAll.l3 : Nat → List Int → Int → Int → Int → List Int → Int → Int → Int → List Bool → Int → List (S50) → Int → List (S61) → Int → List Int → Option (Bool)
  | 0, _, _, _, _, _, _, _, _, _, _, _, _, _, _, _ => none
  | k + 1, x6, x7, x8, x9, x10, x11, x12, x13, x14, x18, x291000, x291001, x291002, x291003, x291004 => if x18 < (x14.length : Int) then (if 0 ≤ x18 then (if rdOf false x14 x18 = true then (if x18 < (x10.length : Int) then (swarflaw04_StripAll.l3 k x6 x7 x8 x9 (x10.set (x18 : Int).toNat (wrap64 ((rd x10 x18) + 1))) x11 x12 x13 x14 (wrap64 (x18 + 1)) x291000 x291001 x291002 x291003 x291004) else (none)) else (swarflaw04_StripAll.l3 k x6 x7 x8 x9 x10 x11 x12 x13 x14 (wrap64 (x18 + 1)) x291000 x291001 x291002 x291003 x291004)) else (none)) else ((swarfref04_IsClean.f k x291000 x291001 x291002 x291003 x291004 x14).bind fun t320 => (if t320 = true then (swarflaw04_StripAll.l0 k x6 x7 x8 x9 x10 (wrap64 (x11 + 1)) x12 (wrap64 (x13 + 1)) x291000 x291001 x291002 x291003 x291004) else (swarflaw04_StripAll.l0 k x6 x7 x8 x9 x10 x11 x12 (wrap64 (x13 + 1)) x291000 x291001 x291002 x291003 x291004)))
def swarflaw04_StripAll.j5 : Nat → List Int → List Int → Int → Bool → Option (Bool)
  | 0, _, _, _, _ => none
  | k + 1, x6, x10, x12, x170 => if x170 = true then (some false) else (swarflaw04_StripAll.l4 k x6 x10 x12 0)
def swarflaw04_StripAll.l4 : Nat → List Int → List Int → Int → Int → Option (Bool)
  | 0, _, _, _, _ => none
  | k + 1, x6, x10, x12, x19 => if x19 < (x6.length : Int) then (if 0 ≤ x19 then (if x19 < (x10.length : Int) then ((swarflaw04_said.f (rd x10 x19) x12).bind fun t325 => (if (rd x6 x19) = t325 then (swarflaw04_StripAll.l4 k x6 x10 x12 (wrap64 (x19 + 1))) else (some false))) else (none)) else (none)) else ((swarflaw04_awake.f k).bind fun t326 => (some t326))
end
def swarflaw04_StripAll.f (k : Nat) (l0 : List Int) : Option (Bool) := (swarfkit_FeedOf.f l0).bind fun t273 => ((swarfkit_CarOf.f k t273 6 8).bind fun bt275 => ((swarfkit_Feed_Below.f bt275.2.2.2.2.2.2 4).bind fun bt291 => ((swarfkit_Feed_Either.f bt291.2 (([bt275.2.2.2.1, bt291.1] : List Int))).bind fun bt296 => ((strip_Out.f bt275.1 bt275.2.1 bt275.2.2.1 bt296.1 bt275.2.2.2.2.1).bind fun bt298 => ((strip_Clean.f bt275.1 bt275.2.1 bt275.2.2.1 bt296.1 bt275.2.2.2.2.1).bind fun bt302 => (if 0 ≤ (bt275.1.length : Int) then (if ((bt275.1.length : Int) : Int).toNat ≤ 35184372088832 then (swarflaw04_StripAll.l0 k bt298.1 bt298.2 bt302.1 bt302.2 (List.replicate ((bt275.1.length : Int) : Int).toNat 0) 0 0 0 bt275.1 bt275.2.1 bt275.2.2.1 bt296.1 bt275.2.2.2.2.1) else (none)) else (none)))))))
theorem swarflaw04_StripAll.mono_l : ∀ k, (∀ y0 y1 y2 y3 y4 y5 y6 y7 y8 y9 y10 y11 y12, LeO (swarflaw04_StripAll.l0 k y0 y1 y2 y3 y4 y5 y6 y7 y8 y9 y10 y11 y12) (swarflaw04_StripAll.l0 (k + 1) y0 y1 y2 y3 y4 y5 y6 y7 y8 y9 y10 y11 y12)) ∧ (∀ y0 y1 y2 y3 y4 y5 y6 y7 y8 y9 y10 y11 y12 y13 y14 y15, LeO (swarflaw04_StripAll.l1 k y0 y1 y2 y3 y4 y5 y6 y7 y8 y9 y10 y11 y12 y13 y14 y15) (swarflaw04_StripAll.l1 (k + 1) y0 y1 y2 y3 y4 y5 y6 y7 y8 y9 y10 y11 y12 y13 y14 y15)) ∧ (∀ y0 y1 y2 y3 y4 y5 y6 y7 y8 y9 y10 y11 y12 y13 y14 y15 y16, LeO (swarflaw04_StripAll.l2 k y0 y1 y2 y3 y4 y5 y6 y7 y8 y9 y10 y11 y12 y13 y14 y15 y16) (swarflaw04_StripAll.l2 (k + 1) y0 y1 y2 y3 y4 y5 y6 y7 y8 y9 y10 y11 y12 y13 y14 y15 y16)) ∧ (∀ y0 y1 y2 y3 y4 y5 y6 y7 y8 y9 y10 y11 y12 y13 y14, LeO (swarflaw04_StripAll.j3 k y0 y1 y2 y3 y4 y5 y6 y7 y8 y9 y10 y11 y12 y13 y14) (swarflaw04_StripAll.j3 (k + 1) y0 y1 y2 y3 y4 y5 y6 y7 y8 y9 y10 y11 y12 y13 y14)) ∧ (∀ y0 y1 y2 y3 y4 y5 y6 y7 y8 y9 y10 y11 y12 y13 y14, LeO (swarflaw04_StripAll.l3 k y0 y1 y2 y3 y4 y5 y6 y7 y8 y9 y10 y11 y12 y13 y14) (swarflaw04_StripAll.l3 (k + 1) y0 y1 y2 y3 y4 y5 y6 y7 y8 y9 y10 y11 y12 y13 y14)) ∧ (∀ y0 y1 y2 y3, LeO (swarflaw04_StripAll.j5 k y0 y1 y2 y3) (swarflaw04_StripAll.j5 (k + 1) y0 y1 y2 y3)) ∧ (∀ y0 y1 y2 y3, LeO (swarflaw04_StripAll.l4 k y0 y1 y2 y3) (swarflaw04_StripAll.l4 (k + 1) y0 y1 y2 y3))
  | 0 => ⟨fun _ _ _ _ _ _ _ _ _ _ _ _ _ r h => by simp [swarflaw04_StripAll.l0] at h, fun _ _ _ _ _ _ _ _ _ _ _ _ _ _ _ _ r h => by simp [swarflaw04_StripAll.l1] at h, fun _ _ _ _ _ _ _ _ _ _ _ _ _ _ _ _ _ r h => by simp [swarflaw04_StripAll.l2] at h, fun _ _ _ _ _ _ _ _ _ _ _ _ _ _ _ r h => by simp [swarflaw04_StripAll.j3] at h, fun _ _ _ _ _ _ _ _ _ _ _ _ _ _ _ r h => by simp [swarflaw04_StripAll.l3] at h, fun _ _ _ _ r h => by simp [swarflaw04_StripAll.j5] at h, fun _ _ _ _ r h => by simp [swarflaw04_StripAll.l4] at h⟩
  | k + 1 => by
    obtain ⟨ih0, ih1, ih2, ih3, ih4, ih5, ih6⟩ := swarflaw04_StripAll.mono_l k
    refine ⟨?_, ?_, ?_, ?_, ?_, ?_, ?_⟩
    · intro y0 y1 y2 y3 y4 y5 y6 y7 y8 y9 y10 y11 y12
      unfold swarflaw04_StripAll.l0
      repeat' first
      | (with_reducible exact ih0 _ _ _ _ _ _ _ _ _ _ _ _ _)
      | (with_reducible exact ih1 _ _ _ _ _ _ _ _ _ _ _ _ _ _ _ _)
      | (with_reducible exact ih2 _ _ _ _ _ _ _ _ _ _ _ _ _ _ _ _ _)
      | (with_reducible exact ih3 _ _ _ _ _ _ _ _ _ _ _ _ _ _ _)
      | (with_reducible exact ih4 _ _ _ _ _ _ _ _ _ _ _ _ _ _ _)
      | (with_reducible exact ih5 _ _ _ _)
      | (with_reducible exact ih6 _ _ _ _)
      | (with_reducible exact swarfkit_CarOf.mono _ _ _ _)
      | (with_reducible exact swarflaw04_awake.mono _)
      | (with_reducible exact swarfref04_IsClean.mono _ _ _ _ _ _ _)
      | (with_reducible exact swarfref04_Wrongs.mono _ _ _ _ _ _ _)
      | (with_reducible exact LeO.refl _)
      | (with_reducible exact LeO.none _)
      | (with_reducible refine LeO.ite ?_ ?_)
      | (with_reducible refine LeO.bind ?_ (fun _ => ?_))
      | exact ih0 _ _ _ _ _ _ _ _ _ _ _ _ _
      | exact ih1 _ _ _ _ _ _ _ _ _ _ _ _ _ _ _ _
      | exact ih2 _ _ _ _ _ _ _ _ _ _ _ _ _ _ _ _ _
      | exact ih3 _ _ _ _ _ _ _ _ _ _ _ _ _ _ _
      | exact ih4 _ _ _ _ _ _ _ _ _ _ _ _ _ _ _
      | exact ih5 _ _ _ _
      | exact ih6 _ _ _ _
      | exact swarfkit_CarOf.mono _ _ _ _
      | exact swarflaw04_awake.mono _
      | exact swarfref04_IsClean.mono _ _ _ _ _ _ _
      | exact swarfref04_Wrongs.mono _ _ _ _ _ _ _
      | exact LeO.none _
      | refine LeO.ite ?_ ?_
      | refine LeO.bind ?_ (fun _ => ?_)
    · intro y0 y1 y2 y3 y4 y5 y6 y7 y8 y9 y10 y11 y12 y13 y14 y15
      unfold swarflaw04_StripAll.l1
      repeat' first
      | (with_reducible exact ih0 _ _ _ _ _ _ _ _ _ _ _ _ _)
      | (with_reducible exact ih1 _ _ _ _ _ _ _ _ _ _ _ _ _ _ _ _)
      | (with_reducible exact ih2 _ _ _ _ _ _ _ _ _ _ _ _ _ _ _ _ _)
      | (with_reducible exact ih3 _ _ _ _ _ _ _ _ _ _ _ _ _ _ _)
      | (with_reducible exact ih4 _ _ _ _ _ _ _ _ _ _ _ _ _ _ _)
      | (with_reducible exact ih5 _ _ _ _)
      | (with_reducible exact ih6 _ _ _ _)
      | (with_reducible exact swarfkit_CarOf.mono _ _ _ _)
      | (with_reducible exact swarflaw04_awake.mono _)
      | (with_reducible exact swarfref04_IsClean.mono _ _ _ _ _ _ _)
      | (with_reducible exact swarfref04_Wrongs.mono _ _ _ _ _ _ _)
      | (with_reducible exact LeO.refl _)
      | (with_reducible exact LeO.none _)
      | (with_reducible refine LeO.ite ?_ ?_)
      | (with_reducible refine LeO.bind ?_ (fun _ => ?_))
      | exact ih0 _ _ _ _ _ _ _ _ _ _ _ _ _
      | exact ih1 _ _ _ _ _ _ _ _ _ _ _ _ _ _ _ _
      | exact ih2 _ _ _ _ _ _ _ _ _ _ _ _ _ _ _ _ _
      | exact ih3 _ _ _ _ _ _ _ _ _ _ _ _ _ _ _
      | exact ih4 _ _ _ _ _ _ _ _ _ _ _ _ _ _ _
      | exact ih5 _ _ _ _
      | exact ih6 _ _ _ _
      | exact swarfkit_CarOf.mono _ _ _ _
      | exact swarflaw04_awake.mono _
      | exact swarfref04_IsClean.mono _ _ _ _ _ _ _
      | exact swarfref04_Wrongs.mono _ _ _ _ _ _ _
      | exact LeO.none _
      | refine LeO.ite ?_ ?_
      | refine LeO.bind ?_ (fun _ => ?_)
    · intro y0 y1 y2 y3 y4 y5 y6 y7 y8 y9 y10 y11 y12 y13 y14 y15 y16
      unfold swarflaw04_StripAll.l2
      repeat' first
      | (with_reducible exact ih0 _ _ _ _ _ _ _ _ _ _ _ _ _)
      | (with_reducible exact ih1 _ _ _ _ _ _ _ _ _ _ _ _ _ _ _ _)
      | (with_reducible exact ih2 _ _ _ _ _ _ _ _ _ _ _ _ _ _ _ _ _)
      | (with_reducible exact ih3 _ _ _ _ _ _ _ _ _ _ _ _ _ _ _)
      | (with_reducible exact ih4 _ _ _ _ _ _ _ _ _ _ _ _ _ _ _)
      | (with_reducible exact ih5 _ _ _ _)
      | (with_reducible exact ih6 _ _ _ _)
      | (with_reducible exact swarfkit_CarOf.mono _ _ _ _)
      | (with_reducible exact swarflaw04_awake.mono _)
      | (with_reducible exact swarfref04_IsClean.mono _ _ _ _ _ _ _)
      | (with_reducible exact swarfref04_Wrongs.mono _ _ _ _ _ _ _)
      | (with_reducible exact LeO.refl _)
      | (with_reducible exact LeO.none _)
      | (with_reducible refine LeO.ite ?_ ?_)
      | (with_reducible refine LeO.bind ?_ (fun _ => ?_))
      | exact ih0 _ _ _ _ _ _ _ _ _ _ _ _ _
      | exact ih1 _ _ _ _ _ _ _ _ _ _ _ _ _ _ _ _
      | exact ih2 _ _ _ _ _ _ _ _ _ _ _ _ _ _ _ _ _
      | exact ih3 _ _ _ _ _ _ _ _ _ _ _ _ _ _ _
      | exact ih4 _ _ _ _ _ _ _ _ _ _ _ _ _ _ _
      | exact ih5 _ _ _ _
      | exact ih6 _ _ _ _
      | exact swarfkit_CarOf.mono _ _ _ _
      | exact swarflaw04_awake.mono _
      | exact swarfref04_IsClean.mono _ _ _ _ _ _ _
      | exact swarfref04_Wrongs.mono _ _ _ _ _ _ _
      | exact LeO.none _
      | refine LeO.ite ?_ ?_
      | refine LeO.bind ?_ (fun _ => ?_)
    · intro y0 y1 y2 y3 y4 y5 y6 y7 y8 y9 y10 y11 y12 y13 y14
      unfold swarflaw04_StripAll.j3
      repeat' first
      | (with_reducible exact ih0 _ _ _ _ _ _ _ _ _ _ _ _ _)
      | (with_reducible exact ih1 _ _ _ _ _ _ _ _ _ _ _ _ _ _ _ _)
      | (with_reducible exact ih2 _ _ _ _ _ _ _ _ _ _ _ _ _ _ _ _ _)
      | (with_reducible exact ih3 _ _ _ _ _ _ _ _ _ _ _ _ _ _ _)
      | (with_reducible exact ih4 _ _ _ _ _ _ _ _ _ _ _ _ _ _ _)
      | (with_reducible exact ih5 _ _ _ _)
      | (with_reducible exact ih6 _ _ _ _)
      | (with_reducible exact swarfkit_CarOf.mono _ _ _ _)
      | (with_reducible exact swarflaw04_awake.mono _)
      | (with_reducible exact swarfref04_IsClean.mono _ _ _ _ _ _ _)
      | (with_reducible exact swarfref04_Wrongs.mono _ _ _ _ _ _ _)
      | (with_reducible exact LeO.refl _)
      | (with_reducible exact LeO.none _)
      | (with_reducible refine LeO.ite ?_ ?_)
      | (with_reducible refine LeO.bind ?_ (fun _ => ?_))
      | exact ih0 _ _ _ _ _ _ _ _ _ _ _ _ _
      | exact ih1 _ _ _ _ _ _ _ _ _ _ _ _ _ _ _ _
      | exact ih2 _ _ _ _ _ _ _ _ _ _ _ _ _ _ _ _ _
      | exact ih3 _ _ _ _ _ _ _ _ _ _ _ _ _ _ _
      | exact ih4 _ _ _ _ _ _ _ _ _ _ _ _ _ _ _
      | exact ih5 _ _ _ _
      | exact ih6 _ _ _ _
      | exact swarfkit_CarOf.mono _ _ _ _
      | exact swarflaw04_awake.mono _
      | exact swarfref04_IsClean.mono _ _ _ _ _ _ _
      | exact swarfref04_Wrongs.mono _ _ _ _ _ _ _
      | exact LeO.none _
      | refine LeO.ite ?_ ?_
      | refine LeO.bind ?_ (fun _ => ?_)
    · intro y0 y1 y2 y3 y4 y5 y6 y7 y8 y9 y10 y11 y12 y13 y14
      unfold swarflaw04_StripAll.l3
      repeat' first
      | (with_reducible exact ih0 _ _ _ _ _ _ _ _ _ _ _ _ _)
      | (with_reducible exact ih1 _ _ _ _ _ _ _ _ _ _ _ _ _ _ _ _)
      | (with_reducible exact ih2 _ _ _ _ _ _ _ _ _ _ _ _ _ _ _ _ _)
      | (with_reducible exact ih3 _ _ _ _ _ _ _ _ _ _ _ _ _ _ _)
      | (with_reducible exact ih4 _ _ _ _ _ _ _ _ _ _ _ _ _ _ _)
      | (with_reducible exact ih5 _ _ _ _)
      | (with_reducible exact ih6 _ _ _ _)
      | (with_reducible exact swarfkit_CarOf.mono _ _ _ _)
      | (with_reducible exact swarflaw04_awake.mono _)
      | (with_reducible exact swarfref04_IsClean.mono _ _ _ _ _ _ _)
      | (with_reducible exact swarfref04_Wrongs.mono _ _ _ _ _ _ _)
      | (with_reducible exact LeO.refl _)
      | (with_reducible exact LeO.none _)
      | (with_reducible refine LeO.ite ?_ ?_)
      | (with_reducible refine LeO.bind ?_ (fun _ => ?_))
      | exact ih0 _ _ _ _ _ _ _ _ _ _ _ _ _
      | exact ih1 _ _ _ _ _ _ _ _ _ _ _ _ _ _ _ _
      | exact ih2 _ _ _ _ _ _ _ _ _ _ _ _ _ _ _ _ _
      | exact ih3 _ _ _ _ _ _ _ _ _ _ _ _ _ _ _
      | exact ih4 _ _ _ _ _ _ _ _ _ _ _ _ _ _ _
      | exact ih5 _ _ _ _
      | exact ih6 _ _ _ _
      | exact swarfkit_CarOf.mono _ _ _ _
      | exact swarflaw04_awake.mono _
      | exact swarfref04_IsClean.mono _ _ _ _ _ _ _
      | exact swarfref04_Wrongs.mono _ _ _ _ _ _ _
      | exact LeO.none _
      | refine LeO.ite ?_ ?_
      | refine LeO.bind ?_ (fun _ => ?_)
    · intro y0 y1 y2 y3
      unfold swarflaw04_StripAll.j5
      repeat' first
      | (with_reducible exact ih0 _ _ _ _ _ _ _ _ _ _ _ _ _)
      | (with_reducible exact ih1 _ _ _ _ _ _ _ _ _ _ _ _ _ _ _ _)
      | (with_reducible exact ih2 _ _ _ _ _ _ _ _ _ _ _ _ _ _ _ _ _)
      | (with_reducible exact ih3 _ _ _ _ _ _ _ _ _ _ _ _ _ _ _)
      | (with_reducible exact ih4 _ _ _ _ _ _ _ _ _ _ _ _ _ _ _)
      | (with_reducible exact ih5 _ _ _ _)
      | (with_reducible exact ih6 _ _ _ _)
      | (with_reducible exact swarfkit_CarOf.mono _ _ _ _)
      | (with_reducible exact swarflaw04_awake.mono _)
      | (with_reducible exact swarfref04_IsClean.mono _ _ _ _ _ _ _)
      | (with_reducible exact swarfref04_Wrongs.mono _ _ _ _ _ _ _)
      | (with_reducible exact LeO.refl _)
      | (with_reducible exact LeO.none _)
      | (with_reducible refine LeO.ite ?_ ?_)
      | (with_reducible refine LeO.bind ?_ (fun _ => ?_))
      | exact ih0 _ _ _ _ _ _ _ _ _ _ _ _ _
      | exact ih1 _ _ _ _ _ _ _ _ _ _ _ _ _ _ _ _
      | exact ih2 _ _ _ _ _ _ _ _ _ _ _ _ _ _ _ _ _
      | exact ih3 _ _ _ _ _ _ _ _ _ _ _ _ _ _ _
      | exact ih4 _ _ _ _ _ _ _ _ _ _ _ _ _ _ _
      | exact ih5 _ _ _ _
      | exact ih6 _ _ _ _
      | exact swarfkit_CarOf.mono _ _ _ _
      | exact swarflaw04_awake.mono _
      | exact swarfref04_IsClean.mono _ _ _ _ _ _ _
      | exact swarfref04_Wrongs.mono _ _ _ _ _ _ _
      | exact LeO.none _
      | refine LeO.ite ?_ ?_
      | refine LeO.bind ?_ (fun _ => ?_)
    · intro y0 y1 y2 y3
      unfold swarflaw04_StripAll.l4
      repeat' first
      | (with_reducible exact ih0 _ _ _ _ _ _ _ _ _ _ _ _ _)
      | (with_reducible exact ih1 _ _ _ _ _ _ _ _ _ _ _ _ _ _ _ _)
      | (with_reducible exact ih2 _ _ _ _ _ _ _ _ _ _ _ _ _ _ _ _ _)
      | (with_reducible exact ih3 _ _ _ _ _ _ _ _ _ _ _ _ _ _ _)
      | (with_reducible exact ih4 _ _ _ _ _ _ _ _ _ _ _ _ _ _ _)
      | (with_reducible exact ih5 _ _ _ _)
      | (with_reducible exact ih6 _ _ _ _)
      | (with_reducible exact swarfkit_CarOf.mono _ _ _ _)
      | (with_reducible exact swarflaw04_awake.mono _)
      | (with_reducible exact swarfref04_IsClean.mono _ _ _ _ _ _ _)
      | (with_reducible exact swarfref04_Wrongs.mono _ _ _ _ _ _ _)
      | (with_reducible exact LeO.refl _)
      | (with_reducible exact LeO.none _)
      | (with_reducible refine LeO.ite ?_ ?_)
      | (with_reducible refine LeO.bind ?_ (fun _ => ?_))
      | exact ih0 _ _ _ _ _ _ _ _ _ _ _ _ _
      | exact ih1 _ _ _ _ _ _ _ _ _ _ _ _ _ _ _ _
      | exact ih2 _ _ _ _ _ _ _ _ _ _ _ _ _ _ _ _ _
      | exact ih3 _ _ _ _ _ _ _ _ _ _ _ _ _ _ _
      | exact ih4 _ _ _ _ _ _ _ _ _ _ _ _ _ _ _
      | exact ih5 _ _ _ _
      | exact ih6 _ _ _ _
      | exact swarfkit_CarOf.mono _ _ _ _
      | exact swarflaw04_awake.mono _
      | exact swarfref04_IsClean.mono _ _ _ _ _ _ _
      | exact swarfref04_Wrongs.mono _ _ _ _ _ _ _
      | exact LeO.none _
      | refine LeO.ite ?_ ?_
      | refine LeO.bind ?_ (fun _ => ?_)
theorem swarflaw04_StripAll.mono : ∀ a0 k, LeO (swarflaw04_StripAll.f k a0) (swarflaw04_StripAll.f (k + 1) a0) := by
  intro a0 k
  obtain ⟨ih0, ih1, ih2, ih3, ih4, ih5, ih6⟩ := swarflaw04_StripAll.mono_l k
  unfold swarflaw04_StripAll.f
  repeat' first
      | (with_reducible exact ih0 _ _ _ _ _ _ _ _ _ _ _ _ _)
      | (with_reducible exact ih1 _ _ _ _ _ _ _ _ _ _ _ _ _ _ _ _)
      | (with_reducible exact ih2 _ _ _ _ _ _ _ _ _ _ _ _ _ _ _ _ _)
      | (with_reducible exact ih3 _ _ _ _ _ _ _ _ _ _ _ _ _ _ _)
      | (with_reducible exact ih4 _ _ _ _ _ _ _ _ _ _ _ _ _ _ _)
      | (with_reducible exact ih5 _ _ _ _)
      | (with_reducible exact ih6 _ _ _ _)
      | (with_reducible exact swarfkit_CarOf.mono _ _ _ _)
      | (with_reducible exact swarflaw04_awake.mono _)
      | (with_reducible exact swarfref04_IsClean.mono _ _ _ _ _ _ _)
      | (with_reducible exact swarfref04_Wrongs.mono _ _ _ _ _ _ _)
      | (with_reducible exact LeO.refl _)
      | (with_reducible exact LeO.none _)
      | (with_reducible refine LeO.ite ?_ ?_)
      | (with_reducible refine LeO.bind ?_ (fun _ => ?_))
      | exact ih0 _ _ _ _ _ _ _ _ _ _ _ _ _
      | exact ih1 _ _ _ _ _ _ _ _ _ _ _ _ _ _ _ _
      | exact ih2 _ _ _ _ _ _ _ _ _ _ _ _ _ _ _ _ _
      | exact ih3 _ _ _ _ _ _ _ _ _ _ _ _ _ _ _
      | exact ih4 _ _ _ _ _ _ _ _ _ _ _ _ _ _ _
      | exact ih5 _ _ _ _
      | exact ih6 _ _ _ _
      | exact swarfkit_CarOf.mono _ _ _ _
      | exact swarflaw04_awake.mono _
      | exact swarfref04_IsClean.mono _ _ _ _ _ _ _
      | exact swarfref04_Wrongs.mono _ _ _ _ _ _ _
      | exact LeO.none _
      | refine LeO.ite ?_ ?_
      | refine LeO.bind ?_ (fun _ => ?_)
def swarflaw04_StripAll.T3 : Bool × List (List Nat × List Nat) := (true, [([], []), ([], []), ([1], [1]), ([], []), ([3], [3]), ([2, 4], [2, 4]), ([0, 5, 4], [0, 5]), ([0, 1, 2, 3, 4, 5, 6], []), ([7, 6, 6, 0, 1, 2, 3, 4, 5, 6], [6, 7])])
def swarflaw04_StripAll.B3 : List Nat := [0, 0, 2, 0, 8, 30, 63, 127, 255]
theorem swarflaw04_StripAll.tab3 : rtab .any (opsOf Try.f4 3) = swarflaw04_StripAll.T3 := by kernel_rfl
theorem swarflaw04_StripAll.bits3 : waitsOk swarflaw04_StripAll.T3.2 swarflaw04_StripAll.B3 = true := by kernel_rfl
def swarflaw04_StripAll.T19 : Bool × List (List Nat × List Nat) := (true, [([], []), ([0], [0]), ([1], [1]), ([2], [2]), ([2], [2]), ([3, 4, 2, 2], [2, 3, 4]), ([2], [2]), ([6, 2], [2, 6]), ([5, 7, 2], [2, 5, 7]), ([2, 8], [2, 8])])
def swarflaw04_StripAll.B19 : List Nat := [0, 1, 3, 7, 7, 31, 7, 71, 255, 511]
theorem swarflaw04_StripAll.tab19 : rtab .any (opsOf Try.f4 19) = swarflaw04_StripAll.T19 := by kernel_rfl
theorem swarflaw04_StripAll.bits19 : waitsOk swarflaw04_StripAll.T19.2 swarflaw04_StripAll.B19 = true := by kernel_rfl
def swarflaw04_StripAll.T35 : Bool × List (List Nat × List Nat) := (true, [([], []), ([], []), ([0, 1], [0, 1]), ([2], [2]), ([], []), ([], []), ([4, 5], [4, 5]), ([6], [6]), ([], []), ([7, 8], [7, 8]), ([3, 9], [3, 9])])
def swarflaw04_StripAll.B35 : List Nat := [0, 0, 3, 7, 0, 0, 48, 112, 0, 496, 1023]
theorem swarflaw04_StripAll.tab35 : rtab .any (opsOf Try.f4 35) = swarflaw04_StripAll.T35 := by kernel_rfl
theorem swarflaw04_StripAll.bits35 : waitsOk swarflaw04_StripAll.T35.2 swarflaw04_StripAll.B35 = true := by kernel_rfl
set_option maxHeartbeats 8000000 in
set_option maxRecDepth 100000 in
theorem swarflaw04_StripAll.calls (k : Nat) (A0 : Option Addr) (c0 : Nat) (l0 : List Int) (r : Bool) (hrt : Aside0 (r = true)) (w : World) (hr0 : Kd.C (Kd.int .i64) w A0 l0.length l0) (hc0 : l0.length ≤ c0) (h : swarflaw04_StripAll.f k l0 = some r) :
    Calls Try.prog 4 #[.slice A0 l0.length c0] w fun e w' => e = .returned (.bool r) ∧ Below w.heap.size w w' := by
  have hu26 := Try.underlying26
  have HR0 := Aside0.mk hr0
  have HC0 := Aside0.mk hc0
  clear hr0 hc0
  have HB := Aside0.mk (Below.refl w.heap.size w)
  have H : ((swarfkit_FeedOf.f l0).bind fun t273 => ((swarfkit_CarOf.f k t273 6 8).bind fun bt275 => ((swarfkit_Feed_Below.f bt275.2.2.2.2.2.2 4).bind fun bt291 => ((swarfkit_Feed_Either.f bt291.2 (([bt275.2.2.2.1, bt291.1] : List Int))).bind fun bt296 => ((strip_Out.f bt275.1 bt275.2.1 bt275.2.2.1 bt296.1 bt275.2.2.2.2.1).bind fun bt298 => ((strip_Clean.f bt275.1 bt275.2.1 bt275.2.2.1 bt296.1 bt275.2.2.2.2.1).bind fun bt302 => (if 0 ≤ (bt275.1.length : Int) then (if ((bt275.1.length : Int) : Int).toNat ≤ 35184372088832 then (swarflaw04_StripAll.l0 k bt298.1 bt298.2 bt302.1 bt302.2 (List.replicate ((bt275.1.length : Int) : Int).toNat 0) 0 0 0 bt275.1 bt275.2.1 bt275.2.2.1 bt296.1 bt275.2.2.2.2.1) else (none)) else (none)))))))) = some r := h
  clear h
  replace H := Option.bind_eq_some_iff.mp H
  obtain ⟨t273, A20, H⟩ := H
  replace H : ((swarfkit_CarOf.f k t273 6 8).bind fun bt275 => ((swarfkit_Feed_Below.f bt275.2.2.2.2.2.2 4).bind fun bt291 => ((swarfkit_Feed_Either.f bt291.2 (([bt275.2.2.2.1, bt291.1] : List Int))).bind fun bt296 => ((strip_Out.f bt275.1 bt275.2.1 bt275.2.2.1 bt296.1 bt275.2.2.2.2.1).bind fun bt298 => ((strip_Clean.f bt275.1 bt275.2.1 bt275.2.2.1 bt296.1 bt275.2.2.2.2.1).bind fun bt302 => (if 0 ≤ (bt275.1.length : Int) then (if ((bt275.1.length : Int) : Int).toNat ≤ 35184372088832 then (swarflaw04_StripAll.l0 k bt298.1 bt298.2 bt302.1 bt302.2 (List.replicate ((bt275.1.length : Int) : Int).toNat 0) 0 0 0 bt275.1 bt275.2.1 bt275.2.2.1 bt296.1 bt275.2.2.2.2.1) else (none)) else (none))))))) = some r := H
  have A2 := Aside0.mk A20
  clear A20
  replace H := Option.bind_eq_some_iff.mp H
  obtain ⟨⟨t275, t278, t279, t282, t283, t286, t289⟩, A30, H⟩ := H
  replace H : ((swarfkit_Feed_Below.f t289 4).bind fun bt291 => ((swarfkit_Feed_Either.f bt291.2 (([t282, bt291.1] : List Int))).bind fun bt296 => ((strip_Out.f t275 t278 t279 bt296.1 t283).bind fun bt298 => ((strip_Clean.f t275 t278 t279 bt296.1 t283).bind fun bt302 => (if 0 ≤ (t275.length : Int) then (if ((t275.length : Int) : Int).toNat ≤ 35184372088832 then (swarflaw04_StripAll.l0 k bt298.1 bt298.2 bt302.1 bt302.2 (List.replicate ((t275.length : Int) : Int).toNat 0) 0 0 0 t275 t278 t279 bt296.1 t283) else (none)) else (none)))))) = some r := H
  have A3 := Aside0.mk A30
  clear A30
  replace H := Option.bind_eq_some_iff.mp H
  obtain ⟨⟨t291, t292⟩, A40, H⟩ := H
  replace H : ((swarfkit_Feed_Either.f t292 (([t282, t291] : List Int))).bind fun bt296 => ((strip_Out.f t275 t278 t279 bt296.1 t283).bind fun bt298 => ((strip_Clean.f t275 t278 t279 bt296.1 t283).bind fun bt302 => (if 0 ≤ (t275.length : Int) then (if ((t275.length : Int) : Int).toNat ≤ 35184372088832 then (swarflaw04_StripAll.l0 k bt298.1 bt298.2 bt302.1 bt302.2 (List.replicate ((t275.length : Int) : Int).toNat 0) 0 0 0 t275 t278 t279 bt296.1 t283) else (none)) else (none))))) = some r := H
  have A4 := Aside0.mk A40
  clear A40
  obtain ⟨y293, hy293⟩ : ∃ y_ : List Int, y_ = (([t282, t291] : List Int)) := ⟨_, rfl⟩
  replace H : ((swarfkit_Feed_Either.f t292 y293).bind fun bt296 => ((strip_Out.f t275 t278 t279 bt296.1 t283).bind fun bt298 => ((strip_Clean.f t275 t278 t279 bt296.1 t283).bind fun bt302 => (if 0 ≤ (t275.length : Int) then (if ((t275.length : Int) : Int).toNat ≤ 35184372088832 then (swarflaw04_StripAll.l0 k bt298.1 bt298.2 bt302.1 bt302.2 (List.replicate ((t275.length : Int) : Int).toNat 0) 0 0 0 t275 t278 t279 bt296.1 t283) else (none)) else (none))))) = some r := by first | (rw [hy293]; with_reducible exact H) | (have H2_ := (Option.bind_some _ _).symm.trans H; rw [hy293]; with_reducible exact H2_) | (have H2_ := (Option.bind_some _ _).symm.trans H; with_reducible exact H2_) | with_reducible exact H | (rw [hy293]; exact H) | exact H
  have Ny293 := Aside0.mk hy293
  clear hy293
  replace H := Option.bind_eq_some_iff.mp H
  obtain ⟨⟨t296, t297⟩, A50, H⟩ := H
  replace H : ((strip_Out.f t275 t278 t279 t296 t283).bind fun bt298 => ((strip_Clean.f t275 t278 t279 t296 t283).bind fun bt302 => (if 0 ≤ (t275.length : Int) then (if ((t275.length : Int) : Int).toNat ≤ 35184372088832 then (swarflaw04_StripAll.l0 k bt298.1 bt298.2 bt302.1 bt302.2 (List.replicate ((t275.length : Int) : Int).toNat 0) 0 0 0 t275 t278 t279 t296 t283) else (none)) else (none)))) = some r := H
  have A5 := Aside0.mk A50
  clear A50
  replace H := Option.bind_eq_some_iff.mp H
  obtain ⟨⟨t298, t301⟩, A60, H⟩ := H
  replace H : ((strip_Clean.f t275 t278 t279 t296 t283).bind fun bt302 => (if 0 ≤ (t275.length : Int) then (if ((t275.length : Int) : Int).toNat ≤ 35184372088832 then (swarflaw04_StripAll.l0 k t298 t301 bt302.1 bt302.2 (List.replicate ((t275.length : Int) : Int).toNat 0) 0 0 0 t275 t278 t279 t296 t283) else (none)) else (none))) = some r := H
  have A6 := Aside0.mk A60
  clear A60
  replace H := Option.bind_eq_some_iff.mp H
  obtain ⟨⟨t302, t303⟩, A70, H⟩ := H
  replace H : (if 0 ≤ (t275.length : Int) then (if ((t275.length : Int) : Int).toNat ≤ 35184372088832 then (swarflaw04_StripAll.l0 k t298 t301 t302 t303 (List.replicate ((t275.length : Int) : Int).toNat 0) 0 0 0 t275 t278 t279 t296 t283) else (none)) else (none)) = some r := H
  have A7 := Aside0.mk A70
  clear A70
  by_cases c8 : 0 ≤ (t275.length : Int)
  · rw [if_pos c8] at H
    have c8b0 := eq_true c8
    have c8b1 : decide (0 ≤ (t275.length : Int)) = true := decide_eq_true c8
    clear c8
    by_cases c9 : ((t275.length : Int) : Int).toNat ≤ 35184372088832
    · rw [if_pos c9] at H
      have c9b0 := eq_true c9
      have c9b1 : decide (((t275.length : Int) : Int).toNat ≤ 35184372088832) = true := decide_eq_true c9
      clear c9
      obtain ⟨y304, hy304⟩ : ∃ y_ : List Int, y_ = (List.replicate ((t275.length : Int) : Int).toNat 0) := ⟨_, rfl⟩
      replace H : (swarflaw04_StripAll.l0 k t298 t301 t302 t303 y304 0 0 0 t275 t278 t279 t296 t283) = some r := by first | (rw [hy304]; with_reducible exact H) | (have H2_ := (Option.bind_some _ _).symm.trans H; rw [hy304]; with_reducible exact H2_) | (have H2_ := (Option.bind_some _ _).symm.trans H; with_reducible exact H2_) | with_reducible exact H | (rw [hy304]; exact H) | exact H
      have Ny304 := Aside0.mk hy304
      clear hy304
      have H' := Aside0.mk H
      clear H
      go_enter Try.func4, Try.ntmps4
      try go_wp2_with (first | ((with_reducible refine gate_callee (f := 18) rfl ?_); refine goesL_ (some 21) rfl rfl Try.func18 (by kernel_rfl) rfl #[.slice A0 l0.length c0] rfl (by (try simp only [List.map_toArray, List.map_cons, List.map_nil]); first | done | rfl | (simp only [List.length_drop, List.length_take]; rfl)) ?_; (with_reducible refine (swarfkit_FeedOf.calls _ _ l0 t273 w _ ?side1 ?side2 ?side3 A2.out).mono ?_); (case side1 => repeat (first | (with_reducible first | exact HB.out | apply below_alloc | apply pw_below_drewN | apply below_drew1) | exact HB.out)); (case side2 => exact HR0.out); (case side3 => exact HC0.out); rintro e w10 ⟨g274, rfl, hi, hb, hb2⟩; refine ⟨_, rfl, ?_⟩; have n0_ := Aside0.mk (hb); have n1_ := Aside0.mk (hi); clear HB; have HB := n0_; have HI274 := n1_; clear n0_ n1_; (try clear hb); (try clear hb2); (try clear hk); (try clear hi)) | ((with_reducible refine gate_callee (f := 17) rfl ?_); refine goesL_ (some 24) rfl rfl Try.func17 (by kernel_rfl) rfl #[.pointer (some ⟨g274, 0, none⟩), .int .i64 6, .int .i64 8] rfl (by (try simp only [List.map_toArray, List.map_cons, List.map_nil]); first | done | rfl | (simp only [List.length_drop, List.length_take]; rfl)) ?_; (with_reducible refine (swarfkit_CarOf.calls k g274 t273 6 8 t275 t278 t279 t282 t283 t286 t289 w _ ?side1 ?side2 A3.out).mono ?_); (case side1 => repeat (first | (with_reducible first | exact HI274.out | apply IsS79.alloc | apply IsS79.drewN | apply IsS79.drew | apply IsS79.set_0) | exact HI274.out)); (case side2 => repeat (first | (with_reducible first | exact HB.out | apply below_alloc | apply pw_below_drewN | apply below_drew1 | refine below_set ?_ (IsS79.ge HI274.out)) | exact HB.out)); rintro e w11 ⟨v276, v280, v284, v287, rfl, ho0, ho1, ho2, ho3, hi, hb, hk⟩; refine ⟨_, rfl, ?_⟩; have n0_ := Aside0.mk (Kd.S_lower ho0 (below_size (by repeat (first | (with_reducible first | exact HB.out | apply below_alloc | apply pw_below_drewN | apply below_drew1 | refine below_set ?_ (IsS79.ge HI274.out)) | exact HB.out)))); have n1_ := Aside0.mk (Kd.R_lower ho1 (below_size (by repeat (first | (with_reducible first | exact HB.out | apply below_alloc | apply pw_below_drewN | apply below_drew1 | refine below_set ?_ (IsS79.ge HI274.out)) | exact HB.out)))); have n2_ := Aside0.mk (Kd.R_lower ho2 (below_size (by repeat (first | (with_reducible first | exact HB.out | apply below_alloc | apply pw_below_drewN | apply below_drew1 | refine below_set ?_ (IsS79.ge HI274.out)) | exact HB.out)))); have n3_ := Aside0.mk (Kd.R_lower ho3 (below_size (by repeat (first | (with_reducible first | exact HB.out | apply below_alloc | apply pw_below_drewN | apply below_drew1 | refine below_set ?_ (IsS79.ge HI274.out)) | exact HB.out)))); have n4_ := Aside0.mk (hb); have n5_ := Aside0.mk (hi); clear HB; clear HI274; have HO277 := n0_; have HO281 := n1_; have HO285 := n2_; have HO288 := n3_; have HB := n4_; have HI274 := n5_; clear n0_ n1_ n2_ n3_ n4_ n5_; (try clear hb); (try clear hb2); (try clear hk); (try clear hi); (try clear ho0); (try clear ho1); (try clear ho2); (try clear ho3)) | ((with_reducible refine gate_dst (N := 4) rfl ?_); (try (refine gate_guard (by rfl) ?_; dsimp only)); refine box_event ?hg (N := 4) ?hd (cs := #[.slice none 0 0, .int .i64 0, .slice none 0 0, .int .i64 0, .slice none 0 0]) (t := 26) ?hr ?_; (case hd => rfl); (case hg => rfl); (case hr => first | (go_simp; done) | (go_simp; rfl)); intro gb290 hg w12 hbox hb; have n0_ := Aside0.mk (Kd.S_below (by (with_reducible repeat (first | apply Kd.S_alloc | apply Kd.S_drewN | apply Kd.S_drew)); exact HO277.out) hb); have n1_ := Aside0.mk (Kd.R_below (by (with_reducible repeat (first | apply Kd.R_alloc | apply Kd.R_drewN | apply Kd.R_drew)); exact HO281.out) hb); have n2_ := Aside0.mk (Kd.R_below (by (with_reducible repeat (first | apply Kd.R_alloc | apply Kd.R_drewN | apply Kd.R_drew)); exact HO285.out) hb); have n3_ := Aside0.mk (Kd.R_below (by (with_reducible repeat (first | apply Kd.R_alloc | apply Kd.R_drewN | apply Kd.R_drew)); exact HO288.out) hb); have n4_ := Aside0.mk (IsS79.below (by repeat (first | (with_reducible first | exact HI274.out | apply IsS79.alloc | apply IsS79.drewN | apply IsS79.drew | apply IsS79.set_0) | exact HI274.out)) hb); have n5_ := Aside0.mk (below_step (by repeat (first | (with_reducible first | exact HB.out | apply below_alloc | apply pw_below_drewN | apply below_drew1 | refine below_set ?_ (IsS79.ge HI274.out)) | exact HB.out)) hb); have n6_ := Aside0.mk (hbox); have n7_ := Aside0.mk ((by rw [hg]; exact (below_size (by repeat (first | (with_reducible first | exact HB.out | apply below_alloc | apply pw_below_drewN | apply below_drew1 | refine below_set ?_ (IsS79.ge HI274.out)) | exact HB.out))) : w.heap.size ≤ gb290)); have n8_ := Aside0.mk ((by rw [hg]; exact (below_size (by repeat (first | (with_reducible first | exact HB.out | apply below_alloc | apply pw_below_drewN | apply below_drew1 | refine below_set ?_ (IsS79.ge HI274.out)) | exact HB.out))) : w.heap.size ≤ gb290)); have n9_ := Aside0.mk ((by rw [hg]; exact Nat.ne_of_lt (IsS79.lt (show IsS79 w _ g274 t289 from by repeat (first | (with_reducible first | exact HI274.out | apply IsS79.alloc | apply IsS79.drewN | apply IsS79.drew | apply IsS79.set_0) | exact HI274.out))) : g274 ≠ gb290)); have n10_ := Aside0.mk ((by rw [hg]; exact Nat.ne_of_gt (IsS79.lt (show IsS79 w _ g274 t289 from by repeat (first | (with_reducible first | exact HI274.out | apply IsS79.alloc | apply IsS79.drewN | apply IsS79.drew | apply IsS79.set_0) | exact HI274.out))) : gb290 ≠ g274)); clear HO277; clear HO281; clear HO285; clear HO288; clear HI274; clear HB; have HO277 := n0_; have HO281 := n1_; have HO285 := n2_; have HO288 := n3_; have HI274 := n4_; have HB := n5_; have BK290 := n6_; have GW290 := n7_; have GE290 := n8_; have NB274_290 := n9_; have NB290_274 := n10_; clear n0_ n1_ n2_ n3_ n4_ n5_ n6_ n7_ n8_ n9_ n10_; clear hb hbox hg; obtain ⟨Ao13, co13, eo13⟩ := Kd.S_slice HO277.out; subst eo13; have hnb14 := NB290_274.out; have hnc14 := NB274_290.out; have hcz15_0 : w12.cell? ⟨gb290, 0, none⟩ = some (.slice none 0 0) := (blk_cell BK290.out 0).trans rfl; have hcz15_1 : w12.cell? ⟨gb290, 1, none⟩ = some (.int .i64 0) := (blk_cell BK290.out 1).trans rfl; have hcz15_2 : w12.cell? ⟨gb290, 2, none⟩ = some (.slice none 0 0) := (blk_cell BK290.out 2).trans rfl; have hcz15_3 : w12.cell? ⟨gb290, 3, none⟩ = some (.int .i64 0) := (blk_cell BK290.out 3).trans rfl; have hcz15_4 : w12.cell? ⟨gb290, 4, none⟩ = some (.slice none 0 0) := (blk_cell BK290.out 4).trans rfl; have hfz15_0 := blk_frozen BK290.out 0; have hfz15_1 := blk_frozen BK290.out 1; have hfz15_2 := blk_frozen BK290.out 2; have hfz15_3 := blk_frozen BK290.out 3; have hfz15_4 := blk_frozen BK290.out 4; obtain ⟨Ao16, co16, eo16⟩ := Kd.R_slice HO281.out; subst eo16; obtain ⟨Ao17, co17, eo17⟩ := Kd.R_slice HO285.out; subst eo17))
      have n0_ : Aside0 (Kd.S k50 50 (((((w12.setCell ⟨gb290, 0, none⟩ (.slice Ao13 t275.length co13)).setCell ⟨gb290, 1, none⟩ (.int .i64 t278)).setCell ⟨gb290, 2, none⟩ (.slice Ao16 t279.length co16)).setCell ⟨gb290, 3, none⟩ (.int .i64 t282)).setCell ⟨gb290, 4, none⟩ (.slice Ao17 t283.length co17)) w.heap.size (fun k_ => some k_ ≠ (.slice Ao17 t283.length co17 : Value).ownBlock) (.slice Ao13 t275.length co13) t275) := ⟨by (with_reducible repeat (first | apply Kd.S_alloc | apply Kd.S_drewN | apply Kd.S_drew)); exact Kd.S_mono (Kd.S_far (p := ⟨gb290, 4, none⟩) (Kd.S_far (p := ⟨gb290, 3, none⟩) (Kd.S_far (p := ⟨gb290, 2, none⟩) (Kd.S_far (p := ⟨gb290, 1, none⟩) (Kd.S_far (p := ⟨gb290, 0, none⟩) (Kd.S_types HO277.out BK290.out (by decide)) (fun _ hk => hk.2) (.slice Ao13 t275.length co13)) (fun _ hk => hk.2) (.int .i64 t278)) (fun _ hk => hk.2) (.slice Ao16 t279.length co16)) (fun _ hk => hk.2) (.int .i64 t282)) (fun _ hk => hk.2) (.slice Ao17 t283.length co17)) (fun _ hk => hk.1)⟩
      have n1_ : Aside0 (Kd.R k61 61 (((((w12.setCell ⟨gb290, 0, none⟩ (.slice Ao13 t275.length co13)).setCell ⟨gb290, 1, none⟩ (.int .i64 t278)).setCell ⟨gb290, 2, none⟩ (.slice Ao16 t279.length co16)).setCell ⟨gb290, 3, none⟩ (.int .i64 t282)).setCell ⟨gb290, 4, none⟩ (.slice Ao17 t283.length co17)) w.heap.size (fun _ => True) (.slice Ao16 t279.length co16) t279) := ⟨by (with_reducible repeat (first | apply Kd.R_alloc | apply Kd.R_drewN | apply Kd.R_drew)); exact Kd.R_mono (Kd.R_far (p := ⟨gb290, 4, none⟩) (Kd.R_far (p := ⟨gb290, 3, none⟩) (Kd.R_far (p := ⟨gb290, 2, none⟩) (Kd.R_far (p := ⟨gb290, 1, none⟩) (Kd.R_far (p := ⟨gb290, 0, none⟩) (Kd.R_types HO281.out BK290.out (by decide)) (fun _ hk => hk.2) (.slice Ao13 t275.length co13)) (fun _ hk => hk.2) (.int .i64 t278)) (fun _ hk => hk.2) (.slice Ao16 t279.length co16)) (fun _ hk => hk.2) (.int .i64 t282)) (fun _ hk => hk.2) (.slice Ao17 t283.length co17)) (fun _ hk => trivial)⟩
      have n2_ : Aside0 (Kd.R (Kd.int .i64) 3 (((((w12.setCell ⟨gb290, 0, none⟩ (.slice Ao13 t275.length co13)).setCell ⟨gb290, 1, none⟩ (.int .i64 t278)).setCell ⟨gb290, 2, none⟩ (.slice Ao16 t279.length co16)).setCell ⟨gb290, 3, none⟩ (.int .i64 t282)).setCell ⟨gb290, 4, none⟩ (.slice Ao17 t283.length co17)) w.heap.size (fun _ => True) (.slice Ao17 t283.length co17) t283) := ⟨by (with_reducible repeat (first | apply Kd.R_alloc | apply Kd.R_drewN | apply Kd.R_drew)); exact Kd.R_mono (Kd.R_far (p := ⟨gb290, 4, none⟩) (Kd.R_far (p := ⟨gb290, 3, none⟩) (Kd.R_far (p := ⟨gb290, 2, none⟩) (Kd.R_far (p := ⟨gb290, 1, none⟩) (Kd.R_far (p := ⟨gb290, 0, none⟩) (Kd.R_types HO285.out BK290.out (by decide)) (fun _ hk => hk.2) (.slice Ao13 t275.length co13)) (fun _ hk => hk.2) (.int .i64 t278)) (fun _ hk => hk.2) (.slice Ao16 t279.length co16)) (fun _ hk => hk.2) (.int .i64 t282)) (fun _ hk => hk.2) (.slice Ao17 t283.length co17)) (fun _ hk => trivial)⟩
      have n3_ : Aside0 (Kd.R Kd.bool 4 (((((w12.setCell ⟨gb290, 0, none⟩ (.slice Ao13 t275.length co13)).setCell ⟨gb290, 1, none⟩ (.int .i64 t278)).setCell ⟨gb290, 2, none⟩ (.slice Ao16 t279.length co16)).setCell ⟨gb290, 3, none⟩ (.int .i64 t282)).setCell ⟨gb290, 4, none⟩ (.slice Ao17 t283.length co17)) w.heap.size (fun _ => True) v287 t286) := ⟨by (with_reducible repeat (first | apply Kd.R_alloc | apply Kd.R_drewN | apply Kd.R_drew)); exact Kd.R_mono (Kd.R_far (p := ⟨gb290, 4, none⟩) (Kd.R_far (p := ⟨gb290, 3, none⟩) (Kd.R_far (p := ⟨gb290, 2, none⟩) (Kd.R_far (p := ⟨gb290, 1, none⟩) (Kd.R_far (p := ⟨gb290, 0, none⟩) (Kd.R_types HO288.out BK290.out (by decide)) (fun _ hk => hk.2) (.slice Ao13 t275.length co13)) (fun _ hk => hk.2) (.int .i64 t278)) (fun _ hk => hk.2) (.slice Ao16 t279.length co16)) (fun _ hk => hk.2) (.int .i64 t282)) (fun _ hk => hk.2) (.slice Ao17 t283.length co17)) (fun _ hk => trivial)⟩
      have n4_ : Aside0 ((((((w12.setCell ⟨gb290, 0, none⟩ (.slice Ao13 t275.length co13)).setCell ⟨gb290, 1, none⟩ (.int .i64 t278)).setCell ⟨gb290, 2, none⟩ (.slice Ao16 t279.length co16)).setCell ⟨gb290, 3, none⟩ (.int .i64 t282)).setCell ⟨gb290, 4, none⟩ (.slice Ao17 t283.length co17)).heap[gb290]? = some (.cells #[.slice Ao13 t275.length co13, .int .i64 t278, .slice Ao16 t279.length co16, .int .i64 t282, .slice Ao17 t283.length co17] 26 (0, 0))) := ⟨by (with_reducible repeat (first | refine blk_drewN ?_ _ | refine blk_drew ?_ | refine blk_alloc ?_ _)); refine blk_put (cs := #[.slice Ao13 t275.length co13, .int .i64 t278, .slice Ao16 t279.length co16, .int .i64 t282, .slice none 0 0]) ?_ 4 _ rfl; (with_reducible repeat (first | refine blk_drewN ?_ _ | refine blk_drew ?_ | refine blk_alloc ?_ _)); refine blk_put (cs := #[.slice Ao13 t275.length co13, .int .i64 t278, .slice Ao16 t279.length co16, .int .i64 0, .slice none 0 0]) ?_ 3 _ rfl; (with_reducible repeat (first | refine blk_drewN ?_ _ | refine blk_drew ?_ | refine blk_alloc ?_ _)); refine blk_put (cs := #[.slice Ao13 t275.length co13, .int .i64 t278, .slice none 0 0, .int .i64 0, .slice none 0 0]) ?_ 2 _ rfl; (with_reducible repeat (first | refine blk_drewN ?_ _ | refine blk_drew ?_ | refine blk_alloc ?_ _)); refine blk_put (cs := #[.slice Ao13 t275.length co13, .int .i64 0, .slice none 0 0, .int .i64 0, .slice none 0 0]) ?_ 1 _ rfl; (with_reducible repeat (first | refine blk_drewN ?_ _ | refine blk_drew ?_ | refine blk_alloc ?_ _)); refine blk_put (cs := #[.slice none 0 0, .int .i64 0, .slice none 0 0, .int .i64 0, .slice none 0 0]) ?_ 0 _ rfl; (with_reducible repeat (first | refine blk_drewN ?_ _ | refine blk_drew ?_ | refine blk_alloc ?_ _)); exact BK290.out⟩
      have n5_ : Aside0 (IsS79 w (((((w12.setCell ⟨gb290, 0, none⟩ (.slice Ao13 t275.length co13)).setCell ⟨gb290, 1, none⟩ (.int .i64 t278)).setCell ⟨gb290, 2, none⟩ (.slice Ao16 t279.length co16)).setCell ⟨gb290, 3, none⟩ (.int .i64 t282)).setCell ⟨gb290, 4, none⟩ (.slice Ao17 t283.length co17)) g274 t289) := ⟨by repeat (first | (with_reducible first | exact HI274.out | apply IsS79.alloc | apply IsS79.drewN | apply IsS79.drew | apply IsS79.set_0 | refine IsS79.far ?_ NB274_290.out _) | exact HI274.out)⟩
      have n6_ : Aside0 (Below w.heap.size w (((((w12.setCell ⟨gb290, 0, none⟩ (.slice Ao13 t275.length co13)).setCell ⟨gb290, 1, none⟩ (.int .i64 t278)).setCell ⟨gb290, 2, none⟩ (.slice Ao16 t279.length co16)).setCell ⟨gb290, 3, none⟩ (.int .i64 t282)).setCell ⟨gb290, 4, none⟩ (.slice Ao17 t283.length co17))) := ⟨by repeat (first | (with_reducible first | exact HB.out | apply below_alloc | apply pw_below_drewN | apply below_drew1 | refine below_set ?_ (IsS79.ge HI274.out) | refine below_set ?_ GE290.out) | exact HB.out)⟩
      (try clear HO277)
      (try clear HO281)
      (try clear HO285)
      (try clear HO288)
      (try clear BK290)
      (try clear HI274)
      (try clear HB)
      generalize (((((w12.setCell ⟨gb290, 0, none⟩ (.slice Ao13 t275.length co13)).setCell ⟨gb290, 1, none⟩ (.int .i64 t278)).setCell ⟨gb290, 2, none⟩ (.slice Ao16 t279.length co16)).setCell ⟨gb290, 3, none⟩ (.int .i64 t282)).setCell ⟨gb290, 4, none⟩ (.slice Ao17 t283.length co17)) = w18 at n0_ n1_ n2_ n3_ n4_ n5_ n6_ ⊢
      have HO277 := n0_
      have HO281 := n1_
      have HO285 := n2_
      have HO288 := n3_
      have BK290 := n4_
      have HI274 := n5_
      have HB := n6_
      clear n0_ n1_ n2_ n3_ n4_ n5_ n6_
      have n0_ := Aside0.mk (Kd.S_drew HO277.out)
      have n1_ := Aside0.mk (Kd.R_drew HO281.out)
      have n2_ := Aside0.mk (Kd.R_drew HO285.out)
      have n3_ := Aside0.mk (Kd.R_drew HO288.out)
      have n4_ := Aside0.mk (blk_drew BK290.out)
      have n5_ := Aside0.mk (IsS79.drew HI274.out)
      have n6_ := Aside0.mk (below_drew1 HB.out)
      clear HO277
      clear HO281
      clear HO285
      clear HO288
      clear BK290
      clear HI274
      clear HB
      have HO277 := n0_
      have HO281 := n1_
      have HO285 := n2_
      have HO288 := n3_
      have BK290 := n4_
      have HI274 := n5_
      have HB := n6_
      clear n0_ n1_ n2_ n3_ n4_ n5_ n6_
      refine start_ (n := 9) (S := fun w' => w'.cell? ⟨gb290, 0, none⟩ = some (.slice Ao13 t275.length co13) ∧ w'.cell? ⟨gb290, 1, none⟩ = some (.int .i64 t278) ∧ w'.cell? ⟨gb290, 2, none⟩ = some (.slice Ao16 t279.length co16) ∧ w'.cell? ⟨gb290, 3, none⟩ = some (.int .i64 t282) ∧ w'.cell? ⟨gb290, 4, none⟩ = some (.slice Ao17 t283.length co17)) (ds := [8]) #[false, false, false, false, false, false, false, false, false] (by kernel_rfl) rfl rfl ⟨(blk_cell BK290.out 0).trans rfl, (blk_cell BK290.out 1).trans rfl, (blk_cell BK290.out 2).trans rfl, (blk_cell BK290.out 3).trans rfl, (blk_cell BK290.out 4).trans rfl⟩ (fun hHeld => ?_); refine with_tabW swarflaw04_StripAll.tab3 swarflaw04_StripAll.bits3 (fun HT_ HW_ => ?_)
      generalize w18.drew = w19 at HO277 HO281 HO285 HO288 BK290 HI274 HB hHeld ⊢
      refine pure_ (i := 0) (N := some 27) (v := ?_) (a' := ?_) #[true, false, false, false, false, false, false, false, false] rfl rfl (any_of HT_.out (by kernel_rfl)) (fun _ _ _ h => h) (Or.inl ⟨by rfl, ?_⟩) ?_ ?_
      rotate_left
      · intro w'
        go_simp
        with_reducible rfl
      rotate_left
      · simp only [Act.put, List.setIfInBounds_toArray, List.set_cons_zero, List.set_cons_succ, i64_w, i32_w]
        rfl
      refine pure_ (i := 1) (N := some 28) (v := ?_) (a' := ?_) #[true, true, false, false, false, false, false, false, false] rfl rfl (any_of HT_.out (by kernel_rfl)) (fun _ _ _ h => h) (Or.inl ⟨by rfl, ?_⟩) ?_ ?_
      rotate_left
      · intro w'
        go_simp
        with_reducible rfl
      rotate_left
      · simp only [Act.put, List.setIfInBounds_toArray, List.set_cons_zero, List.set_cons_succ, i64_w, i32_w]
        rfl
      refine pure_ (i := 3) (N := some 30) (v := ?_) (a' := ?_) #[true, true, false, true, false, false, false, false, false] rfl rfl (any_of HT_.out (by kernel_rfl)) (fun _ _ _ h => h) (Or.inl ⟨by rfl, ?_⟩) ?_ ?_
      rotate_left
      · intro w'
        go_simp
        with_reducible rfl
      rotate_left
      · simp only [Act.put, List.setIfInBounds_toArray, List.set_cons_zero, List.set_cons_succ, i64_w, i32_w]
        rfl
      refine take_ (i := 2) (N := some 29) (v := ?_) (a' := ?_) #[true, true, true, true, false, false, false, false, false] rfl rfl (take_ofW HT_.out HW_.out (by kernel_rfl)) (fun _ _ _ h => h) (Or.inl ⟨by rfl, ?_⟩) hHeld ?_ ?_
      rotate_left
      · rintro w' ⟨s0, s1, s2, s3, s4⟩
        go_simp
        with_reducible rfl
      rotate_left
      · simp only [Act.put, List.setIfInBounds_toArray, List.set_cons_zero, List.set_cons_succ, i64_w, i32_w]
        rfl
      refine one_ (i := 4) (N := some 31) #[true, true, true, true, true, false, false, false, false] rfl rfl (one_of HT_.out (by kernel_rfl)) (by decide) (fun K hK => ?_)
      refine goes_ Try.func25 (by kernel_rfl) rfl #[.pointer (some ⟨g274, 0, none⟩), .int .i64 4] (by rfl) rfl rfl (by (try simp only [List.map_toArray, List.map_cons, List.map_nil]); first | done | rfl | (simp only [List.length_drop, List.length_take]; rfl)) ?_
      with_reducible refine (swarfkit_Feed_Below.calls g274 t289 4 t291 t292 w _ ?side1 ?side2 A4.out).mono ?_
      (case side1 => repeat (first | (with_reducible first | exact HI274.out | apply IsS79.alloc | apply IsS79.drewN | apply IsS79.drew | apply IsS79.set_0 | refine IsS79.far ?_ NB274_290.out _) | exact HI274.out))
      (case side2 => repeat (first | (with_reducible first | exact HB.out | apply below_alloc | apply pw_below_drewN | apply below_drew1 | refine below_set ?_ (IsS79.ge HI274.out) | refine below_set ?_ GE290.out) | exact HB.out))
      rintro e w20 ⟨rfl, hi, hb, hk⟩
      refine ⟨_, rfl, ?_⟩
      have n0_ := Aside0.mk (Kd.S_mono (Kd.S_keep (IsS79.apartS (show IsS79 w _ g274 t289 from by repeat (first | (with_reducible first | exact HI274.out | apply IsS79.alloc | apply IsS79.drewN | apply IsS79.drew | apply IsS79.set_0 | refine IsS79.far ?_ NB274_290.out _) | exact HI274.out)) (by (with_reducible repeat (first | apply Kd.S_alloc | apply Kd.S_drewN | apply Kd.S_drew)); exact HO277.out) (by decide)) hk (fun _ h => h.2)) (fun _ h => h.1))
      have n1_ := Aside0.mk (Kd.R_mono (Kd.R_keep (IsS79.apart (show IsS79 w _ g274 t289 from by repeat (first | (with_reducible first | exact HI274.out | apply IsS79.alloc | apply IsS79.drewN | apply IsS79.drew | apply IsS79.set_0 | refine IsS79.far ?_ NB274_290.out _) | exact HI274.out)) (by (with_reducible repeat (first | apply Kd.R_alloc | apply Kd.R_drewN | apply Kd.R_drew)); exact HO281.out) (by decide)) hk (fun _ h => h.2)) (fun _ h => h.1))
      have n2_ := Aside0.mk (Kd.R_mono (Kd.R_keep (IsS79.apart (show IsS79 w _ g274 t289 from by repeat (first | (with_reducible first | exact HI274.out | apply IsS79.alloc | apply IsS79.drewN | apply IsS79.drew | apply IsS79.set_0 | refine IsS79.far ?_ NB274_290.out _) | exact HI274.out)) (by (with_reducible repeat (first | apply Kd.R_alloc | apply Kd.R_drewN | apply Kd.R_drew)); exact HO285.out) (by decide)) hk (fun _ h => h.2)) (fun _ h => h.1))
      have n3_ := Aside0.mk (Kd.R_mono (Kd.R_keep (IsS79.apart (show IsS79 w _ g274 t289 from by repeat (first | (with_reducible first | exact HI274.out | apply IsS79.alloc | apply IsS79.drewN | apply IsS79.drew | apply IsS79.set_0 | refine IsS79.far ?_ NB274_290.out _) | exact HI274.out)) (by (with_reducible repeat (first | apply Kd.R_alloc | apply Kd.R_drewN | apply Kd.R_drew)); exact HO288.out) (by decide)) hk (fun _ h => h.2)) (fun _ h => h.1))
      have n4_ := Aside0.mk (KeepBut.blk hk (g' := gb290) (o := .cells #[.slice Ao13 t275.length co13, .int .i64 t278, .slice Ao16 t279.length co16, .int .i64 t282, .slice Ao17 t283.length co17] 26 (0, 0)) (by (with_reducible repeat (first | refine blk_drewN ?_ _ | refine blk_drew ?_ | refine blk_alloc ?_ _)); exact BK290.out) NB290_274.out (by simp))
      have n5_ := Aside0.mk (hb)
      have n6_ := Aside0.mk (hi)
      clear HO277
      clear HO281
      clear HO285
      clear HO288
      clear BK290
      clear HB
      clear HI274
      have HO277 := n0_
      have HO281 := n1_
      have HO285 := n2_
      have HO288 := n3_
      have BK290 := n4_
      have HB := n5_
      have HI274 := n6_
      clear n0_ n1_ n2_ n3_ n4_ n5_ n6_
      (try clear hb)
      (try clear hb2)
      (try clear hk)
      (try clear hi)
      refine hK.out _ _ ⟨(blk_cell BK290.out 0).trans rfl, (blk_cell BK290.out 1).trans rfl, (blk_cell BK290.out 2).trans rfl, (blk_cell BK290.out 3).trans rfl, (blk_cell BK290.out 4).trans rfl⟩ (fun hHeld => ?_)
      clear hK K
      refine norm_ (a' := ?_) ?_ ?_
      rotate_left
      · show Act.put _ (some 31) _ = _
        simp only [Act.put, List.setIfInBounds_toArray, List.set_cons_zero, List.set_cons_succ, i64_w, i32_w]
        rfl
      refine one_ (i := 5) (N := some 32) #[true, true, true, true, true, true, false, false, false] rfl rfl (one_of HT_.out (by kernel_rfl)) (by decide) (fun K hK => ?_)
      refine Kd.R_lit_step (Kd.int .i64) _ 3 ?hg (N := 32) ?hd (xs := ([t282, t291] : List Int)) (inner := [.int .i64 t282, .int .i64 t291]) (ok := fun _ => True) (okp := fun _ => True) ?hr ?hp (fun _ hk => hk) trivial (Below.refl _ _) (Nat.le_refl _) (by simp) ?_; (case hd => rfl); (case hg => rfl); (case hr => first | (go_simp; done) | (go_simp; rfl)); (case hp => exact (Reps.one (show Kd.M (Kd.int .i64) _ _ _ t282 [.int .i64 t282] from rfl) (Reps.one (show Kd.M (Kd.int .i64) _ _ _ t291 [.int .i64 t291] from rfl) (Reps.none _ _))))
      intro v294 w21 ho22 hb hg_ hnew_
      clear hg_ hnew_
      (first | rw [← Ny293.out] at ho22 | (simp only [Int.reduceToNat] at ho22; rw [← Ny293.out] at ho22))
      have n0_ := Aside0.mk (Kd.S_elder' (by (with_reducible repeat (first | apply Kd.S_alloc | apply Kd.S_drewN | apply Kd.S_drew)); exact HO277.out) (Kd.R_base ho22) hb)
      have n1_ := Aside0.mk (Kd.R_below (by (with_reducible repeat (first | apply Kd.R_alloc | apply Kd.R_drewN | apply Kd.R_drew)); exact HO281.out) hb)
      have n2_ := Aside0.mk (Kd.R_elder' (by (with_reducible repeat (first | apply Kd.R_alloc | apply Kd.R_drewN | apply Kd.R_drew)); exact HO285.out) (Kd.R_base ho22) hb)
      have n3_ := Aside0.mk (Kd.R_below (by (with_reducible repeat (first | apply Kd.R_alloc | apply Kd.R_drewN | apply Kd.R_drew)); exact HO288.out) hb)
      have n4_ := Aside0.mk (Kd.R_lower (Kd.R_new' ho22 (Kd.R_lt (by (with_reducible repeat (first | apply Kd.R_alloc | apply Kd.R_drewN | apply Kd.R_drew)); exact HO285.out))) (below_size (by repeat (first | (with_reducible first | exact HB.out | apply below_alloc | apply pw_below_drewN | apply below_drew1 | refine below_set ?_ (IsS79.ge HI274.out) | refine below_set ?_ GE290.out) | exact HB.out))))
      have n5_ := Aside0.mk (IsS79.below (by repeat (first | (with_reducible first | exact HI274.out | apply IsS79.alloc | apply IsS79.drewN | apply IsS79.drew | apply IsS79.set_0 | refine IsS79.far ?_ NB274_290.out _) | exact HI274.out)) hb)
      have n6_ := Aside0.mk (blk_below (g := gb290) (o := .cells #[.slice Ao13 t275.length co13, .int .i64 t278, .slice Ao16 t279.length co16, .int .i64 t282, .slice Ao17 t283.length co17] 26 (0, 0)) (by (with_reducible repeat (first | refine blk_drewN ?_ _ | refine blk_drew ?_ | refine blk_alloc ?_ _)); exact BK290.out) hb)
      have n7_ := Aside0.mk (below_step (by repeat (first | (with_reducible first | exact HB.out | apply below_alloc | apply pw_below_drewN | apply below_drew1 | refine below_set ?_ (IsS79.ge HI274.out) | refine below_set ?_ GE290.out) | exact HB.out)) hb)
      clear HO277
      clear HO281
      clear HO285
      clear HO288
      clear HI274
      clear BK290
      clear HB
      have HO277 := n0_
      have HO281 := n1_
      have HO285 := n2_
      have HO288 := n3_
      have HO295 := n4_
      have HI274 := n5_
      have BK290 := n6_
      have HB := n7_
      clear n0_ n1_ n2_ n3_ n4_ n5_ n6_ n7_
      clear hb ho22
      obtain ⟨Ao23, co23, eo23⟩ := Kd.R_slice HO295.out
      (first | subst eo23 | (injection eo23 with f1_ f2_ f3_; have f4_ := f1_.symm; have f5_ := f3_.symm; clear f1_ f2_ f3_; subst f4_; subst f5_))
      refine hK.out _ _ ⟨(blk_cell BK290.out 0).trans rfl, (blk_cell BK290.out 1).trans rfl, (blk_cell BK290.out 2).trans rfl, (blk_cell BK290.out 3).trans rfl, (blk_cell BK290.out 4).trans rfl⟩ (fun hHeld => ?_)
      clear hK K
      refine norm_ (a' := ?_) ?_ ?_
      rotate_left
      · show Act.put _ (some 32) _ = _
        simp only [Act.put, List.setIfInBounds_toArray, List.set_cons_zero, List.set_cons_succ, i64_w, i32_w]
        rfl
      refine one_ (i := 6) (N := some 33) #[true, true, true, true, true, true, true, false, false] rfl rfl (one_of HT_.out (by kernel_rfl)) (by decide) (fun K hK => ?_)
      refine goes_ Try.func24 (by kernel_rfl) rfl #[.pointer (some ⟨g274, 0, none⟩), .slice Ao23 y293.length co23] (by rfl) rfl rfl (by (try simp only [List.map_toArray, List.map_cons, List.map_nil]); first | done | rfl | (simp only [List.length_drop, List.length_take]; rfl)) ?_
      with_reducible refine (swarfkit_Feed_Either.calls g274 t292 _ _ y293 t296 t297 w _ ?side1 ?side2 ?side3 ?side4 ?side5 A5.out).mono ?_
      (case side1 => repeat (first | (with_reducible first | exact HI274.out | apply IsS79.alloc | apply IsS79.drewN | apply IsS79.drew | apply IsS79.set_0 | refine IsS79.far ?_ NB274_290.out _) | exact HI274.out))
      (case side2 => repeat (first | (with_reducible first | exact HB.out | apply below_alloc | apply pw_below_drewN | apply below_drew1 | refine below_set ?_ (IsS79.ge HI274.out) | refine below_set ?_ GE290.out) | exact HB.out))
      (case side3 => repeat (first | exact (Kd.R_reads' HO295.out).2.2 | (with_reducible refine Kd.C_alloc ?_ _) | (with_reducible refine Kd.C_drewN ?_ _) | (with_reducible refine Kd.C_drew ?_)))
      (case side4 => exact (Kd.R_reads' HO295.out).2.1)
      (case side5 => exact far_slice (IsS79.own_ne HI274.out HO295.out (by decide)))
      rintro e w24 ⟨rfl, hi, hb, hk⟩
      refine ⟨_, rfl, ?_⟩
      have n0_ := Aside0.mk (Kd.S_mono (Kd.S_keep (IsS79.apartS (show IsS79 w _ g274 t292 from by repeat (first | (with_reducible first | exact HI274.out | apply IsS79.alloc | apply IsS79.drewN | apply IsS79.drew | apply IsS79.set_0 | refine IsS79.far ?_ NB274_290.out _) | exact HI274.out)) (by (with_reducible repeat (first | apply Kd.S_alloc | apply Kd.S_drewN | apply Kd.S_drew)); exact HO277.out) (by decide)) hk (fun _ h => h.2)) (fun _ h => h.1))
      have n1_ := Aside0.mk (Kd.R_mono (Kd.R_keep (IsS79.apart (show IsS79 w _ g274 t292 from by repeat (first | (with_reducible first | exact HI274.out | apply IsS79.alloc | apply IsS79.drewN | apply IsS79.drew | apply IsS79.set_0 | refine IsS79.far ?_ NB274_290.out _) | exact HI274.out)) (by (with_reducible repeat (first | apply Kd.R_alloc | apply Kd.R_drewN | apply Kd.R_drew)); exact HO281.out) (by decide)) hk (fun _ h => h.2)) (fun _ h => h.1))
      have n2_ := Aside0.mk (Kd.R_mono (Kd.R_keep (IsS79.apart (show IsS79 w _ g274 t292 from by repeat (first | (with_reducible first | exact HI274.out | apply IsS79.alloc | apply IsS79.drewN | apply IsS79.drew | apply IsS79.set_0 | refine IsS79.far ?_ NB274_290.out _) | exact HI274.out)) (by (with_reducible repeat (first | apply Kd.R_alloc | apply Kd.R_drewN | apply Kd.R_drew)); exact HO285.out) (by decide)) hk (fun _ h => h.2)) (fun _ h => h.1))
      have n3_ := Aside0.mk (Kd.R_mono (Kd.R_keep (IsS79.apart (show IsS79 w _ g274 t292 from by repeat (first | (with_reducible first | exact HI274.out | apply IsS79.alloc | apply IsS79.drewN | apply IsS79.drew | apply IsS79.set_0 | refine IsS79.far ?_ NB274_290.out _) | exact HI274.out)) (by (with_reducible repeat (first | apply Kd.R_alloc | apply Kd.R_drewN | apply Kd.R_drew)); exact HO288.out) (by decide)) hk (fun _ h => h.2)) (fun _ h => h.1))
      have n4_ := Aside0.mk (KeepBut.blk hk (g' := gb290) (o := .cells #[.slice Ao13 t275.length co13, .int .i64 t278, .slice Ao16 t279.length co16, .int .i64 t282, .slice Ao17 t283.length co17] 26 (0, 0)) (by (with_reducible repeat (first | refine blk_drewN ?_ _ | refine blk_drew ?_ | refine blk_alloc ?_ _)); exact BK290.out) NB290_274.out (by simp))
      have n5_ := Aside0.mk (Kd.R_mono (Kd.R_keep (IsS79.apart (show IsS79 w _ g274 t292 from by repeat (first | (with_reducible first | exact HI274.out | apply IsS79.alloc | apply IsS79.drewN | apply IsS79.drew | apply IsS79.set_0 | refine IsS79.far ?_ NB274_290.out _) | exact HI274.out)) (by (with_reducible repeat (first | apply Kd.R_alloc | apply Kd.R_drewN | apply Kd.R_drew)); exact HO295.out) (by decide)) hk (fun _ h => h.2)) (fun _ h => h.1))
      have n6_ := Aside0.mk (hb)
      have n7_ := Aside0.mk (hi)
      clear HO277
      clear HO281
      clear HO285
      clear HO288
      clear BK290
      clear HO295
      clear HB
      clear HI274
      have HO277 := n0_
      have HO281 := n1_
      have HO285 := n2_
      have HO288 := n3_
      have BK290 := n4_
      have HO295 := n5_
      have HB := n6_
      have HI274 := n7_
      clear n0_ n1_ n2_ n3_ n4_ n5_ n6_ n7_
      (try clear hb)
      (try clear hb2)
      (try clear hk)
      (try clear hi)
      refine hK.out _ _ ⟨(blk_cell BK290.out 0).trans rfl, (blk_cell BK290.out 1).trans rfl, (blk_cell BK290.out 2).trans rfl, (blk_cell BK290.out 3).trans rfl, (blk_cell BK290.out 4).trans rfl⟩ (fun hHeld => ?_)
      clear hK K
      refine norm_ (a' := ?_) ?_ ?_
      rotate_left
      · show Act.put _ (some 33) _ = _
        simp only [Act.put, List.setIfInBounds_toArray, List.set_cons_zero, List.set_cons_succ, i64_w, i32_w]
        rfl
      refine pure_ (i := 7) (N := some 34) (v := ?_) (a' := ?_) #[true, true, true, true, true, true, true, true, false] rfl rfl (any_of HT_.out (by kernel_rfl)) (fun _ _ _ h => h) (Or.inl ⟨by rfl, ?_⟩) ?_ ?_
      rotate_left
      · intro w'
        go_simp
        with_reducible rfl
      rotate_left
      · simp only [Act.put, List.setIfInBounds_toArray, List.set_cons_zero, List.set_cons_succ, i64_w, i32_w]
        rfl
      refine last_ (i := 8) (N := none) #[true, true, true, true, true, true, true, true, true] rfl rfl (one_of HT_.out (by kernel_rfl)) (by decide) (fun K hK => ?_)
      have hs25 : w24.cell? ⟨gb290, 3, none⟩ = some (.int .i64 t282) := (blk_cell BK290.out 3).trans rfl
      have hfs25 := blk_frozen BK290.out 3
      refine skip_ (w1 := ?_) (by rfl) rfl ?_ ?_
      rotate_left
      · go_simp
        rfl
      refine hK.out _ _ ?_
      clear hK K
      refine done_ (done_of HT_.out (by kernel_rfl)) ?_
      have hcz26_0 : w24.cell? ⟨gb290, 0, none⟩ = some (.slice Ao13 t275.length co13) := (blk_cell BK290.out 0).trans rfl
      have hcz26_1 : w24.cell? ⟨gb290, 1, none⟩ = some (.int .i64 t278) := (blk_cell BK290.out 1).trans rfl
      have hcz26_2 : w24.cell? ⟨gb290, 2, none⟩ = some (.slice Ao16 t279.length co16) := (blk_cell BK290.out 2).trans rfl
      have hcz26_3 : w24.cell? ⟨gb290, 3, none⟩ = some (.int .i64 t282) := (blk_cell BK290.out 3).trans rfl
      have hcz26_4 : w24.cell? ⟨gb290, 4, none⟩ = some (.slice Ao17 t283.length co17) := (blk_cell BK290.out 4).trans rfl
      have hfz26_0 := blk_frozen BK290.out 0
      have hfz26_1 := blk_frozen BK290.out 1
      have hfz26_2 := blk_frozen BK290.out 2
      have hfz26_3 := blk_frozen BK290.out 3
      have hfz26_4 := blk_frozen BK290.out 4
      try go_wp2_with (first | ((with_reducible refine gate_callee (f := 26) rfl ?_); refine goesL_ (some 37) rfl rfl Try.func26 (by kernel_rfl) rfl #[.agg #[.slice Ao13 t275.length co13, .int .i64 t278, .slice Ao16 t279.length co16, .int .i64 t296, .slice Ao17 t283.length co17]] rfl (by (try simp only [List.map_toArray, List.map_cons, List.map_nil]); first | done | rfl | (simp only [List.length_drop, List.length_take]; rfl)) ?_; (with_reducible refine (strip_Out.calls _ _ t275 t278 _ _ t279 t296 _ _ t283 t298 t301 _ ?side1 ?side2 ?side3 ?side4 ?side5 ?side6 A6.out).mono ?_); (case side1 => refine (Kd.S_reads' (e := 50) (base := w.heap.size) (ok := fun k_ => (some k_ ≠ (.slice Ao17 t283.length co17 : Value).ownBlock ∧ some k_ ≠ (.slice Ao23 y293.length co23 : Value).ownBlock)) (n := t275.length) (c := co13) ?_).2.2; exact (by (with_reducible repeat (first | apply Kd.S_alloc | apply Kd.S_drewN | apply Kd.S_drew)); exact (Kd.S_mono (Kd.S_far (p := ⟨gb290, 3, none⟩) (Kd.S_types HO277.out BK290.out (by decide)) (fun _ hk => hk.2) (.int .i64 t296)) (fun _ h_ => h_.1)))); (case side2 => exact (Kd.S_reads' HO277.out).2.1); (case side3 => refine (Kd.R_reads' (e := 61) (base := w.heap.size) (ok := fun k_ => True) (n := t279.length) (c := co16) ?_).2.2; exact (by (with_reducible repeat (first | apply Kd.R_alloc | apply Kd.R_drewN | apply Kd.R_drew)); exact (Kd.R_mono (Kd.R_far (p := ⟨gb290, 3, none⟩) (Kd.R_types HO281.out BK290.out (by decide)) (fun _ hk => hk.2) (.int .i64 t296)) (fun _ h_ => h_.1)))); (case side4 => exact (Kd.R_reads' HO281.out).2.1); (case side5 => refine (Kd.R_reads' (e := 3) (base := w.heap.size) (ok := fun k_ => (True ∧ some k_ ≠ (.slice Ao23 y293.length co23 : Value).ownBlock)) (n := t283.length) (c := co17) ?_).2.2; exact (by (with_reducible repeat (first | apply Kd.R_alloc | apply Kd.R_drewN | apply Kd.R_drew)); exact (Kd.R_mono (Kd.R_far (p := ⟨gb290, 3, none⟩) (Kd.R_types HO285.out BK290.out (by decide)) (fun _ hk => hk.2) (.int .i64 t296)) (fun _ h_ => h_.1)))); (case side6 => exact (Kd.R_reads' HO285.out).2.1); rintro e w27 ⟨v299, rfl, ho0, hb⟩; refine ⟨_, rfl, ?_⟩; have n0_ := Aside0.mk (Kd.S_elder' (by (with_reducible repeat (first | apply Kd.S_alloc | apply Kd.S_drewN | apply Kd.S_drew)); exact (Kd.S_mono (Kd.S_far (p := ⟨gb290, 3, none⟩) (Kd.S_types HO277.out BK290.out (by decide)) (fun _ hk => hk.2) (.int .i64 t296)) (fun _ h_ => h_.1))) (Kd.R_base ho0) hb); have n1_ := Aside0.mk (Kd.R_below (by (with_reducible repeat (first | apply Kd.R_alloc | apply Kd.R_drewN | apply Kd.R_drew)); exact (Kd.R_mono (Kd.R_far (p := ⟨gb290, 3, none⟩) (Kd.R_types HO281.out BK290.out (by decide)) (fun _ hk => hk.2) (.int .i64 t296)) (fun _ h_ => h_.1))) hb); have n2_ := Aside0.mk (Kd.R_elder' (by (with_reducible repeat (first | apply Kd.R_alloc | apply Kd.R_drewN | apply Kd.R_drew)); exact (Kd.R_mono (Kd.R_far (p := ⟨gb290, 3, none⟩) (Kd.R_types HO285.out BK290.out (by decide)) (fun _ hk => hk.2) (.int .i64 t296)) (fun _ h_ => h_.1))) (Kd.R_base ho0) hb); have n3_ := Aside0.mk (Kd.R_below (by (with_reducible repeat (first | apply Kd.R_alloc | apply Kd.R_drewN | apply Kd.R_drew)); exact (Kd.R_mono (Kd.R_far (p := ⟨gb290, 3, none⟩) (Kd.R_types HO288.out BK290.out (by decide)) (fun _ hk => hk.2) (.int .i64 t296)) (fun _ h_ => h_.1))) hb); have n4_ := Aside0.mk (Kd.R_elder' (by (with_reducible repeat (first | apply Kd.R_alloc | apply Kd.R_drewN | apply Kd.R_drew)); exact (Kd.R_mono (Kd.R_far (p := ⟨gb290, 3, none⟩) (Kd.R_types HO295.out BK290.out (by decide)) (fun _ hk => hk.2) (.int .i64 t296)) (fun _ h_ => h_.1))) (Kd.R_base ho0) hb); have n5_ := Aside0.mk (Kd.R_lower (Kd.R_new' (Kd.R_new' ho0 (Kd.R_lt (by (with_reducible repeat (first | apply Kd.R_alloc | apply Kd.R_drewN | apply Kd.R_drew)); exact (Kd.R_mono (Kd.R_far (p := ⟨gb290, 3, none⟩) (Kd.R_types HO285.out BK290.out (by decide)) (fun _ hk => hk.2) (.int .i64 t296)) (fun _ h_ => h_.1))))) (Kd.R_lt (by (with_reducible repeat (first | apply Kd.R_alloc | apply Kd.R_drewN | apply Kd.R_drew)); exact (Kd.R_mono (Kd.R_far (p := ⟨gb290, 3, none⟩) (Kd.R_types HO295.out BK290.out (by decide)) (fun _ hk => hk.2) (.int .i64 t296)) (fun _ h_ => h_.1))))) (below_size (by repeat (first | (with_reducible first | exact HB.out | apply below_alloc | apply pw_below_drewN | apply below_drew1 | refine below_set ?_ (IsS79.ge HI274.out) | refine below_set ?_ GE290.out) | exact HB.out)))); have n6_ := Aside0.mk (IsS79.below (show IsS79 w (w24.setCell ⟨gb290, 3, none⟩ (.int .i64 t296)) g274 t297 from by repeat (first | (with_reducible first | exact HI274.out | apply IsS79.alloc | apply IsS79.drewN | apply IsS79.drew | apply IsS79.set_0 | refine IsS79.far ?_ NB274_290.out _) | exact HI274.out)) hb); have n7_ := Aside0.mk (blk_below (g := gb290) (o := .cells #[.slice Ao13 t275.length co13, .int .i64 t278, .slice Ao16 t279.length co16, .int .i64 t296, .slice Ao17 t283.length co17] 26 (0, 0)) (by (with_reducible repeat (first | refine blk_drewN ?_ _ | refine blk_drew ?_ | refine blk_alloc ?_ _)); refine blk_put (cs := #[.slice Ao13 t275.length co13, .int .i64 t278, .slice Ao16 t279.length co16, .int .i64 t282, .slice Ao17 t283.length co17]) ?_ 3 _ rfl; (with_reducible repeat (first | refine blk_drewN ?_ _ | refine blk_drew ?_ | refine blk_alloc ?_ _)); exact BK290.out) hb); have n8_ := Aside0.mk (below_step (by repeat (first | (with_reducible first | exact HB.out | apply below_alloc | apply pw_below_drewN | apply below_drew1 | refine below_set ?_ (IsS79.ge HI274.out) | refine below_set ?_ GE290.out) | exact HB.out)) hb); clear HO277; clear HO281; clear HO285; clear HO288; clear HO295; clear HI274; clear BK290; clear HB; have HO277 := n0_; have HO281 := n1_; have HO285 := n2_; have HO288 := n3_; have HO295 := n4_; have HO300 := n5_; have HI274 := n6_; have BK290 := n7_; have HB := n8_; clear n0_ n1_ n2_ n3_ n4_ n5_ n6_ n7_ n8_; (try clear hb); (try clear hb2); (try clear hk); (try clear hi); (try clear ho0); have hcz28_0 : w27.cell? ⟨gb290, 0, none⟩ = some (.slice Ao13 t275.length co13) := (blk_cell BK290.out 0).trans rfl; have hcz28_1 : w27.cell? ⟨gb290, 1, none⟩ = some (.int .i64 t278) := (blk_cell BK290.out 1).trans rfl; have hcz28_2 : w27.cell? ⟨gb290, 2, none⟩ = some (.slice Ao16 t279.length co16) := (blk_cell BK290.out 2).trans rfl; have hcz28_3 : w27.cell? ⟨gb290, 3, none⟩ = some (.int .i64 t296) := (blk_cell BK290.out 3).trans rfl; have hcz28_4 : w27.cell? ⟨gb290, 4, none⟩ = some (.slice Ao17 t283.length co17) := (blk_cell BK290.out 4).trans rfl; have hfz28_0 := blk_frozen BK290.out 0; have hfz28_1 := blk_frozen BK290.out 1; have hfz28_2 := blk_frozen BK290.out 2; have hfz28_3 := blk_frozen BK290.out 3; have hfz28_4 := blk_frozen BK290.out 4) | ((with_reducible refine gate_callee (f := 27) rfl ?_); refine goesL_ (some 42) rfl rfl Try.func27 (by kernel_rfl) rfl #[.agg #[.slice Ao13 t275.length co13, .int .i64 t278, .slice Ao16 t279.length co16, .int .i64 t296, .slice Ao17 t283.length co17]] rfl (by (try simp only [List.map_toArray, List.map_cons, List.map_nil]); first | done | rfl | (simp only [List.length_drop, List.length_take]; rfl)) ?_; (with_reducible refine (strip_Clean.calls _ _ t275 t278 _ _ t279 t296 _ _ t283 t302 t303 _ ?side1 ?side2 ?side3 ?side4 ?side5 ?side6 A7.out).mono ?_); (case side1 => repeat (first | exact (Kd.S_reads' HO277.out).2.2 | (with_reducible refine Kd.C_alloc ?_ _) | (with_reducible refine Kd.C_drewN ?_ _) | (with_reducible refine Kd.C_drew ?_))); (case side2 => exact (Kd.S_reads' HO277.out).2.1); (case side3 => repeat (first | exact (Kd.R_reads' HO281.out).2.2 | (with_reducible refine Kd.C_alloc ?_ _) | (with_reducible refine Kd.C_drewN ?_ _) | (with_reducible refine Kd.C_drew ?_))); (case side4 => exact (Kd.R_reads' HO281.out).2.1); (case side5 => repeat (first | exact (Kd.R_reads' HO285.out).2.2 | (with_reducible refine Kd.C_alloc ?_ _) | (with_reducible refine Kd.C_drewN ?_ _) | (with_reducible refine Kd.C_drew ?_))); (case side6 => exact (Kd.R_reads' HO285.out).2.1); rintro e w29 ⟨rfl, hb⟩; refine ⟨_, rfl, ?_⟩; have n0_ := Aside0.mk (Kd.S_below (by (with_reducible repeat (first | apply Kd.S_alloc | apply Kd.S_drewN | apply Kd.S_drew)); exact HO277.out) hb); have n1_ := Aside0.mk (Kd.R_below (by (with_reducible repeat (first | apply Kd.R_alloc | apply Kd.R_drewN | apply Kd.R_drew)); exact HO281.out) hb); have n2_ := Aside0.mk (Kd.R_below (by (with_reducible repeat (first | apply Kd.R_alloc | apply Kd.R_drewN | apply Kd.R_drew)); exact HO285.out) hb); have n3_ := Aside0.mk (Kd.R_below (by (with_reducible repeat (first | apply Kd.R_alloc | apply Kd.R_drewN | apply Kd.R_drew)); exact HO288.out) hb); have n4_ := Aside0.mk (Kd.R_below (by (with_reducible repeat (first | apply Kd.R_alloc | apply Kd.R_drewN | apply Kd.R_drew)); exact HO295.out) hb); have n5_ := Aside0.mk (Kd.R_below (by (with_reducible repeat (first | apply Kd.R_alloc | apply Kd.R_drewN | apply Kd.R_drew)); exact HO300.out) hb); have n6_ := Aside0.mk (IsS79.below (by repeat (first | (with_reducible first | exact HI274.out | apply IsS79.alloc | apply IsS79.drewN | apply IsS79.drew | apply IsS79.set_0 | refine IsS79.far ?_ NB274_290.out _) | exact HI274.out)) hb); have n7_ := Aside0.mk (blk_below (g := gb290) (o := .cells #[.slice Ao13 t275.length co13, .int .i64 t278, .slice Ao16 t279.length co16, .int .i64 t296, .slice Ao17 t283.length co17] 26 (0, 0)) (by (with_reducible repeat (first | refine blk_drewN ?_ _ | refine blk_drew ?_ | refine blk_alloc ?_ _)); exact BK290.out) hb); have n8_ := Aside0.mk (below_step (by repeat (first | (with_reducible first | exact HB.out | apply below_alloc | apply pw_below_drewN | apply below_drew1 | refine below_set ?_ (IsS79.ge HI274.out) | refine below_set ?_ GE290.out) | exact HB.out)) hb); clear HO277; clear HO281; clear HO285; clear HO288; clear HO295; clear HO300; clear HI274; clear BK290; clear HB; have HO277 := n0_; have HO281 := n1_; have HO285 := n2_; have HO288 := n3_; have HO295 := n4_; have HO300 := n5_; have HI274 := n6_; have BK290 := n7_; have HB := n8_; clear n0_ n1_ n2_ n3_ n4_ n5_ n6_ n7_ n8_; (try clear hb); (try clear hb2); (try clear hk); (try clear hi); have hcz30_0 : w29.cell? ⟨gb290, 0, none⟩ = some (.slice Ao13 t275.length co13) := (blk_cell BK290.out 0).trans rfl; have hcz30_1 : w29.cell? ⟨gb290, 1, none⟩ = some (.int .i64 t278) := (blk_cell BK290.out 1).trans rfl; have hcz30_2 : w29.cell? ⟨gb290, 2, none⟩ = some (.slice Ao16 t279.length co16) := (blk_cell BK290.out 2).trans rfl; have hcz30_3 : w29.cell? ⟨gb290, 3, none⟩ = some (.int .i64 t296) := (blk_cell BK290.out 3).trans rfl; have hcz30_4 : w29.cell? ⟨gb290, 4, none⟩ = some (.slice Ao17 t283.length co17) := (blk_cell BK290.out 4).trans rfl; have hfz30_0 := blk_frozen BK290.out 0; have hfz30_1 := blk_frozen BK290.out 1; have hfz30_2 := blk_frozen BK290.out 2; have hfz30_3 := blk_frozen BK290.out 3; have hfz30_4 := blk_frozen BK290.out 4) | ((with_reducible refine gate_dst (N := 48) rfl ?_); (try (refine gate_guard (by rfl) ?_; dsimp only)); refine Kd.R_make (Kd.int .i64) _ 3 rfl (N := 48) rfl 24 _ _ rfl (t275.length : Int) rfl rfl Try.underlying24 (.int .i64 0) 8 info3 rfl (by decide) (by omega) 0 (ok := fun _ => True) (okp := fun _ => True) rfl (fun _ hk => hk) trivial (of_decide_eq_true (by first | (with_reducible assumption) | assumption)) (Nat.le_trans (Nat.mul_le_mul_right _ (of_decide_eq_true (by first | (with_reducible assumption) | assumption) : (t275.length : Int).toNat ≤ 35184372088832)) (by omega)) (Below.refl _ _) (Nat.le_refl _) ?_; intro v305 w31 ho32 hb hg_ hnew_; clear hg_ hnew_; (first | rw [← Ny304.out] at ho32 | (simp only [Int.reduceToNat] at ho32; rw [← Ny304.out] at ho32)); have n0_ := Aside0.mk (Kd.S_elder' (by (with_reducible repeat (first | apply Kd.S_alloc | apply Kd.S_drewN | apply Kd.S_drew)); exact HO277.out) (Kd.R_base ho32) hb); have n1_ := Aside0.mk (Kd.R_below (by (with_reducible repeat (first | apply Kd.R_alloc | apply Kd.R_drewN | apply Kd.R_drew)); exact HO281.out) hb); have n2_ := Aside0.mk (Kd.R_elder' (by (with_reducible repeat (first | apply Kd.R_alloc | apply Kd.R_drewN | apply Kd.R_drew)); exact HO285.out) (Kd.R_base ho32) hb); have n3_ := Aside0.mk (Kd.R_below (by (with_reducible repeat (first | apply Kd.R_alloc | apply Kd.R_drewN | apply Kd.R_drew)); exact HO288.out) hb); have n4_ := Aside0.mk (Kd.R_elder' (by (with_reducible repeat (first | apply Kd.R_alloc | apply Kd.R_drewN | apply Kd.R_drew)); exact HO295.out) (Kd.R_base ho32) hb); have n5_ := Aside0.mk (Kd.R_elder' (by (with_reducible repeat (first | apply Kd.R_alloc | apply Kd.R_drewN | apply Kd.R_drew)); exact HO300.out) (Kd.R_base ho32) hb); have n6_ := Aside0.mk (Kd.R_lower (Kd.R_new' (Kd.R_new' (Kd.R_new' ho32 (Kd.R_lt (by (with_reducible repeat (first | apply Kd.R_alloc | apply Kd.R_drewN | apply Kd.R_drew)); exact HO285.out))) (Kd.R_lt (by (with_reducible repeat (first | apply Kd.R_alloc | apply Kd.R_drewN | apply Kd.R_drew)); exact HO295.out))) (Kd.R_lt (by (with_reducible repeat (first | apply Kd.R_alloc | apply Kd.R_drewN | apply Kd.R_drew)); exact HO300.out))) (below_size (by repeat (first | (with_reducible first | exact HB.out | apply below_alloc | apply pw_below_drewN | apply below_drew1 | refine below_set ?_ (IsS79.ge HI274.out) | refine below_set ?_ GE290.out) | exact HB.out)))); have n7_ := Aside0.mk (IsS79.below (by repeat (first | (with_reducible first | exact HI274.out | apply IsS79.alloc | apply IsS79.drewN | apply IsS79.drew | apply IsS79.set_0 | refine IsS79.far ?_ NB274_290.out _) | exact HI274.out)) hb); have n8_ := Aside0.mk (blk_below (g := gb290) (o := .cells #[.slice Ao13 t275.length co13, .int .i64 t278, .slice Ao16 t279.length co16, .int .i64 t296, .slice Ao17 t283.length co17] 26 (0, 0)) (by (with_reducible repeat (first | refine blk_drewN ?_ _ | refine blk_drew ?_ | refine blk_alloc ?_ _)); exact BK290.out) hb); have n9_ := Aside0.mk (below_step (by repeat (first | (with_reducible first | exact HB.out | apply below_alloc | apply pw_below_drewN | apply below_drew1 | refine below_set ?_ (IsS79.ge HI274.out) | refine below_set ?_ GE290.out) | exact HB.out)) hb); clear HO277; clear HO281; clear HO285; clear HO288; clear HO295; clear HO300; clear HI274; clear BK290; clear HB; have HO277 := n0_; have HO281 := n1_; have HO285 := n2_; have HO288 := n3_; have HO295 := n4_; have HO300 := n5_; have HO306 := n6_; have HI274 := n7_; have BK290 := n8_; have HB := n9_; clear n0_ n1_ n2_ n3_ n4_ n5_ n6_ n7_ n8_ n9_; clear hb ho32))
      go_loopg [11, 12, 13] k (fun kq v11 v12 v13 w' => ∃ (x10_1 : List Int) (x11_1 : Int) (x12_1 : Int) (x13_1 : Int), v11 = .int .i64 x11_1 ∧ v12 = .int .i64 x12_1 ∧ v13 = .int .i64 x13_1 ∧ Aside0 (swarflaw04_StripAll.l0 kq t298 t301 t302 t303 x10_1 x11_1 x12_1 x13_1 t275 t278 t279 t296 t283 = some r) ∧ Aside0 (kq ≤ k) ∧ Aside0 (Kd.R (Kd.int .i64) 3 w' w.heap.size (fun k_ => some k_ ≠ (v305 : Value).ownBlock ∧ some k_ ≠ ((.slice Ao17 t283.length co17) : Value).ownBlock) v299 t298) ∧ Aside0 (Kd.R (Kd.int .i64) 3 w' w.heap.size (fun k_ => some k_ ≠ (v299 : Value).ownBlock ∧ some k_ ≠ ((.slice Ao17 t283.length co17) : Value).ownBlock) v305 x10_1) ∧ Aside0 (Kd.S k50 50 w' w.heap.size (fun k_ => some k_ ≠ (v299 : Value).ownBlock ∧ some k_ ≠ (v305 : Value).ownBlock ∧ some k_ ≠ ((.slice Ao17 t283.length co17) : Value).ownBlock) (.slice Ao13 t275.length co13) t275) ∧ Aside0 (Kd.R k61 61 w' w.heap.size (fun _ => True) (.slice Ao16 t279.length co16) t279) ∧ Aside0 (Kd.R (Kd.int .i64) 3 w' w.heap.size (fun k_ => some k_ ≠ (v299 : Value).ownBlock ∧ some k_ ≠ (v305 : Value).ownBlock) (.slice Ao17 t283.length co17) t283) ∧ Aside0 (w'.heap[gb290]? = some (.cells #[(.slice Ao13 t275.length co13), .int .i64 t278, (.slice Ao16 t279.length co16), .int .i64 t296, (.slice Ao17 t283.length co17)] 26 (0, 0))) ∧ Aside0 (Below w.heap.size w w'))
      case atStart => exact ⟨(y304), (0), (0), (0), (by first | rfl | (simp; done) | (simp [*]; done)), (by first | rfl | (simp; done) | (simp [*]; done)), (by first | rfl | (simp; done) | (simp [*]; done)), H', ⟨Nat.le_refl _⟩, ⟨by (with_reducible repeat (first | apply Kd.R_alloc | apply Kd.R_drewN | apply Kd.R_drew)); exact Kd.R_mono HO300.out (fun _ hk => ⟨hk.2, hk.1.1.2⟩)⟩, ⟨by (with_reducible repeat (first | apply Kd.R_alloc | apply Kd.R_drewN | apply Kd.R_drew)); exact Kd.R_mono HO306.out (fun _ hk => ⟨hk.2, hk.1.1.2⟩)⟩, ⟨by (with_reducible repeat (first | apply Kd.S_alloc | apply Kd.S_drewN | apply Kd.S_drew)); exact Kd.S_mono HO277.out (fun _ hk => ⟨hk.1.2, ⟨hk.2, hk.1.1.1⟩⟩)⟩, ⟨by (with_reducible repeat (first | apply Kd.R_alloc | apply Kd.R_drewN | apply Kd.R_drew)); exact HO281.out⟩, ⟨by (with_reducible repeat (first | apply Kd.R_alloc | apply Kd.R_drewN | apply Kd.R_drew)); exact Kd.R_mono HO285.out (fun _ hk => ⟨hk.1.2, hk.2⟩)⟩, ⟨by (with_reducible repeat (first | refine blk_drewN ?_ _ | refine blk_drew ?_ | refine blk_alloc ?_ _)); exact BK290.out⟩, ⟨by repeat (first | (with_reducible first | exact HB.out | apply below_alloc | apply pw_below_drewN | apply below_drew1 | refine below_set ?_ (IsS79.ge HI274.out) | refine below_set ?_ GE290.out) | exact HB.out)⟩⟩
      case round =>
        clear H'
        try clear c1
        try clear c2
        try clear p2
        try clear c4
        try clear c8
        try clear c8b0
        try clear c8b1
        try clear c9
        try clear c9b0
        try clear c9b1
        try clear c14
        try clear c17
        try clear c18
        try clear c24
        try clear c25
        try clear c26
        try clear c27
        try clear hcz15_0
        try clear hcz15_1
        try clear hcz15_2
        try clear hcz15_3
        try clear hcz15_4
        try clear hcz26_0
        try clear hcz26_1
        try clear hcz26_2
        try clear hcz26_3
        try clear hcz26_4
        try clear hcz28_0
        try clear hcz28_1
        try clear hcz28_2
        try clear hcz28_3
        try clear hcz28_4
        try clear hcz30_0
        try clear hcz30_1
        try clear hcz30_2
        try clear hcz30_3
        try clear hcz30_4
        try clear hfz15_0
        try clear hfz15_1
        try clear hfz15_2
        try clear hfz15_3
        try clear hfz15_4
        try clear hfz26_0
        try clear hfz26_1
        try clear hfz26_2
        try clear hfz26_3
        try clear hfz26_4
        try clear hfz28_0
        try clear hfz28_1
        try clear hfz28_2
        try clear hfz28_3
        try clear hfz28_4
        try clear hfz30_0
        try clear hfz30_1
        try clear hfz30_2
        try clear hfz30_3
        try clear hfz30_4
        obtain ⟨x10_1, x11_1, x12_1, x13_1, rfl, rfl, rfl, HA, HK1, HO_6, HO_10, HO_291000, HO_291002, HO_291004, BK290, HB⟩ := hrel
        cases gk with
        | zero => exact absurd HA.out (by simp [swarflaw04_StripAll.l0])
        | succ k1 =>
          have H := HA.out
          clear HA
          simp only [swarflaw04_StripAll.l0] at H
          obtain ⟨ji33, hji33⟩ : ∃ j_ : Int, (shl .i64 1 (t275.length : Int)) = j_ := ⟨_, rfl⟩
          replace H : (if x13_1 < (ji33) then (if 0 ≤ (t275.length : Int) then (if ((t275.length : Int) : Int).toNat ≤ 281474976710656 then (swarflaw04_StripAll.l1 k1 t298 t301 t302 t303 x10_1 x11_1 x12_1 x13_1 (List.replicate ((t275.length : Int) : Int).toNat false) true 0 t275 t278 t279 t296 t283) else (none)) else (none)) else (if x12_1 = 0 then (if t301 = 9 then (if t303 = 9 then ((swarflaw04_awake.f k1).bind fun t321 => (some t321)) else (some false)) else (some false)) else (if t301 = 0 then (if t303 = 0 then (if (t298.length : Int) = (x10_1.length : Int) then ((swarflaw04_said.f x11_1 x12_1).bind fun t322 => (swarflaw04_StripAll.j5 k1 t298 x10_1 x12_1 (t302 != t322))) else (swarflaw04_StripAll.j5 k1 t298 x10_1 x12_1 true)) else (swarflaw04_StripAll.j5 k1 t298 x10_1 x12_1 true)) else (swarflaw04_StripAll.j5 k1 t298 x10_1 x12_1 true)))) = some r := by first | (rw [hji33] at H; exact H) | (simp only [hji33] at H ⊢; exact H)
          have hji33_ : (IntKind.i64.wrap (1 * 2 ^ min (t275.length : Int).toNat 64)) = ji33 := hji33
          have hji33z : (t275.length : Int) ≤ 64 → (IntKind.i64.wrap (1 * 2 ^ (t275.length : Int).toNat)) = ji33 := shl_small hji33
          have hji33p : (IntKind.i64.wrap (1 * 2 ^ min t275.length 64)) = ji33 := hji33_
          have hji33q : (t275.length : Int) ≤ 64 → (IntKind.i64.wrap (1 * 2 ^ t275.length)) = ji33 := hji33z
          have hji33r : (IntKind.i64.wrap (2 ^ min t275.length 64)) = ji33 := by have h_ := hji33p; rw [Int.one_mul] at h_; exact h_
          have hji33s : (t275.length : Int) ≤ 64 → (IntKind.i64.wrap (2 ^ t275.length)) = ji33 := fun hle_ => by have h_ := hji33q hle_; rw [Int.one_mul] at h_; exact h_
          have hji33u : (IntKind.i64.wrap (2 ^ min (t275.length : Int).toNat 64)) = ji33 := by have h_ := hji33_; rw [Int.one_mul] at h_; exact h_
          have hji33v : (t275.length : Int) ≤ 64 → (IntKind.i64.wrap (2 ^ (t275.length : Int).toNat)) = ji33 := fun hle_ => by have h_ := hji33z hle_; rw [Int.one_mul] at h_; exact h_
          have hji33y : (wrap64 (1 * 2 ^ min (t275.length : Int).toNat 64)) = ji33 := (i64_w _).symm.trans hji33_
          have hji33x : (t275.length : Int) ≤ 64 → (wrap64 (1 * 2 ^ (t275.length : Int).toNat)) = ji33 := fun h_ => (i64_w _).symm.trans (hji33z h_)
          by_cases c34 : x13_1 < (ji33)
          · rw [if_pos c34] at H
            have c34b0 : decide (x13_1 < (ji33)) = true := decide_eq_true c34
            clear c34
            by_cases c35 : 0 ≤ (t275.length : Int)
            · rw [if_pos c35] at H
              have c35b0 := eq_true c35
              have c35b1 : decide (0 ≤ (t275.length : Int)) = true := decide_eq_true c35
              clear c35
              by_cases c36 : ((t275.length : Int) : Int).toNat ≤ 281474976710656
              · rw [if_pos c36] at H
                have c36b0 := eq_true c36
                have c36b1 : decide (((t275.length : Int) : Int).toNat ≤ 281474976710656) = true := decide_eq_true c36
                clear c36
                obtain ⟨y307, hy307⟩ : ∃ y_ : List Bool, y_ = (List.replicate ((t275.length : Int) : Int).toNat false) := ⟨_, rfl⟩
                replace H : (swarflaw04_StripAll.l1 k1 t298 t301 t302 t303 x10_1 x11_1 x12_1 x13_1 y307 true 0 t275 t278 t279 t296 t283) = some r := by first | (rw [hy307]; with_reducible exact H) | (have H2_ := (Option.bind_some _ _).symm.trans H; rw [hy307]; with_reducible exact H2_) | (have H2_ := (Option.bind_some _ _).symm.trans H; with_reducible exact H2_) | with_reducible exact H | (rw [hy307]; exact H) | exact H
                have Ny307 := Aside0.mk hy307
                clear hy307
                have H' := Aside0.mk H
                clear H
                have hcz37_0 : wr.cell? ⟨gb290, 0, none⟩ = some (.slice Ao13 t275.length co13) := (blk_cell BK290.out 0).trans rfl
                have hcz37_1 : wr.cell? ⟨gb290, 1, none⟩ = some (.int .i64 t278) := (blk_cell BK290.out 1).trans rfl
                have hcz37_2 : wr.cell? ⟨gb290, 2, none⟩ = some (.slice Ao16 t279.length co16) := (blk_cell BK290.out 2).trans rfl
                have hcz37_3 : wr.cell? ⟨gb290, 3, none⟩ = some (.int .i64 t296) := (blk_cell BK290.out 3).trans rfl
                have hcz37_4 : wr.cell? ⟨gb290, 4, none⟩ = some (.slice Ao17 t283.length co17) := (blk_cell BK290.out 4).trans rfl
                have hfz37_0 := blk_frozen BK290.out 0
                have hfz37_1 := blk_frozen BK290.out 1
                have hfz37_2 := blk_frozen BK290.out 2
                have hfz37_3 := blk_frozen BK290.out 3
                have hfz37_4 := blk_frozen BK290.out 4
                go_wp2_with (first | ((with_reducible refine gate_dst (N := 60) rfl ?_); (try (refine gate_guard (by rfl) ?_; dsimp only)); refine Kd.R_make Kd.bool _ 4 rfl (N := 60) rfl 31 _ _ rfl (t275.length : Int) rfl rfl Try.underlying31 (.bool false) 1 info4 rfl (by decide) (by omega) false (ok := fun _ => True) (okp := fun _ => True) rfl (fun _ hk => hk) trivial (of_decide_eq_true (by first | (with_reducible assumption) | assumption)) (Nat.le_trans (Nat.mul_le_mul_right _ (of_decide_eq_true (by first | (with_reducible assumption) | assumption) : (t275.length : Int).toNat ≤ 281474976710656)) (by omega)) (Below.refl _ _) (Nat.le_refl _) ?_; intro v308 w38 ho39 hb hg_ hnew_; clear hg_ hnew_; (first | rw [← Ny307.out] at ho39 | (simp only [Int.reduceToNat] at ho39; rw [← Ny307.out] at ho39)); have n0_ := Aside0.mk (Kd.R_below (by (with_reducible repeat (first | apply Kd.R_alloc | apply Kd.R_drewN | apply Kd.R_drew)); exact HO_6.out) hb); have n1_ := Aside0.mk (Kd.R_below (by (with_reducible repeat (first | apply Kd.R_alloc | apply Kd.R_drewN | apply Kd.R_drew)); exact HO_10.out) hb); have n2_ := Aside0.mk (Kd.S_below (by (with_reducible repeat (first | apply Kd.S_alloc | apply Kd.S_drewN | apply Kd.S_drew)); exact HO_291000.out) hb); have n3_ := Aside0.mk (Kd.R_below (by (with_reducible repeat (first | apply Kd.R_alloc | apply Kd.R_drewN | apply Kd.R_drew)); exact HO_291002.out) hb); have n4_ := Aside0.mk (Kd.R_below (by (with_reducible repeat (first | apply Kd.R_alloc | apply Kd.R_drewN | apply Kd.R_drew)); exact HO_291004.out) hb); have n5_ := Aside0.mk (Kd.R_lower ho39 (below_size (by repeat (first | (with_reducible first | exact HB.out | apply below_alloc | apply pw_below_drewN | apply below_drew1 | refine below_set ?_ GE290.out) | exact HB.out)))); have n6_ := Aside0.mk (blk_below (g := gb290) (o := .cells #[.slice Ao13 t275.length co13, .int .i64 t278, .slice Ao16 t279.length co16, .int .i64 t296, .slice Ao17 t283.length co17] 26 (0, 0)) (by (with_reducible repeat (first | refine blk_drewN ?_ _ | refine blk_drew ?_ | refine blk_alloc ?_ _)); exact BK290.out) hb); have n7_ := Aside0.mk (below_step (by repeat (first | (with_reducible first | exact HB.out | apply below_alloc | apply pw_below_drewN | apply below_drew1 | refine below_set ?_ GE290.out) | exact HB.out)) hb); clear HO_6; clear HO_10; clear HO_291000; clear HO_291002; clear HO_291004; clear BK290; clear HB; have HO_6 := n0_; have HO_10 := n1_; have HO_291000 := n2_; have HO_291002 := n3_; have HO_291004 := n4_; have HO309 := n5_; have BK290 := n6_; have HB := n7_; clear n0_ n1_ n2_ n3_ n4_ n5_ n6_ n7_; clear hb ho39))
                go_loopg [15, 16] k1 (fun kq v15 v16 w' => ∃ (x14_2 : List Bool) (x15_2 : Bool) (x16_2 : Int), v15 = .bool x15_2 ∧ v16 = .int .i64 x16_2 ∧ Aside0 (swarflaw04_StripAll.l1 kq t298 t301 t302 t303 x10_1 x11_1 x12_1 x13_1 x14_2 x15_2 x16_2 t275 t278 t279 t296 t283 = some r) ∧ Aside0 (kq ≤ k1) ∧ Aside0 (Kd.R (Kd.int .i64) 3 w' w.heap.size (fun k_ => some k_ ≠ (v305 : Value).ownBlock ∧ some k_ ≠ ((.slice Ao17 t283.length co17) : Value).ownBlock) v299 t298) ∧ Aside0 (Kd.R (Kd.int .i64) 3 w' w.heap.size (fun k_ => some k_ ≠ (v299 : Value).ownBlock ∧ some k_ ≠ ((.slice Ao17 t283.length co17) : Value).ownBlock) v305 x10_1) ∧ Aside0 (Kd.R Kd.bool 4 w' w.heap.size (fun _ => True) v308 x14_2) ∧ Aside0 (Kd.S k50 50 w' w.heap.size (fun k_ => some k_ ≠ (v299 : Value).ownBlock ∧ some k_ ≠ (v305 : Value).ownBlock ∧ some k_ ≠ ((.slice Ao17 t283.length co17) : Value).ownBlock) (.slice Ao13 t275.length co13) t275) ∧ Aside0 (Kd.R k61 61 w' w.heap.size (fun _ => True) (.slice Ao16 t279.length co16) t279) ∧ Aside0 (Kd.R (Kd.int .i64) 3 w' w.heap.size (fun k_ => some k_ ≠ (v299 : Value).ownBlock ∧ some k_ ≠ (v305 : Value).ownBlock) (.slice Ao17 t283.length co17) t283) ∧ Aside0 (w'.heap[gb290]? = some (.cells #[(.slice Ao13 t275.length co13), .int .i64 t278, (.slice Ao16 t279.length co16), .int .i64 t296, (.slice Ao17 t283.length co17)] 26 (0, 0))) ∧ Aside0 (Below w.heap.size w w'))
                case atStart => exact ⟨(y307), (true), (0), (by first | rfl | (simp; done) | (simp [*]; done)), (by first | rfl | (simp; done) | (simp [*]; done)), H', ⟨Nat.le_refl _⟩, ⟨by (with_reducible repeat (first | apply Kd.R_alloc | apply Kd.R_drewN | apply Kd.R_drew)); exact HO_6.out⟩, ⟨by (with_reducible repeat (first | apply Kd.R_alloc | apply Kd.R_drewN | apply Kd.R_drew)); exact HO_10.out⟩, ⟨by (with_reducible repeat (first | apply Kd.R_alloc | apply Kd.R_drewN | apply Kd.R_drew)); exact HO309.out⟩, ⟨by (with_reducible repeat (first | apply Kd.S_alloc | apply Kd.S_drewN | apply Kd.S_drew)); exact HO_291000.out⟩, ⟨by (with_reducible repeat (first | apply Kd.R_alloc | apply Kd.R_drewN | apply Kd.R_drew)); exact HO_291002.out⟩, ⟨by (with_reducible repeat (first | apply Kd.R_alloc | apply Kd.R_drewN | apply Kd.R_drew)); exact HO_291004.out⟩, ⟨by (with_reducible repeat (first | refine blk_drewN ?_ _ | refine blk_drew ?_ | refine blk_alloc ?_ _)); exact BK290.out⟩, ⟨by repeat (first | (with_reducible first | exact HB.out | apply below_alloc | apply pw_below_drewN | apply below_drew1 | refine below_set ?_ GE290.out) | exact HB.out)⟩⟩
                case round =>
                  clear H'
                  try clear c1
                  try clear c2
                  try clear p2
                  try clear c3
                  try clear c4
                  try clear p6
                  try clear c8
                  try clear c8b0
                  try clear c8b1
                  try clear c9
                  try clear c9b0
                  try clear c9b1
                  try clear c14
                  try clear c17
                  try clear c18
                  try clear c24
                  try clear c25
                  try clear c26
                  try clear c27
                  try clear c34
                  try clear c34b0
                  try clear c35
                  try clear c35b0
                  try clear c35b1
                  try clear c36
                  try clear c36b0
                  try clear c36b1
                  try clear hcz15_0
                  try clear hcz15_1
                  try clear hcz15_2
                  try clear hcz15_3
                  try clear hcz15_4
                  try clear hcz26_0
                  try clear hcz26_1
                  try clear hcz26_2
                  try clear hcz26_3
                  try clear hcz26_4
                  try clear hcz28_0
                  try clear hcz28_1
                  try clear hcz28_2
                  try clear hcz28_3
                  try clear hcz28_4
                  try clear hcz30_0
                  try clear hcz30_1
                  try clear hcz30_2
                  try clear hcz30_3
                  try clear hcz30_4
                  try clear hcz37_0
                  try clear hcz37_1
                  try clear hcz37_2
                  try clear hcz37_3
                  try clear hcz37_4
                  try clear hfz15_0
                  try clear hfz15_1
                  try clear hfz15_2
                  try clear hfz15_3
                  try clear hfz15_4
                  try clear hfz26_0
                  try clear hfz26_1
                  try clear hfz26_2
                  try clear hfz26_3
                  try clear hfz26_4
                  try clear hfz28_0
                  try clear hfz28_1
                  try clear hfz28_2
                  try clear hfz28_3
                  try clear hfz28_4
                  try clear hfz30_0
                  try clear hfz30_1
                  try clear hfz30_2
                  try clear hfz30_3
                  try clear hfz30_4
                  try clear hfz37_0
                  try clear hfz37_1
                  try clear hfz37_2
                  try clear hfz37_3
                  try clear hfz37_4
                  try clear p2
                  obtain ⟨x14_2, x15_2, x16_2, rfl, rfl, HA, HK2, HO_6, HO_10, HO_14, HO_291000, HO_291002, HO_291004, BK290, HB⟩ := hrel
                  cases gk with
                  | zero => exact absurd HA.out (by simp [swarflaw04_StripAll.l1])
                  | succ k2 =>
                    have H := HA.out
                    clear HA
                    simp only [swarflaw04_StripAll.l1] at H
                    by_cases c40 : x16_2 < (x14_2.length : Int)
                    · rw [if_pos c40] at H
                      have c40b0 : decide (x16_2 < (x14_2.length : Int)) = true := decide_eq_true c40
                      clear c40
                      by_cases c41 : 0 ≤ x16_2
                      · rw [if_pos c41] at H
                        have c41b0 := eq_true c41
                        have c41b1 : decide (0 ≤ x16_2) = true := decide_eq_true c41
                        clear c41
                        obtain ⟨ji42, hji42⟩ : ∃ j_ : Int, (shr .i64 x13_1 x16_2) = j_ := ⟨_, rfl⟩
                        replace H : (swarflaw04_StripAll.l2 k2 t298 t301 t302 t303 x10_1 x11_1 x12_1 x13_1 (x14_2.set (x16_2 : Int).toNat ((Go.bits .and .i64 (ji42) 1) == 1)) x15_2 x16_2 0 t275 t278 t279 t296 t283) = some r := by first | (rw [hji42] at H; exact H) | (simp only [hji42] at H ⊢; exact H)
                        have hji42_ : (x13_1 / 2 ^ min x16_2.toNat 64) = ji42 := hji42
                        have hji42z : x16_2 ≤ 64 → (x13_1 / 2 ^ x16_2.toNat) = ji42 := shr_small hji42
                        obtain ⟨y310, hy310⟩ : ∃ y_ : List Bool, y_ = (x14_2.set (x16_2 : Int).toNat ((Go.bits .and .i64 (ji42) 1) == 1)) := ⟨_, rfl⟩
                        replace H : (swarflaw04_StripAll.l2 k2 t298 t301 t302 t303 x10_1 x11_1 x12_1 x13_1 y310 x15_2 x16_2 0 t275 t278 t279 t296 t283) = some r := by first | (rw [hy310]; with_reducible exact H) | (have H2_ := (Option.bind_some _ _).symm.trans H; rw [hy310]; with_reducible exact H2_) | (have H2_ := (Option.bind_some _ _).symm.trans H; with_reducible exact H2_) | with_reducible exact H | (rw [hy310]; exact H) | exact H
                        have Ny310 := Aside0.mk hy310
                        clear hy310
                        have H' := Aside0.mk H
                        clear H
                        obtain ⟨Ao44, co44, eo44⟩ := Kd.R_slice HO_14.out
                        subst eo44
                        have p43 : 0 ≤ (x16_2 : Int) := of_decide_eq_true (by first | (with_reducible assumption) | assumption)
                        have q43 : (x16_2 : Int) < ((x14_2.length : Int) : Int) := of_decide_eq_true (by first | (with_reducible assumption) | assumption)
                        obtain ⟨go43, co43, eo43, gb43, gl43, cl43, HG43⟩ := Kd.R_form HO_14.out (by omega)
                        (first | cases eo43 | (injection eo43 with ea_ en_ ec_; (first | subst ea_ | (injection ea_ with ea_; subst ea_)); subst ec_; clear en_))
                        have GB43 := Aside0.mk gb43
                        have GG43 := Aside0.mk HG43
                        clear gb43 gl43 HG43
                        obtain ⟨hx43_0, hf43_0⟩ := Kd.R_celln false HO_14.out (x16_2 : Int) p43 q43
                        replace p43 := eq_true p43
                        replace q43 := eq_true q43
                        have HP45 := Kd.R_putg HO_14.out (x16_2 : Int) ((Go.bits .and .i64 (ji42) 1) == 1)
                        go_wp2_with (first | ((with_reducible refine gate_store (t := 4) (p := 74) rfl ?_); refine store_event (t := 4) (p := 74) (v := ?vo_w46) (w1 := (wr.setCell ⟨go43, (x16_2 : Int).toNat, none⟩ (.bool ((Go.bits .and .i64 (ji42) 1) == 1)))) ?hg ?ho ?hn ?hr ?_; (case ho => rfl); (case hg => rfl); (case hn => rfl); (case hr => first | (go_simp; done) | (go_simp; rfl)); intro w46 hw; have hg : wr.grownBy w46 (some go43) := (by rw [hw]; exact HP45.2); have hp_ : Kd.R Kd.bool 4 w46 w.heap.size (fun _ => True) (.slice (some ⟨go43, 0, none⟩) x14_2.length co44) y310 := (by rw [hw, Ny310.out]; exact HP45.1); clear HP45; have n0_ := Aside0.mk (Kd.R_over' (v := (.slice (some ⟨go43, 0, none⟩) x14_2.length co44)) (by (with_reducible repeat (first | apply Kd.R_alloc | apply Kd.R_drewN | apply Kd.R_drew)); exact HO_6.out) (Kd.R_typed HO_14.out) (by decide) hg); have n1_ := Aside0.mk (Kd.R_over' (v := (.slice (some ⟨go43, 0, none⟩) x14_2.length co44)) (by (with_reducible repeat (first | apply Kd.R_alloc | apply Kd.R_drewN | apply Kd.R_drew)); exact HO_10.out) (Kd.R_typed HO_14.out) (by decide) hg); have n2_ := Aside0.mk (hp_); have n3_ := Aside0.mk (Kd.S_over' (v := (.slice (some ⟨go43, 0, none⟩) x14_2.length co44)) (by (with_reducible repeat (first | apply Kd.S_alloc | apply Kd.S_drewN | apply Kd.S_drew)); exact HO_291000.out) (Kd.R_typed HO_14.out) (by decide) hg); have n4_ := Aside0.mk (Kd.R_over' (v := (.slice (some ⟨go43, 0, none⟩) x14_2.length co44)) (by (with_reducible repeat (first | apply Kd.R_alloc | apply Kd.R_drewN | apply Kd.R_drew)); exact HO_291002.out) (Kd.R_typed HO_14.out) (by decide) hg); have n5_ := Aside0.mk (Kd.R_over' (v := (.slice (some ⟨go43, 0, none⟩) x14_2.length co44)) (by (with_reducible repeat (first | apply Kd.R_alloc | apply Kd.R_drewN | apply Kd.R_drew)); exact HO_291004.out) (Kd.R_typed HO_14.out) (by decide) hg); have n6_ := Aside0.mk (blk_grown (g := gb290) (o := .cells #[.slice Ao13 t275.length co13, .int .i64 t278, .slice Ao16 t279.length co16, .int .i64 t296, .slice Ao17 t283.length co17] 26 (0, 0)) (by (with_reducible repeat (first | refine blk_drewN ?_ _ | refine blk_drew ?_ | refine blk_alloc ?_ _)); exact BK290.out) hg (Kd.R_ne HO_14.out BK290.out (by decide))); have n7_ := Aside0.mk ((by rw [hw]; exact below_set (HB.out) GB43.out : Below w.heap.size w w46)); clear HO_6; clear HO_10; clear HO_14; clear HO_291000; clear HO_291002; clear HO_291004; clear BK290; clear HB; have HO_6 := n0_; have HO_10 := n1_; have HO_14 := n2_; have HO_291000 := n3_; have HO_291002 := n4_; have HO_291004 := n5_; have BK290 := n6_; have HB := n7_; clear n0_ n1_ n2_ n3_ n4_ n5_ n6_ n7_; clear hg hw hp_))
                        go_loopg [15, 17] k2 (fun kq v15 v17 w' => ∃ (x15_3 : Bool) (x17_3 : Int), v15 = .bool x15_3 ∧ v17 = .int .i64 x17_3 ∧ Aside0 (swarflaw04_StripAll.l2 kq t298 t301 t302 t303 x10_1 x11_1 x12_1 x13_1 y310 x15_3 x16_2 x17_3 t275 t278 t279 t296 t283 = some r) ∧ Aside0 (kq ≤ k2) ∧ Aside0 (Kd.R (Kd.int .i64) 3 w' w.heap.size (fun k_ => some k_ ≠ (v305 : Value).ownBlock ∧ some k_ ≠ ((.slice Ao17 t283.length co17) : Value).ownBlock) v299 t298) ∧ Aside0 (Kd.R (Kd.int .i64) 3 w' w.heap.size (fun k_ => some k_ ≠ (v299 : Value).ownBlock ∧ some k_ ≠ ((.slice Ao17 t283.length co17) : Value).ownBlock) v305 x10_1) ∧ Aside0 (Kd.R Kd.bool 4 w' w.heap.size (fun _ => True) (.slice (some ⟨go43, 0, none⟩) x14_2.length co44) y310) ∧ Aside0 (Kd.S k50 50 w' w.heap.size (fun k_ => some k_ ≠ (v299 : Value).ownBlock ∧ some k_ ≠ (v305 : Value).ownBlock ∧ some k_ ≠ ((.slice Ao17 t283.length co17) : Value).ownBlock) (.slice Ao13 t275.length co13) t275) ∧ Aside0 (Kd.R k61 61 w' w.heap.size (fun _ => True) (.slice Ao16 t279.length co16) t279) ∧ Aside0 (Kd.R (Kd.int .i64) 3 w' w.heap.size (fun k_ => some k_ ≠ (v299 : Value).ownBlock ∧ some k_ ≠ (v305 : Value).ownBlock) (.slice Ao17 t283.length co17) t283) ∧ Aside0 (w'.heap[gb290]? = some (.cells #[(.slice Ao13 t275.length co13), .int .i64 t278, (.slice Ao16 t279.length co16), .int .i64 t296, (.slice Ao17 t283.length co17)] 26 (0, 0))) ∧ Aside0 (Below w.heap.size w w'))
                        case atStart => exact ⟨(x15_2), (0), (by first | rfl | (simp; done) | (simp [*]; done)), (by first | rfl | (simp; done) | (simp [*]; done)), H', ⟨Nat.le_refl _⟩, ⟨by (with_reducible repeat (first | apply Kd.R_alloc | apply Kd.R_drewN | apply Kd.R_drew)); exact HO_6.out⟩, ⟨by (with_reducible repeat (first | apply Kd.R_alloc | apply Kd.R_drewN | apply Kd.R_drew)); exact HO_10.out⟩, ⟨by (with_reducible repeat (first | apply Kd.R_alloc | apply Kd.R_drewN | apply Kd.R_drew)); exact HO_14.out⟩, ⟨by (with_reducible repeat (first | apply Kd.S_alloc | apply Kd.S_drewN | apply Kd.S_drew)); exact HO_291000.out⟩, ⟨by (with_reducible repeat (first | apply Kd.R_alloc | apply Kd.R_drewN | apply Kd.R_drew)); exact HO_291002.out⟩, ⟨by (with_reducible repeat (first | apply Kd.R_alloc | apply Kd.R_drewN | apply Kd.R_drew)); exact HO_291004.out⟩, ⟨by (with_reducible repeat (first | refine blk_drewN ?_ _ | refine blk_drew ?_ | refine blk_alloc ?_ _)); exact BK290.out⟩, ⟨by repeat (first | (with_reducible first | exact HB.out | apply below_alloc | apply pw_below_drewN | apply below_drew1 | refine below_set ?_ GE290.out) | exact HB.out)⟩⟩
                        case round =>
                          clear H'
                          try clear c1
                          try clear c2
                          try clear p2
                          try clear c3
                          try clear c4
                          try clear p4
                          try clear q4
                          try clear hx4
                          try clear hf4
                          try clear p6
                          try clear c8
                          try clear c8b0
                          try clear c8b1
                          try clear c9
                          try clear c9b0
                          try clear c9b1
                          try clear c14
                          try clear c17
                          try clear c18
                          try clear c24
                          try clear c25
                          try clear c26
                          try clear c27
                          try clear c34
                          try clear c34b0
                          try clear c35
                          try clear c35b0
                          try clear c35b1
                          try clear c36
                          try clear c36b0
                          try clear c36b1
                          try clear c40
                          try clear c40b0
                          try clear c41
                          try clear c41b0
                          try clear c41b1
                          try clear p43
                          try clear q43
                          try clear hx43
                          try clear hf43
                          try clear hcz15_0
                          try clear hcz15_1
                          try clear hcz15_2
                          try clear hcz15_3
                          try clear hcz15_4
                          try clear hcz26_0
                          try clear hcz26_1
                          try clear hcz26_2
                          try clear hcz26_3
                          try clear hcz26_4
                          try clear hcz28_0
                          try clear hcz28_1
                          try clear hcz28_2
                          try clear hcz28_3
                          try clear hcz28_4
                          try clear hcz30_0
                          try clear hcz30_1
                          try clear hcz30_2
                          try clear hcz30_3
                          try clear hcz30_4
                          try clear hcz37_0
                          try clear hcz37_1
                          try clear hcz37_2
                          try clear hcz37_3
                          try clear hcz37_4
                          try clear hfz15_0
                          try clear hfz15_1
                          try clear hfz15_2
                          try clear hfz15_3
                          try clear hfz15_4
                          try clear hfz26_0
                          try clear hfz26_1
                          try clear hfz26_2
                          try clear hfz26_3
                          try clear hfz26_4
                          try clear hfz28_0
                          try clear hfz28_1
                          try clear hfz28_2
                          try clear hfz28_3
                          try clear hfz28_4
                          try clear hfz30_0
                          try clear hfz30_1
                          try clear hfz30_2
                          try clear hfz30_3
                          try clear hfz30_4
                          try clear hfz37_0
                          try clear hfz37_1
                          try clear hfz37_2
                          try clear hfz37_3
                          try clear hfz37_4
                          try clear hx43_0
                          try clear p2
                          try clear p43
                          try clear p6
                          try clear q43
                          obtain ⟨x15_3, x17_3, rfl, rfl, HA, HK3, HO_6, HO_10, HO_14, HO_291000, HO_291002, HO_291004, BK290, HB⟩ := hrel
                          have hl14_3 := (Kd.R_reads' HO_14.out).1
                          rw [hl14_3] at HO_14
                          (try simp only [hl14_3])
                          (try simp only [hl14_3] at BK290)
                          (try simp only [hl14_3] at HO_6)
                          (try simp only [hl14_3] at HO_10)
                          (try simp only [hl14_3] at HO_291000)
                          (try simp only [hl14_3] at HO_291002)
                          (try simp only [hl14_3] at HO_291004)
                          cases gk with
                          | zero => exact absurd HA.out (by simp [swarflaw04_StripAll.l2])
                          | succ k3 =>
                            have H := HA.out
                            clear HA
                            simp only [swarflaw04_StripAll.l2] at H
                            by_cases c47 : 0 ≤ x16_2
                            · rw [if_pos c47] at H
                              have c47b0 : decide (0 ≤ x16_2) = true := decide_eq_true c47
                              clear c47
                              by_cases c48 : x16_2 < (y310.length : Int)
                              · rw [if_pos c48] at H
                                have c48b0 : decide (x16_2 < (y310.length : Int)) = true := decide_eq_true c48
                                clear c48
                                obtain ⟨bq49, hbq49⟩ : ∃ b_ : Bool, b_ = (rdOf false y310 x16_2) := ⟨_, rfl⟩
                                replace H : (if bq49 = true then (if x16_2 < (t275.length : Int) then (if x17_3 < (((rd_T50 t275 x16_2).f0).length : Int) then (if x15_3 = true then (if 0 ≤ x17_3 then (if 0 ≤ (rd ((rd_T50 t275 x16_2).f0) x17_3) then (if (rd ((rd_T50 t275 x16_2).f0) x17_3) < (y310.length : Int) then (swarflaw04_StripAll.l2 k3 t298 t301 t302 t303 x10_1 x11_1 x12_1 x13_1 y310 (rdOf false y310 (rd ((rd_T50 t275 x16_2).f0) x17_3)) x16_2 (wrap64 (x17_3 + 1)) t275 t278 t279 t296 t283) else (none)) else (none)) else (none)) else (swarflaw04_StripAll.l2 k3 t298 t301 t302 t303 x10_1 x11_1 x12_1 x13_1 y310 false x16_2 (wrap64 (x17_3 + 1)) t275 t278 t279 t296 t283)) else (swarflaw04_StripAll.l1 k3 t298 t301 t302 t303 x10_1 x11_1 x12_1 x13_1 y310 x15_3 (wrap64 (x16_2 + 1)) t275 t278 t279 t296 t283)) else (none)) else (swarflaw04_StripAll.l1 k3 t298 t301 t302 t303 x10_1 x11_1 x12_1 x13_1 y310 x15_3 (wrap64 (x16_2 + 1)) t275 t278 t279 t296 t283)) = some r := by rw [← hbq49] at H; exact H
                                have Nbq49 := Aside0.mk hbq49
                                clear hbq49
                                by_cases c50 : bq49 = true
                                · subst c50
                                  have H1 : (if x16_2 < (t275.length : Int) then (if x17_3 < (((rd_T50 t275 x16_2).f0).length : Int) then (if x15_3 = true then (if 0 ≤ x17_3 then (if 0 ≤ (rd ((rd_T50 t275 x16_2).f0) x17_3) then (if (rd ((rd_T50 t275 x16_2).f0) x17_3) < (y310.length : Int) then (swarflaw04_StripAll.l2 k3 t298 t301 t302 t303 x10_1 x11_1 x12_1 x13_1 y310 (rdOf false y310 (rd ((rd_T50 t275 x16_2).f0) x17_3)) x16_2 (wrap64 (x17_3 + 1)) t275 t278 t279 t296 t283) else (none)) else (none)) else (none)) else (swarflaw04_StripAll.l2 k3 t298 t301 t302 t303 x10_1 x11_1 x12_1 x13_1 y310 false x16_2 (wrap64 (x17_3 + 1)) t275 t278 t279 t296 t283)) else (swarflaw04_StripAll.l1 k3 t298 t301 t302 t303 x10_1 x11_1 x12_1 x13_1 y310 x15_3 (wrap64 (x16_2 + 1)) t275 t278 t279 t296 t283)) else (none)) = some r := by rw [if_pos rfl] at H; exact H
                                  clear H
                                  have H := H1
                                  clear H1
                                  by_cases c51 : x16_2 < (t275.length : Int)
                                  · rw [if_pos c51] at H
                                    have c51b0 : decide (x16_2 < (t275.length : Int)) = true := decide_eq_true c51
                                    clear c51
                                    by_cases c52 : x17_3 < (((rd_T50 t275 x16_2).f0).length : Int)
                                    · rw [if_pos c52] at H
                                      have c52b0 : decide (x17_3 < (((rd_T50 t275 x16_2).f0).length : Int)) = true := decide_eq_true c52
                                      clear c52
                                      by_cases c53 : x15_3 = true
                                      · subst c53
                                        have H1 : (if 0 ≤ x17_3 then (if 0 ≤ (rd ((rd_T50 t275 x16_2).f0) x17_3) then (if (rd ((rd_T50 t275 x16_2).f0) x17_3) < (y310.length : Int) then (swarflaw04_StripAll.l2 k3 t298 t301 t302 t303 x10_1 x11_1 x12_1 x13_1 y310 (rdOf false y310 (rd ((rd_T50 t275 x16_2).f0) x17_3)) x16_2 (wrap64 (x17_3 + 1)) t275 t278 t279 t296 t283) else (none)) else (none)) else (none)) = some r := by rw [if_pos rfl] at H; exact H
                                        clear H
                                        have H := H1
                                        clear H1
                                        by_cases c54 : 0 ≤ x17_3
                                        · rw [if_pos c54] at H
                                          have c54b0 : decide (0 ≤ x17_3) = true := decide_eq_true c54
                                          clear c54
                                          by_cases c55 : 0 ≤ (rd ((rd_T50 t275 x16_2).f0) x17_3)
                                          · rw [if_pos c55] at H
                                            have c55b0 : decide (0 ≤ (rd ((rd_T50 t275 x16_2).f0) x17_3)) = true := decide_eq_true c55
                                            clear c55
                                            by_cases c56 : (rd ((rd_T50 t275 x16_2).f0) x17_3) < (y310.length : Int)
                                            · rw [if_pos c56] at H
                                              have c56b0 : decide ((rd ((rd_T50 t275 x16_2).f0) x17_3) < (y310.length : Int)) = true := decide_eq_true c56
                                              clear c56
                                              have H' := Aside0.mk H
                                              clear H
                                              have p311 : 0 ≤ (x16_2 : Int) := of_decide_eq_true (by first | (with_reducible assumption) | assumption)
                                              have q311 : x16_2 < (y310.length : Int) := of_decide_eq_true (by first | (with_reducible assumption) | assumption)
                                              obtain ⟨ad311, e311, hx311_0⟩ := Kd.at_bool (Kd.R_reads' HO_14.out).2.2 x16_2 p311 q311
                                              (try rw [← Nbq49.out] at hx311_0)
                                              obtain rfl : (⟨go43, 0, none⟩ : Addr) = ad311 := (by injection e311)
                                              (first | simp only [add_plain] at hx311_0 | simp only [add_at] at hx311_0 | simp only [Addr.add, Nat.zero_add] at hx311_0 | skip)
                                              replace p311 := eq_true p311
                                              replace q311 := eq_true q311
                                              have hcz57_0 : wr.cell? ⟨gb290, 0, none⟩ = some (.slice Ao13 t275.length co13) := (blk_cell BK290.out 0).trans rfl
                                              have hcz57_1 : wr.cell? ⟨gb290, 1, none⟩ = some (.int .i64 t278) := (blk_cell BK290.out 1).trans rfl
                                              have hcz57_2 : wr.cell? ⟨gb290, 2, none⟩ = some (.slice Ao16 t279.length co16) := (blk_cell BK290.out 2).trans rfl
                                              have hcz57_3 : wr.cell? ⟨gb290, 3, none⟩ = some (.int .i64 t296) := (blk_cell BK290.out 3).trans rfl
                                              have hcz57_4 : wr.cell? ⟨gb290, 4, none⟩ = some (.slice Ao17 t283.length co17) := (blk_cell BK290.out 4).trans rfl
                                              have hfz57_0 := blk_frozen BK290.out 0
                                              have hfz57_1 := blk_frozen BK290.out 1
                                              have hfz57_2 := blk_frozen BK290.out 2
                                              have hfz57_3 := blk_frozen BK290.out 3
                                              have hfz57_4 := blk_frozen BK290.out 4
                                              have p312 : 0 ≤ (x16_2 : Int) := of_decide_eq_true (by first | (with_reducible assumption) | assumption)
                                              have q312 : x16_2 < (t275.length : Int) := of_decide_eq_true (by first | (with_reducible assumption) | assumption)
                                              obtain ⟨ad312, A312_0, c312_0, e312, hx312_0, hx312_1, hx312_2, hx312_3, hl312_0, hi312_0⟩ := at_T50 (Kd.S_reads' HO_291000.out).2.2 x16_2 p312 q312
                                              (try rw [← Nbq49.out] at hx312_1)
                                              cases e312
                                              obtain ⟨ce312, hce312, hMe312, hcc312⟩ := Kd.S_get HO_291000.out z50 x16_2 p312 (by first | exact q312 | exact of_decide_eq_true (by first | (with_reducible assumption) | assumption) | (have e_ := (Kd.S_reads' HO_291000.out).1; omega))
                                              obtain ⟨ve312_0, rfl, ge312_0⟩ := k50_openM hMe312
                                              have hv312_0 := hcc312 0 _ rfl
                                              rw [Nat.add_zero] at hv312_0
                                              replace hv312_0 := Option.some.inj (hv312_0.symm.trans hx312_0)
                                              rw [hv312_0] at ge312_0
                                              have HL312_0 := Aside0.mk (show Kd.R (Kd.int .i64) 3 _ _ _ _ ((rd_T50 t275 x16_2).f0) from ge312_0)
                                              clear hv312_0 ge312_0
                                              clear hcc312 hce312
                                              have HR312_0 := Aside0.mk hi312_0
                                              have HC312_0 := Aside0.mk hl312_0
                                              clear hi312_0 hl312_0
                                              replace p312 := eq_true p312
                                              replace q312 := eq_true q312
                                              have p313 : 0 ≤ (x16_2 : Int) := of_decide_eq_true (by first | (with_reducible assumption) | assumption)
                                              have q313 : x16_2 < (t275.length : Int) := of_decide_eq_true (by first | (with_reducible assumption) | assumption)
                                              obtain ⟨ad313, A313_0, c313_0, e313, hx313_0, hx313_1, hx313_2, hx313_3, hl313_0, hi313_0⟩ := at_T50 (Kd.S_reads' HO_291000.out).2.2 x16_2 p313 q313
                                              (try rw [← Nbq49.out] at hx313_1)
                                              obtain rfl : ad312 = ad313 := (by injection e313)
                                              obtain ⟨ce313, hce313, hMe313, hcc313⟩ := Kd.S_get HO_291000.out z50 x16_2 p313 (by first | exact q313 | exact of_decide_eq_true (by first | (with_reducible assumption) | assumption) | (have e_ := (Kd.S_reads' HO_291000.out).1; omega))
                                              obtain ⟨ve313_0, rfl, ge313_0⟩ := k50_openM hMe313
                                              have hv313_0 := hcc313 0 _ rfl
                                              rw [Nat.add_zero] at hv313_0
                                              replace hv313_0 := Option.some.inj (hv313_0.symm.trans hx313_0)
                                              rw [hv313_0] at ge313_0
                                              have HL313_0 := Aside0.mk (show Kd.R (Kd.int .i64) 3 _ _ _ _ ((rd_T50 t275 x16_2).f0) from ge313_0)
                                              clear hv313_0 ge313_0
                                              clear hcc313 hce313
                                              have HR313_0 := Aside0.mk hi313_0
                                              have HC313_0 := Aside0.mk hl313_0
                                              clear hi313_0 hl313_0
                                              replace p313 := eq_true p313
                                              replace q313 := eq_true q313
                                              have ea_ := Option.some.inj (hx312_0.symm.trans hx313_0)
                                              injection ea_ with ea_ en_ ec_
                                              subst ea_
                                              subst ec_
                                              clear en_
                                              have p314 : 0 ≤ (x17_3 : Int) := of_decide_eq_true (by first | (with_reducible assumption) | assumption)
                                              have q314 : x17_3 < (((rd_T50 t275 x16_2).f0).length : Int) := of_decide_eq_true (by first | (with_reducible assumption) | assumption)
                                              obtain ⟨ad314, e314, hx314_0⟩ := Kd.at_int (by repeat (first | (with_reducible exact HR313_0.out) | (with_reducible refine Kd.C_alloc ?_ _) | (with_reducible refine Kd.C_drewN ?_ _) | (with_reducible refine Kd.C_drew ?_) | exact HR313_0.out)) x17_3 p314 q314
                                              cases e314
                                              replace p314 := eq_true p314
                                              replace q314 := eq_true q314
                                              have p315 : 0 ≤ ((rd ((rd_T50 t275 x16_2).f0) x17_3) : Int) := of_decide_eq_true (by first | (with_reducible assumption) | assumption)
                                              have q315 : (rd ((rd_T50 t275 x16_2).f0) x17_3) < (y310.length : Int) := of_decide_eq_true (by first | (with_reducible assumption) | assumption)
                                              obtain ⟨ad315, e315, hx315_0⟩ := Kd.at_bool (Kd.R_reads' HO_14.out).2.2 (rd ((rd_T50 t275 x16_2).f0) x17_3) p315 q315
                                              (try rw [← Nbq49.out] at hx315_0)
                                              obtain rfl : (⟨go43, 0, none⟩ : Addr) = ad315 := (by injection e315)
                                              (first | simp only [add_plain] at hx315_0 | simp only [add_at] at hx315_0 | simp only [Addr.add, Nat.zero_add] at hx315_0 | skip)
                                              replace p315 := eq_true p315
                                              replace q315 := eq_true q315
                                              go_wp2
                                              (try simp only [← hl14_3])
                                              go_roundg k3
                                              case measure => have := HK1.out; have := HK2.out; have := HK3.out; omega
                                              case rel => exact ⟨(rdOf false y310 (rd ((rd_T50 t275 x16_2).f0) x17_3)), (wrap64 (x17_3 + 1)), (by first | rfl | (simp; done) | (simp [*]; done)), (by first | rfl | (simp; done) | (simp [*]; done)), H', ⟨by have := HK1.out; have := HK2.out; have := HK3.out; omega⟩, ⟨by (try simp only [hl14_3]); (with_reducible repeat (first | apply Kd.R_alloc | apply Kd.R_drewN | apply Kd.R_drew)); exact HO_6.out⟩, ⟨by (try simp only [hl14_3]); (with_reducible repeat (first | apply Kd.R_alloc | apply Kd.R_drewN | apply Kd.R_drew)); exact HO_10.out⟩, ⟨by (try simp only [hl14_3]); (with_reducible repeat (first | apply Kd.R_alloc | apply Kd.R_drewN | apply Kd.R_drew)); exact HO_14.out⟩, ⟨by (try simp only [hl14_3]); (with_reducible repeat (first | apply Kd.S_alloc | apply Kd.S_drewN | apply Kd.S_drew)); exact HO_291000.out⟩, ⟨by (try simp only [hl14_3]); (with_reducible repeat (first | apply Kd.R_alloc | apply Kd.R_drewN | apply Kd.R_drew)); exact HO_291002.out⟩, ⟨by (try simp only [hl14_3]); (with_reducible repeat (first | apply Kd.R_alloc | apply Kd.R_drewN | apply Kd.R_drew)); exact HO_291004.out⟩, ⟨by (try simp only [hl14_3]); (with_reducible repeat (first | refine blk_drewN ?_ _ | refine blk_drew ?_ | refine blk_alloc ?_ _)); exact BK290.out⟩, ⟨by repeat (first | (with_reducible first | exact HB.out | apply below_alloc | apply pw_below_drewN | apply below_drew1 | refine below_set ?_ GE290.out) | exact HB.out)⟩⟩
                                            · rw [if_neg c56] at H
                                              exact absurd H (by simp)
                                          · rw [if_neg c55] at H
                                            exact absurd H (by simp)
                                        · rw [if_neg c54] at H
                                          exact absurd H (by simp)
                                      · replace c53 := Bool.eq_false_iff.mpr c53
                                        subst c53
                                        have H1 : (swarflaw04_StripAll.l2 k3 t298 t301 t302 t303 x10_1 x11_1 x12_1 x13_1 y310 false x16_2 (wrap64 (x17_3 + 1)) t275 t278 t279 t296 t283) = some r := by rw [if_neg (show ¬ (false = true) by decide)] at H; exact H
                                        clear H
                                        have H := H1
                                        clear H1
                                        have H' := Aside0.mk H
                                        clear H
                                        have p311 : 0 ≤ (x16_2 : Int) := of_decide_eq_true (by first | (with_reducible assumption) | assumption)
                                        have q311 : x16_2 < (y310.length : Int) := of_decide_eq_true (by first | (with_reducible assumption) | assumption)
                                        obtain ⟨ad311, e311, hx311_0⟩ := Kd.at_bool (Kd.R_reads' HO_14.out).2.2 x16_2 p311 q311
                                        (try rw [← Nbq49.out] at hx311_0)
                                        obtain rfl : (⟨go43, 0, none⟩ : Addr) = ad311 := (by injection e311)
                                        (first | simp only [add_plain] at hx311_0 | simp only [add_at] at hx311_0 | simp only [Addr.add, Nat.zero_add] at hx311_0 | skip)
                                        replace p311 := eq_true p311
                                        replace q311 := eq_true q311
                                        have hcz58_0 : wr.cell? ⟨gb290, 0, none⟩ = some (.slice Ao13 t275.length co13) := (blk_cell BK290.out 0).trans rfl
                                        have hcz58_1 : wr.cell? ⟨gb290, 1, none⟩ = some (.int .i64 t278) := (blk_cell BK290.out 1).trans rfl
                                        have hcz58_2 : wr.cell? ⟨gb290, 2, none⟩ = some (.slice Ao16 t279.length co16) := (blk_cell BK290.out 2).trans rfl
                                        have hcz58_3 : wr.cell? ⟨gb290, 3, none⟩ = some (.int .i64 t296) := (blk_cell BK290.out 3).trans rfl
                                        have hcz58_4 : wr.cell? ⟨gb290, 4, none⟩ = some (.slice Ao17 t283.length co17) := (blk_cell BK290.out 4).trans rfl
                                        have hfz58_0 := blk_frozen BK290.out 0
                                        have hfz58_1 := blk_frozen BK290.out 1
                                        have hfz58_2 := blk_frozen BK290.out 2
                                        have hfz58_3 := blk_frozen BK290.out 3
                                        have hfz58_4 := blk_frozen BK290.out 4
                                        have p312 : 0 ≤ (x16_2 : Int) := of_decide_eq_true (by first | (with_reducible assumption) | assumption)
                                        have q312 : x16_2 < (t275.length : Int) := of_decide_eq_true (by first | (with_reducible assumption) | assumption)
                                        obtain ⟨ad312, A312_0, c312_0, e312, hx312_0, hx312_1, hx312_2, hx312_3, hl312_0, hi312_0⟩ := at_T50 (Kd.S_reads' HO_291000.out).2.2 x16_2 p312 q312
                                        (try rw [← Nbq49.out] at hx312_1)
                                        cases e312
                                        obtain ⟨ce312, hce312, hMe312, hcc312⟩ := Kd.S_get HO_291000.out z50 x16_2 p312 (by first | exact q312 | exact of_decide_eq_true (by first | (with_reducible assumption) | assumption) | (have e_ := (Kd.S_reads' HO_291000.out).1; omega))
                                        obtain ⟨ve312_0, rfl, ge312_0⟩ := k50_openM hMe312
                                        have hv312_0 := hcc312 0 _ rfl
                                        rw [Nat.add_zero] at hv312_0
                                        replace hv312_0 := Option.some.inj (hv312_0.symm.trans hx312_0)
                                        rw [hv312_0] at ge312_0
                                        have HL312_0 := Aside0.mk (show Kd.R (Kd.int .i64) 3 _ _ _ _ ((rd_T50 t275 x16_2).f0) from ge312_0)
                                        clear hv312_0 ge312_0
                                        clear hcc312 hce312
                                        have HR312_0 := Aside0.mk hi312_0
                                        have HC312_0 := Aside0.mk hl312_0
                                        clear hi312_0 hl312_0
                                        replace p312 := eq_true p312
                                        replace q312 := eq_true q312
                                        go_wp2
                                        (try simp only [← hl14_3])
                                        go_roundg k3
                                        case measure => have := HK1.out; have := HK2.out; have := HK3.out; omega
                                        case rel => exact ⟨(false), (wrap64 (x17_3 + 1)), (by first | rfl | (simp; done) | (simp [*]; done)), (by first | rfl | (simp; done) | (simp [*]; done)), H', ⟨by have := HK1.out; have := HK2.out; have := HK3.out; omega⟩, ⟨by (try simp only [hl14_3]); (with_reducible repeat (first | apply Kd.R_alloc | apply Kd.R_drewN | apply Kd.R_drew)); exact HO_6.out⟩, ⟨by (try simp only [hl14_3]); (with_reducible repeat (first | apply Kd.R_alloc | apply Kd.R_drewN | apply Kd.R_drew)); exact HO_10.out⟩, ⟨by (try simp only [hl14_3]); (with_reducible repeat (first | apply Kd.R_alloc | apply Kd.R_drewN | apply Kd.R_drew)); exact HO_14.out⟩, ⟨by (try simp only [hl14_3]); (with_reducible repeat (first | apply Kd.S_alloc | apply Kd.S_drewN | apply Kd.S_drew)); exact HO_291000.out⟩, ⟨by (try simp only [hl14_3]); (with_reducible repeat (first | apply Kd.R_alloc | apply Kd.R_drewN | apply Kd.R_drew)); exact HO_291002.out⟩, ⟨by (try simp only [hl14_3]); (with_reducible repeat (first | apply Kd.R_alloc | apply Kd.R_drewN | apply Kd.R_drew)); exact HO_291004.out⟩, ⟨by (try simp only [hl14_3]); (with_reducible repeat (first | refine blk_drewN ?_ _ | refine blk_drew ?_ | refine blk_alloc ?_ _)); exact BK290.out⟩, ⟨by repeat (first | (with_reducible first | exact HB.out | apply below_alloc | apply pw_below_drewN | apply below_drew1 | refine below_set ?_ GE290.out) | exact HB.out)⟩⟩
                                    · rw [if_neg c52] at H
                                      have c52b0 : decide (x17_3 < (((rd_T50 t275 x16_2).f0).length : Int)) = false := decide_eq_false c52
                                      clear c52
                                      have H' := Aside0.mk H
                                      clear H
                                      have p311 : 0 ≤ (x16_2 : Int) := of_decide_eq_true (by first | (with_reducible assumption) | assumption)
                                      have q311 : x16_2 < (y310.length : Int) := of_decide_eq_true (by first | (with_reducible assumption) | assumption)
                                      obtain ⟨ad311, e311, hx311_0⟩ := Kd.at_bool (Kd.R_reads' HO_14.out).2.2 x16_2 p311 q311
                                      (try rw [← Nbq49.out] at hx311_0)
                                      obtain rfl : (⟨go43, 0, none⟩ : Addr) = ad311 := (by injection e311)
                                      (first | simp only [add_plain] at hx311_0 | simp only [add_at] at hx311_0 | simp only [Addr.add, Nat.zero_add] at hx311_0 | skip)
                                      replace p311 := eq_true p311
                                      replace q311 := eq_true q311
                                      have hcz59_0 : wr.cell? ⟨gb290, 0, none⟩ = some (.slice Ao13 t275.length co13) := (blk_cell BK290.out 0).trans rfl
                                      have hcz59_1 : wr.cell? ⟨gb290, 1, none⟩ = some (.int .i64 t278) := (blk_cell BK290.out 1).trans rfl
                                      have hcz59_2 : wr.cell? ⟨gb290, 2, none⟩ = some (.slice Ao16 t279.length co16) := (blk_cell BK290.out 2).trans rfl
                                      have hcz59_3 : wr.cell? ⟨gb290, 3, none⟩ = some (.int .i64 t296) := (blk_cell BK290.out 3).trans rfl
                                      have hcz59_4 : wr.cell? ⟨gb290, 4, none⟩ = some (.slice Ao17 t283.length co17) := (blk_cell BK290.out 4).trans rfl
                                      have hfz59_0 := blk_frozen BK290.out 0
                                      have hfz59_1 := blk_frozen BK290.out 1
                                      have hfz59_2 := blk_frozen BK290.out 2
                                      have hfz59_3 := blk_frozen BK290.out 3
                                      have hfz59_4 := blk_frozen BK290.out 4
                                      have p312 : 0 ≤ (x16_2 : Int) := of_decide_eq_true (by first | (with_reducible assumption) | assumption)
                                      have q312 : x16_2 < (t275.length : Int) := of_decide_eq_true (by first | (with_reducible assumption) | assumption)
                                      obtain ⟨ad312, A312_0, c312_0, e312, hx312_0, hx312_1, hx312_2, hx312_3, hl312_0, hi312_0⟩ := at_T50 (Kd.S_reads' HO_291000.out).2.2 x16_2 p312 q312
                                      (try rw [← Nbq49.out] at hx312_1)
                                      cases e312
                                      obtain ⟨ce312, hce312, hMe312, hcc312⟩ := Kd.S_get HO_291000.out z50 x16_2 p312 (by first | exact q312 | exact of_decide_eq_true (by first | (with_reducible assumption) | assumption) | (have e_ := (Kd.S_reads' HO_291000.out).1; omega))
                                      obtain ⟨ve312_0, rfl, ge312_0⟩ := k50_openM hMe312
                                      have hv312_0 := hcc312 0 _ rfl
                                      rw [Nat.add_zero] at hv312_0
                                      replace hv312_0 := Option.some.inj (hv312_0.symm.trans hx312_0)
                                      rw [hv312_0] at ge312_0
                                      have HL312_0 := Aside0.mk (show Kd.R (Kd.int .i64) 3 _ _ _ _ ((rd_T50 t275 x16_2).f0) from ge312_0)
                                      clear hv312_0 ge312_0
                                      clear hcc312 hce312
                                      have HR312_0 := Aside0.mk hi312_0
                                      have HC312_0 := Aside0.mk hl312_0
                                      clear hi312_0 hl312_0
                                      replace p312 := eq_true p312
                                      replace q312 := eq_true q312
                                      go_wp2
                                      (try simp only [← hl14_3])
                                      go_roundg k3
                                      case measure => have := HK1.out; have := HK2.out; have := HK3.out; omega
                                      case rel => exact ⟨(y310), (x15_3), (wrap64 (x16_2 + 1)), (by first | rfl | (simp; done) | (simp [*]; done)), (by first | rfl | (simp; done) | (simp [*]; done)), H', ⟨by have := HK1.out; have := HK2.out; have := HK3.out; omega⟩, ⟨by (try simp only [hl14_3]); (with_reducible repeat (first | apply Kd.R_alloc | apply Kd.R_drewN | apply Kd.R_drew)); exact HO_6.out⟩, ⟨by (try simp only [hl14_3]); (with_reducible repeat (first | apply Kd.R_alloc | apply Kd.R_drewN | apply Kd.R_drew)); exact HO_10.out⟩, ⟨by (try simp only [hl14_3]); (with_reducible repeat (first | apply Kd.R_alloc | apply Kd.R_drewN | apply Kd.R_drew)); exact HO_14.out⟩, ⟨by (try simp only [hl14_3]); (with_reducible repeat (first | apply Kd.S_alloc | apply Kd.S_drewN | apply Kd.S_drew)); exact HO_291000.out⟩, ⟨by (try simp only [hl14_3]); (with_reducible repeat (first | apply Kd.R_alloc | apply Kd.R_drewN | apply Kd.R_drew)); exact HO_291002.out⟩, ⟨by (try simp only [hl14_3]); (with_reducible repeat (first | apply Kd.R_alloc | apply Kd.R_drewN | apply Kd.R_drew)); exact HO_291004.out⟩, ⟨by (try simp only [hl14_3]); (with_reducible repeat (first | refine blk_drewN ?_ _ | refine blk_drew ?_ | refine blk_alloc ?_ _)); exact BK290.out⟩, ⟨by repeat (first | (with_reducible first | exact HB.out | apply below_alloc | apply pw_below_drewN | apply below_drew1 | refine below_set ?_ GE290.out) | exact HB.out)⟩⟩
                                  · rw [if_neg c51] at H
                                    exact absurd H (by simp)
                                · replace c50 := Bool.eq_false_iff.mpr c50
                                  subst c50
                                  have H1 : (swarflaw04_StripAll.l1 k3 t298 t301 t302 t303 x10_1 x11_1 x12_1 x13_1 y310 x15_3 (wrap64 (x16_2 + 1)) t275 t278 t279 t296 t283) = some r := by rw [if_neg (show ¬ (false = true) by decide)] at H; exact H
                                  clear H
                                  have H := H1
                                  clear H1
                                  have H' := Aside0.mk H
                                  clear H
                                  have p311 : 0 ≤ (x16_2 : Int) := of_decide_eq_true (by first | (with_reducible assumption) | assumption)
                                  have q311 : x16_2 < (y310.length : Int) := of_decide_eq_true (by first | (with_reducible assumption) | assumption)
                                  obtain ⟨ad311, e311, hx311_0⟩ := Kd.at_bool (Kd.R_reads' HO_14.out).2.2 x16_2 p311 q311
                                  (try rw [← Nbq49.out] at hx311_0)
                                  obtain rfl : (⟨go43, 0, none⟩ : Addr) = ad311 := (by injection e311)
                                  (first | simp only [add_plain] at hx311_0 | simp only [add_at] at hx311_0 | simp only [Addr.add, Nat.zero_add] at hx311_0 | skip)
                                  replace p311 := eq_true p311
                                  replace q311 := eq_true q311
                                  go_wp2
                                  (try simp only [← hl14_3])
                                  go_roundg k3
                                  case measure => have := HK1.out; have := HK2.out; have := HK3.out; omega
                                  case rel => exact ⟨(y310), (x15_3), (wrap64 (x16_2 + 1)), (by first | rfl | (simp; done) | (simp [*]; done)), (by first | rfl | (simp; done) | (simp [*]; done)), H', ⟨by have := HK1.out; have := HK2.out; have := HK3.out; omega⟩, ⟨by (try simp only [hl14_3]); (with_reducible repeat (first | apply Kd.R_alloc | apply Kd.R_drewN | apply Kd.R_drew)); exact HO_6.out⟩, ⟨by (try simp only [hl14_3]); (with_reducible repeat (first | apply Kd.R_alloc | apply Kd.R_drewN | apply Kd.R_drew)); exact HO_10.out⟩, ⟨by (try simp only [hl14_3]); (with_reducible repeat (first | apply Kd.R_alloc | apply Kd.R_drewN | apply Kd.R_drew)); exact HO_14.out⟩, ⟨by (try simp only [hl14_3]); (with_reducible repeat (first | apply Kd.S_alloc | apply Kd.S_drewN | apply Kd.S_drew)); exact HO_291000.out⟩, ⟨by (try simp only [hl14_3]); (with_reducible repeat (first | apply Kd.R_alloc | apply Kd.R_drewN | apply Kd.R_drew)); exact HO_291002.out⟩, ⟨by (try simp only [hl14_3]); (with_reducible repeat (first | apply Kd.R_alloc | apply Kd.R_drewN | apply Kd.R_drew)); exact HO_291004.out⟩, ⟨by (try simp only [hl14_3]); (with_reducible repeat (first | refine blk_drewN ?_ _ | refine blk_drew ?_ | refine blk_alloc ?_ _)); exact BK290.out⟩, ⟨by repeat (first | (with_reducible first | exact HB.out | apply below_alloc | apply pw_below_drewN | apply below_drew1 | refine below_set ?_ GE290.out) | exact HB.out)⟩⟩
                              · rw [if_neg c48] at H
                                exact absurd H (by simp)
                            · rw [if_neg c47] at H
                              exact absurd H (by simp)
                      · rw [if_neg c41] at H
                        exact absurd H (by simp)
                    · rw [if_neg c40] at H
                      have c40b0 : decide (x16_2 < (x14_2.length : Int)) = false := decide_eq_false c40
                      clear c40
                      have HC60 := Aside0.mk H
                      clear H
                      obtain ⟨Ao61, co61, eo61⟩ := Kd.R_slice HO_14.out
                      subst eo61
                      go_upto_region 19 with (fail)
                      go_cut [116] (fun v116 wc => ∃ (kq : Nat) (x116_59 : Bool), v116 = .bool x116_59 ∧ Aside0 (swarflaw04_StripAll.j3 kq t298 t301 t302 t303 x10_1 x11_1 x12_1 x13_1 x14_2 x116_59 t275 t278 t279 t296 t283 = some r) ∧ Aside0 (kq ≤ k2) ∧ Aside0 (Kd.R (Kd.int .i64) 3 wc w.heap.size (fun k_ => some k_ ≠ (v305 : Value).ownBlock ∧ some k_ ≠ ((.slice Ao17 t283.length co17) : Value).ownBlock) v299 t298) ∧ Aside0 (Kd.R (Kd.int .i64) 3 wc w.heap.size (fun k_ => some k_ ≠ (v299 : Value).ownBlock ∧ some k_ ≠ ((.slice Ao17 t283.length co17) : Value).ownBlock) v305 x10_1) ∧ Aside0 (Kd.R Kd.bool 4 wc w.heap.size (fun _ => True) (.slice Ao61 x14_2.length co61) x14_2) ∧ Aside0 (Kd.S k50 50 wc w.heap.size (fun k_ => some k_ ≠ (v299 : Value).ownBlock ∧ some k_ ≠ (v305 : Value).ownBlock ∧ some k_ ≠ ((.slice Ao17 t283.length co17) : Value).ownBlock) (.slice Ao13 t275.length co13) t275) ∧ Aside0 (Kd.R k61 61 wc w.heap.size (fun _ => True) (.slice Ao16 t279.length co16) t279) ∧ Aside0 (Kd.R (Kd.int .i64) 3 wc w.heap.size (fun k_ => some k_ ≠ (v299 : Value).ownBlock ∧ some k_ ≠ (v305 : Value).ownBlock) (.slice Ao17 t283.length co17) t283) ∧ Aside0 (wc.heap[gb290]? = some (.cells #[(.slice Ao13 t275.length co13), .int .i64 t278, (.slice Ao16 t279.length co16), .int .i64 t296, (.slice Ao17 t283.length co17)] 26 (0, 0))) ∧ Aside0 (Below w.heap.size w wc))
                      case first =>
                        have H := HC60.out
                        clear HC60
                        by_cases c62 : x15_2 = true
                        · subst c62
                          have H1 : ((swarfref04_Wrongs.f k2 t275 t278 t279 t296 t283 x14_2).bind fun t316 => (swarflaw04_StripAll.j3 k2 t298 t301 t302 t303 x10_1 x11_1 x12_1 x13_1 x14_2 (decide (t316 > t296)) t275 t278 t279 t296 t283)) = some r := by rw [if_pos rfl] at H; exact H
                          clear H
                          have H := H1
                          clear H1
                          replace H := Option.bind_eq_some_iff.mp H
                          obtain ⟨t316, A630, H⟩ := H
                          replace H : (swarflaw04_StripAll.j3 k2 t298 t301 t302 t303 x10_1 x11_1 x12_1 x13_1 x14_2 (decide (t316 > t296)) t275 t278 t279 t296 t283) = some r := H
                          have A63 := Aside0.mk A630
                          clear A630
                          have H' := Aside0.mk H
                          clear H
                          try go_wp2
                          have n0_ := Aside0.mk (Kd.R_drew HO_6.out)
                          have n1_ := Aside0.mk (Kd.R_drew HO_10.out)
                          have n2_ := Aside0.mk (Kd.R_drew HO_14.out)
                          have n3_ := Aside0.mk (Kd.S_drew HO_291000.out)
                          have n4_ := Aside0.mk (Kd.R_drew HO_291002.out)
                          have n5_ := Aside0.mk (Kd.R_drew HO_291004.out)
                          have n6_ := Aside0.mk (blk_drew BK290.out)
                          have n7_ := Aside0.mk (below_drew1 HB.out)
                          clear HO_6
                          clear HO_10
                          clear HO_14
                          clear HO_291000
                          clear HO_291002
                          clear HO_291004
                          clear BK290
                          clear HB
                          have HO_6 := n0_
                          have HO_10 := n1_
                          have HO_14 := n2_
                          have HO_291000 := n3_
                          have HO_291002 := n4_
                          have HO_291004 := n5_
                          have BK290 := n6_
                          have HB := n7_
                          clear n0_ n1_ n2_ n3_ n4_ n5_ n6_ n7_
                          refine start_ (n := 10) (S := fun w' => w'.cell? ⟨gb290, 0, none⟩ = some (.slice Ao13 t275.length co13) ∧ w'.cell? ⟨gb290, 1, none⟩ = some (.int .i64 t278) ∧ w'.cell? ⟨gb290, 2, none⟩ = some (.slice Ao16 t279.length co16) ∧ w'.cell? ⟨gb290, 3, none⟩ = some (.int .i64 t296) ∧ w'.cell? ⟨gb290, 4, none⟩ = some (.slice Ao17 t283.length co17)) (ds := []) #[false, false, false, false, false, false, false, false, false, false] (by kernel_rfl) rfl rfl ⟨(blk_cell BK290.out 0).trans rfl, (blk_cell BK290.out 1).trans rfl, (blk_cell BK290.out 2).trans rfl, (blk_cell BK290.out 3).trans rfl, (blk_cell BK290.out 4).trans rfl⟩ (fun hHeld => ?_); refine with_tabW swarflaw04_StripAll.tab19 swarflaw04_StripAll.bits19 (fun HT_ HW_ => ?_)
                          generalize wr.drew = w64 at HO_6 HO_10 HO_14 HO_291000 HO_291002 HO_291004 BK290 HB hHeld ⊢
                          refine pure_ (i := 0) (N := some 107) (v := ?_) (a' := ?_) #[true, false, false, false, false, false, false, false, false, false] rfl rfl (any_of HT_.out (by kernel_rfl)) (fun _ _ _ h => h) (Or.inl ⟨by rfl, ?_⟩) ?_ ?_
                          rotate_left
                          · intro w'
                            go_simp
                            with_reducible rfl
                          rotate_left
                          · simp only [Act.put, List.setIfInBounds_toArray, List.set_cons_zero, List.set_cons_succ, i64_w, i32_w]
                            rfl
                          refine pure_ (i := 1) (N := some 108) (v := ?_) (a' := ?_) #[true, true, false, false, false, false, false, false, false, false] rfl rfl (any_of HT_.out (by kernel_rfl)) (fun _ _ _ h => h) (Or.inl ⟨by rfl, ?_⟩) ?_ ?_
                          rotate_left
                          · intro w'
                            go_simp
                            with_reducible rfl
                          rotate_left
                          · simp only [Act.put, List.setIfInBounds_toArray, List.set_cons_zero, List.set_cons_succ, i64_w, i32_w]
                            rfl
                          refine pure_ (i := 2) (N := some 109) (v := ?_) (a' := ?_) #[true, true, true, false, false, false, false, false, false, false] rfl rfl (any_of HT_.out (by kernel_rfl)) (fun _ _ _ h => h) (Or.inl ⟨by rfl, ?_⟩) ?_ ?_
                          rotate_left
                          · intro w'
                            go_simp
                            with_reducible rfl
                          rotate_left
                          · simp only [Act.put, List.setIfInBounds_toArray, List.set_cons_zero, List.set_cons_succ, i64_w, i32_w]
                            rfl
                          refine pure_ (i := 4) (N := some 111) (v := ?_) (a' := ?_) #[true, true, true, false, true, false, false, false, false, false] rfl rfl (any_of HT_.out (by kernel_rfl)) (fun _ _ _ h => h) (Or.inl ⟨by rfl, ?_⟩) ?_ ?_
                          rotate_left
                          · intro w'
                            go_simp
                            with_reducible rfl
                          rotate_left
                          · simp only [Act.put, List.setIfInBounds_toArray, List.set_cons_zero, List.set_cons_succ, i64_w, i32_w]
                            rfl
                          refine pure_ (i := 6) (N := some 113) (v := ?_) (a' := ?_) #[true, true, true, false, true, false, true, false, false, false] rfl rfl (any_of HT_.out (by kernel_rfl)) (fun _ _ _ h => h) (Or.inl ⟨by rfl, ?_⟩) ?_ ?_
                          rotate_left
                          · intro w'
                            go_simp
                            with_reducible rfl
                          rotate_left
                          · simp only [Act.put, List.setIfInBounds_toArray, List.set_cons_zero, List.set_cons_succ, i64_w, i32_w]
                            rfl
                          refine take_ (i := 3) (N := some 110) (v := ?_) (a' := ?_) #[true, true, true, true, true, false, true, false, false, false] rfl rfl (take_ofW HT_.out HW_.out (by kernel_rfl)) (fun _ _ _ h => h) (Or.inl ⟨by rfl, ?_⟩) hHeld ?_ ?_
                          rotate_left
                          · rintro w' ⟨s0, s1, s2, s3, s4⟩
                            go_simp
                            with_reducible rfl
                          rotate_left
                          · simp only [Act.put, List.setIfInBounds_toArray, List.set_cons_zero, List.set_cons_succ, i64_w, i32_w]
                            rfl
                          refine take_ (i := 7) (N := some 114) (v := ?_) (a' := ?_) #[true, true, true, true, true, false, true, true, false, false] rfl rfl (take_ofW HT_.out HW_.out (by kernel_rfl)) (fun _ _ _ h => h) (Or.inl ⟨by rfl, ?_⟩) hHeld ?_ ?_
                          rotate_left
                          · rintro w' ⟨s0, s1, s2, s3, s4⟩
                            go_simp
                            with_reducible rfl
                          rotate_left
                          · simp only [Act.put, List.setIfInBounds_toArray, List.set_cons_zero, List.set_cons_succ, i64_w, i32_w]
                            rfl
                          refine one_ (i := 5) (N := some 112) #[true, true, true, true, true, true, true, true, false, false] rfl rfl (one_of HT_.out (by kernel_rfl)) (by decide) (fun K hK => ?_)
                          refine goes_ Try.func28 (by kernel_rfl) rfl #[.agg #[.slice Ao13 t275.length co13, .int .i64 t278, .slice Ao16 t279.length co16, .int .i64 t296, .slice Ao17 t283.length co17], .slice Ao61 x14_2.length co61] (by rfl) rfl rfl (by (try simp only [List.map_toArray, List.map_cons, List.map_nil]); first | done | rfl | (simp only [List.length_drop, List.length_take]; rfl)) ?_
                          with_reducible refine (swarfref04_Wrongs.calls k2 _ _ t275 t278 _ _ t279 t296 _ _ t283 _ _ x14_2 t316 _ ?side1 ?side2 ?side3 ?side4 ?side5 ?side6 ?side7 ?side8 A63.out).mono ?_
                          (case side1 => repeat (first | exact (Kd.S_reads' HO_291000.out).2.2 | (with_reducible refine Kd.C_alloc ?_ _) | (with_reducible refine Kd.C_drewN ?_ _) | (with_reducible refine Kd.C_drew ?_)))
                          (case side2 => exact (Kd.S_reads' HO_291000.out).2.1)
                          (case side3 => repeat (first | exact (Kd.R_reads' HO_291002.out).2.2 | (with_reducible refine Kd.C_alloc ?_ _) | (with_reducible refine Kd.C_drewN ?_ _) | (with_reducible refine Kd.C_drew ?_)))
                          (case side4 => exact (Kd.R_reads' HO_291002.out).2.1)
                          (case side5 => repeat (first | exact (Kd.R_reads' HO_291004.out).2.2 | (with_reducible refine Kd.C_alloc ?_ _) | (with_reducible refine Kd.C_drewN ?_ _) | (with_reducible refine Kd.C_drew ?_)))
                          (case side6 => exact (Kd.R_reads' HO_291004.out).2.1)
                          (case side7 => repeat (first | exact (Kd.R_reads' HO_14.out).2.2 | (with_reducible refine Kd.C_alloc ?_ _) | (with_reducible refine Kd.C_drewN ?_ _) | (with_reducible refine Kd.C_drew ?_)))
                          (case side8 => exact (Kd.R_reads' HO_14.out).2.1)
                          rintro e w65 ⟨rfl, hb⟩
                          refine ⟨_, rfl, ?_⟩
                          have n0_ := Aside0.mk (Kd.R_below (by (with_reducible repeat (first | apply Kd.R_alloc | apply Kd.R_drewN | apply Kd.R_drew)); exact HO_6.out) hb)
                          have n1_ := Aside0.mk (Kd.R_below (by (with_reducible repeat (first | apply Kd.R_alloc | apply Kd.R_drewN | apply Kd.R_drew)); exact HO_10.out) hb)
                          have n2_ := Aside0.mk (Kd.R_below (by (with_reducible repeat (first | apply Kd.R_alloc | apply Kd.R_drewN | apply Kd.R_drew)); exact HO_14.out) hb)
                          have n3_ := Aside0.mk (Kd.S_below (by (with_reducible repeat (first | apply Kd.S_alloc | apply Kd.S_drewN | apply Kd.S_drew)); exact HO_291000.out) hb)
                          have n4_ := Aside0.mk (Kd.R_below (by (with_reducible repeat (first | apply Kd.R_alloc | apply Kd.R_drewN | apply Kd.R_drew)); exact HO_291002.out) hb)
                          have n5_ := Aside0.mk (Kd.R_below (by (with_reducible repeat (first | apply Kd.R_alloc | apply Kd.R_drewN | apply Kd.R_drew)); exact HO_291004.out) hb)
                          have n6_ := Aside0.mk (blk_below (g := gb290) (o := .cells #[.slice Ao13 t275.length co13, .int .i64 t278, .slice Ao16 t279.length co16, .int .i64 t296, .slice Ao17 t283.length co17] 26 (0, 0)) (by (with_reducible repeat (first | refine blk_drewN ?_ _ | refine blk_drew ?_ | refine blk_alloc ?_ _)); exact BK290.out) hb)
                          have n7_ := Aside0.mk (below_step (by repeat (first | (with_reducible first | exact HB.out | apply below_alloc | apply pw_below_drewN | apply below_drew1 | refine below_set ?_ GE290.out) | exact HB.out)) hb)
                          clear HO_6
                          clear HO_10
                          clear HO_14
                          clear HO_291000
                          clear HO_291002
                          clear HO_291004
                          clear BK290
                          clear HB
                          have HO_6 := n0_
                          have HO_10 := n1_
                          have HO_14 := n2_
                          have HO_291000 := n3_
                          have HO_291002 := n4_
                          have HO_291004 := n5_
                          have BK290 := n6_
                          have HB := n7_
                          clear n0_ n1_ n2_ n3_ n4_ n5_ n6_ n7_
                          (try clear hb)
                          (try clear hb2)
                          (try clear hk)
                          (try clear hi)
                          refine hK.out _ _ ⟨(blk_cell BK290.out 0).trans rfl, (blk_cell BK290.out 1).trans rfl, (blk_cell BK290.out 2).trans rfl, (blk_cell BK290.out 3).trans rfl, (blk_cell BK290.out 4).trans rfl⟩ (fun hHeld => ?_)
                          clear hK K
                          refine norm_ (a' := ?_) ?_ ?_
                          rotate_left
                          · show Act.put _ (some 112) _ = _
                            simp only [Act.put, List.setIfInBounds_toArray, List.set_cons_zero, List.set_cons_succ, i64_w, i32_w]
                            rfl
                          refine pure_ (i := 8) (N := some 115) (v := ?_) (a' := ?_) #[true, true, true, true, true, true, true, true, true, false] rfl rfl (any_of HT_.out (by kernel_rfl)) (fun _ _ _ h => h) (Or.inl ⟨by rfl, ?_⟩) ?_ ?_
                          rotate_left
                          · intro w'
                            go_simp
                            with_reducible rfl
                          rotate_left
                          · simp only [Act.put, List.setIfInBounds_toArray, List.set_cons_zero, List.set_cons_succ, i64_w, i32_w]
                            rfl
                          refine pure_ (i := 9) (N := some 116) (v := ?_) (a' := ?_) #[true, true, true, true, true, true, true, true, true, true] rfl rfl (any_of HT_.out (by kernel_rfl)) (fun _ _ _ h => h) (Or.inl ⟨by rfl, ?_⟩) ?_ ?_
                          rotate_left
                          · intro w'
                            go_simp
                            with_reducible rfl
                          rotate_left
                          · simp only [Act.put, List.setIfInBounds_toArray, List.set_cons_zero, List.set_cons_succ, i64_w, i32_w]
                            rfl
                          refine done_ (done_of HT_.out (by kernel_rfl)) ?_
                          try go_wp2
                          go_meet
                          case rel => exact ⟨_, (decide (t316 > t296)), (by first | rfl | (simp; done) | (simp [*]; done)), H', ⟨by have := HK1.out; have := HK2.out; first | omega | exact Nat.le_refl _⟩, ⟨by (with_reducible repeat (first | apply Kd.R_alloc | apply Kd.R_drewN | apply Kd.R_drew)); exact HO_6.out⟩, ⟨by (with_reducible repeat (first | apply Kd.R_alloc | apply Kd.R_drewN | apply Kd.R_drew)); exact HO_10.out⟩, ⟨by (with_reducible repeat (first | apply Kd.R_alloc | apply Kd.R_drewN | apply Kd.R_drew)); exact HO_14.out⟩, ⟨by (with_reducible repeat (first | apply Kd.S_alloc | apply Kd.S_drewN | apply Kd.S_drew)); exact HO_291000.out⟩, ⟨by (with_reducible repeat (first | apply Kd.R_alloc | apply Kd.R_drewN | apply Kd.R_drew)); exact HO_291002.out⟩, ⟨by (with_reducible repeat (first | apply Kd.R_alloc | apply Kd.R_drewN | apply Kd.R_drew)); exact HO_291004.out⟩, ⟨by (with_reducible repeat (first | refine blk_drewN ?_ _ | refine blk_drew ?_ | refine blk_alloc ?_ _)); exact BK290.out⟩, ⟨by repeat (first | (with_reducible first | exact HB.out | apply below_alloc | apply pw_below_drewN | apply below_drew1 | refine below_set ?_ GE290.out) | exact HB.out)⟩⟩
                        · replace c62 := Bool.eq_false_iff.mpr c62
                          subst c62
                          have H1 : (swarflaw04_StripAll.j3 k2 t298 t301 t302 t303 x10_1 x11_1 x12_1 x13_1 x14_2 true t275 t278 t279 t296 t283) = some r := by rw [if_neg (show ¬ (false = true) by decide)] at H; exact H
                          clear H
                          have H := H1
                          clear H1
                          have H' := Aside0.mk H
                          clear H
                          try go_wp2
                          have n0_ := Aside0.mk (Kd.R_drew HO_6.out)
                          have n1_ := Aside0.mk (Kd.R_drew HO_10.out)
                          have n2_ := Aside0.mk (Kd.R_drew HO_14.out)
                          have n3_ := Aside0.mk (Kd.S_drew HO_291000.out)
                          have n4_ := Aside0.mk (Kd.R_drew HO_291002.out)
                          have n5_ := Aside0.mk (Kd.R_drew HO_291004.out)
                          have n6_ := Aside0.mk (blk_drew BK290.out)
                          have n7_ := Aside0.mk (below_drew1 HB.out)
                          clear HO_6
                          clear HO_10
                          clear HO_14
                          clear HO_291000
                          clear HO_291002
                          clear HO_291004
                          clear BK290
                          clear HB
                          have HO_6 := n0_
                          have HO_10 := n1_
                          have HO_14 := n2_
                          have HO_291000 := n3_
                          have HO_291002 := n4_
                          have HO_291004 := n5_
                          have BK290 := n6_
                          have HB := n7_
                          clear n0_ n1_ n2_ n3_ n4_ n5_ n6_ n7_
                          refine start_ (n := 10) (S := fun w' => True) (ds := []) #[false, false, false, false, false, false, false, false, false, false] (by kernel_rfl) rfl rfl trivial (fun hHeld => ?_); refine with_tabW swarflaw04_StripAll.tab19 swarflaw04_StripAll.bits19 (fun HT_ HW_ => ?_)
                          generalize wr.drew = w66 at HO_6 HO_10 HO_14 HO_291000 HO_291002 HO_291004 BK290 HB hHeld ⊢
                          refine pure_ (i := 0) (N := some 107) (v := ?_) (a' := ?_) #[true, false, false, false, false, false, false, false, false, false] rfl rfl (any_of HT_.out (by kernel_rfl)) (fun _ _ _ h => h) (Or.inl ⟨by rfl, ?_⟩) ?_ ?_
                          rotate_left
                          · intro w'
                            go_simp
                            with_reducible rfl
                          rotate_left
                          · simp only [Act.put, List.setIfInBounds_toArray, List.set_cons_zero, List.set_cons_succ, i64_w, i32_w]
                            rfl
                          refine pure_ (i := 1) (N := some 108) (v := ?_) (a' := ?_) #[true, true, false, false, false, false, false, false, false, false] rfl rfl (any_of HT_.out (by kernel_rfl)) (fun _ _ _ h => h) (Or.inl ⟨by rfl, ?_⟩) ?_ ?_
                          rotate_left
                          · intro w'
                            go_simp
                            with_reducible rfl
                          rotate_left
                          · simp only [Act.put, List.setIfInBounds_toArray, List.set_cons_zero, List.set_cons_succ, i64_w, i32_w]
                            rfl
                          refine pure_ (i := 2) (N := some 109) (v := ?_) (a' := ?_) #[true, true, true, false, false, false, false, false, false, false] rfl rfl (any_of HT_.out (by kernel_rfl)) (fun _ _ _ h => h) (Or.inl ⟨by rfl, ?_⟩) ?_ ?_
                          rotate_left
                          · intro w'
                            go_simp
                            with_reducible rfl
                          rotate_left
                          · simp only [Act.put, List.setIfInBounds_toArray, List.set_cons_zero, List.set_cons_succ, i64_w, i32_w]
                            rfl
                          refine pure_ (i := 3) (N := some 110) (v := undef) (a' := ?_) #[true, true, true, true, false, false, false, false, false, false] rfl rfl (any_of HT_.out (by kernel_rfl)) (fun _ _ _ h => h) (Or.inr ⟨by rfl, rfl⟩) ?_ ?_
                          rotate_left
                          · simp only [Act.put, List.setIfInBounds_toArray, List.set_cons_zero, List.set_cons_succ, i64_w, i32_w]
                            rfl
                          refine pure_ (i := 4) (N := some 111) (v := undef) (a' := ?_) #[true, true, true, true, true, false, false, false, false, false] rfl rfl (any_of HT_.out (by kernel_rfl)) (fun _ _ _ h => h) (Or.inr ⟨by rfl, rfl⟩) ?_ ?_
                          rotate_left
                          · simp only [Act.put, List.setIfInBounds_toArray, List.set_cons_zero, List.set_cons_succ, i64_w, i32_w]
                            rfl
                          refine pure_ (i := 5) (N := some 112) (v := undef) (a' := ?_) #[true, true, true, true, true, true, false, false, false, false] rfl rfl (any_of HT_.out (by kernel_rfl)) (fun _ _ _ h => h) (Or.inr ⟨by rfl, rfl⟩) ?_ ?_
                          rotate_left
                          · simp only [Act.put, List.setIfInBounds_toArray, List.set_cons_zero, List.set_cons_succ, i64_w, i32_w]
                            rfl
                          refine pure_ (i := 6) (N := some 113) (v := undef) (a' := ?_) #[true, true, true, true, true, true, true, false, false, false] rfl rfl (any_of HT_.out (by kernel_rfl)) (fun _ _ _ h => h) (Or.inr ⟨by rfl, rfl⟩) ?_ ?_
                          rotate_left
                          · simp only [Act.put, List.setIfInBounds_toArray, List.set_cons_zero, List.set_cons_succ, i64_w, i32_w]
                            rfl
                          refine pure_ (i := 7) (N := some 114) (v := undef) (a' := ?_) #[true, true, true, true, true, true, true, true, false, false] rfl rfl (any_of HT_.out (by kernel_rfl)) (fun _ _ _ h => h) (Or.inr ⟨by rfl, rfl⟩) ?_ ?_
                          rotate_left
                          · simp only [Act.put, List.setIfInBounds_toArray, List.set_cons_zero, List.set_cons_succ, i64_w, i32_w]
                            rfl
                          refine pure_ (i := 8) (N := some 115) (v := undef) (a' := ?_) #[true, true, true, true, true, true, true, true, true, false] rfl rfl (any_of HT_.out (by kernel_rfl)) (fun _ _ _ h => h) (Or.inr ⟨by rfl, rfl⟩) ?_ ?_
                          rotate_left
                          · simp only [Act.put, List.setIfInBounds_toArray, List.set_cons_zero, List.set_cons_succ, i64_w, i32_w]
                            rfl
                          refine pure_ (i := 9) (N := some 116) (v := ?_) (a' := ?_) #[true, true, true, true, true, true, true, true, true, true] rfl rfl (any_of HT_.out (by kernel_rfl)) (fun _ _ _ h => h) (Or.inl ⟨by rfl, ?_⟩) ?_ ?_
                          rotate_left
                          · intro w'
                            go_simp
                            with_reducible rfl
                          rotate_left
                          · simp only [Act.put, List.setIfInBounds_toArray, List.set_cons_zero, List.set_cons_succ, i64_w, i32_w]
                            rfl
                          refine done_ (done_of HT_.out (by kernel_rfl)) ?_
                          try go_wp2
                          go_meet
                          case rel => exact ⟨_, (true), (by first | rfl | (simp; done) | (simp [*]; done)), H', ⟨by have := HK1.out; have := HK2.out; first | omega | exact Nat.le_refl _⟩, ⟨by (with_reducible repeat (first | apply Kd.R_alloc | apply Kd.R_drewN | apply Kd.R_drew)); exact HO_6.out⟩, ⟨by (with_reducible repeat (first | apply Kd.R_alloc | apply Kd.R_drewN | apply Kd.R_drew)); exact HO_10.out⟩, ⟨by (with_reducible repeat (first | apply Kd.R_alloc | apply Kd.R_drewN | apply Kd.R_drew)); exact HO_14.out⟩, ⟨by (with_reducible repeat (first | apply Kd.S_alloc | apply Kd.S_drewN | apply Kd.S_drew)); exact HO_291000.out⟩, ⟨by (with_reducible repeat (first | apply Kd.R_alloc | apply Kd.R_drewN | apply Kd.R_drew)); exact HO_291002.out⟩, ⟨by (with_reducible repeat (first | apply Kd.R_alloc | apply Kd.R_drewN | apply Kd.R_drew)); exact HO_291004.out⟩, ⟨by (with_reducible repeat (first | refine blk_drewN ?_ _ | refine blk_drew ?_ | refine blk_alloc ?_ _)); exact BK290.out⟩, ⟨by repeat (first | (with_reducible first | exact HB.out | apply below_alloc | apply pw_below_drewN | apply below_drew1 | refine below_set ?_ GE290.out) | exact HB.out)⟩⟩
                      case rest =>
                        clear HC60
                        try clear c2
                        try clear p2
                        try clear c3
                        try clear p3
                        try clear q3
                        try clear hx3
                        try clear c4
                        try clear p4
                        try clear q4
                        try clear hx4
                        try clear c5
                        try clear c6
                        try clear p6
                        try clear c28
                        try clear c31
                        try clear p31
                        try clear q31
                        try clear hx31
                        try clear c40
                        try clear c40b0
                        try clear c41
                        try clear p43
                        try clear q43
                        try clear hx43
                        try clear c47
                        try clear c47b0
                        try clear c48
                        try clear c48b0
                        try clear q49
                        try clear c50
                        try clear c51
                        try clear c51b0
                        try clear c52
                        try clear c52b0
                        try clear c53
                        try clear c54
                        try clear c54b0
                        try clear c55
                        try clear c55b0
                        try clear c56
                        try clear c56b0
                        try clear c62
                        try clear p64
                        try clear hcz26_0
                        try clear hcz26_1
                        try clear hcz26_2
                        try clear hcz26_3
                        try clear hcz26_4
                        try clear hcz28_0
                        try clear hcz28_1
                        try clear hcz28_2
                        try clear hcz28_3
                        try clear hcz28_4
                        try clear hcz30_0
                        try clear hcz30_1
                        try clear hcz30_2
                        try clear hcz30_3
                        try clear hcz30_4
                        try clear hcz37_0
                        try clear hcz37_1
                        try clear hcz37_2
                        try clear hcz37_3
                        try clear hcz37_4
                        try clear hcz57_0
                        try clear hcz57_1
                        try clear hcz57_2
                        try clear hcz57_3
                        try clear hcz57_4
                        try clear hcz58_0
                        try clear hcz58_1
                        try clear hcz58_2
                        try clear hcz58_3
                        try clear hcz58_4
                        try clear hcz59_0
                        try clear hcz59_1
                        try clear hcz59_2
                        try clear hcz59_3
                        try clear hcz59_4
                        try clear hfz15_0
                        try clear hfz15_1
                        try clear hfz15_2
                        try clear hfz15_3
                        try clear hfz15_4
                        try clear hfz26_0
                        try clear hfz26_1
                        try clear hfz26_2
                        try clear hfz26_3
                        try clear hfz26_4
                        try clear hfz28_0
                        try clear hfz28_1
                        try clear hfz28_2
                        try clear hfz28_3
                        try clear hfz28_4
                        try clear hfz30_0
                        try clear hfz30_1
                        try clear hfz30_2
                        try clear hfz30_3
                        try clear hfz30_4
                        try clear hfz37_0
                        try clear hfz37_1
                        try clear hfz37_2
                        try clear hfz37_3
                        try clear hfz37_4
                        try clear hfz57_0
                        try clear hfz57_1
                        try clear hfz57_2
                        try clear hfz57_3
                        try clear hfz57_4
                        try clear hfz58_0
                        try clear hfz58_1
                        try clear hfz58_2
                        try clear hfz58_3
                        try clear hfz58_4
                        try clear hfz59_0
                        try clear hfz59_1
                        try clear hfz59_2
                        try clear hfz59_3
                        try clear hfz59_4
                        try clear hx311_0
                        try clear hx312_0
                        try clear hx312_1
                        try clear hx312_2
                        try clear hx312_3
                        try clear hx313_0
                        try clear hx313_1
                        try clear hx313_2
                        try clear hx313_3
                        try clear hx314_0
                        try clear hx315_0
                        try clear hx43_0
                        try clear p2
                        try clear p311
                        try clear p312
                        try clear p313
                        try clear p314
                        try clear p315
                        try clear p43
                        try clear p6
                        try clear q311
                        try clear q312
                        try clear q313
                        try clear q314
                        try clear q315
                        try clear q43
                        obtain ⟨kq, x116_59, rfl, HA, HJ59, HO_6, HO_10, HO_14, HO_291000, HO_291002, HO_291004, BK290, HB⟩ := hcut
                        cases kq with
                        | zero => exact absurd HA.out (by simp [swarflaw04_StripAll.j3])
                        | succ kj59 =>
                          have H := HA.out
                          clear HA
                          simp only [swarflaw04_StripAll.j3] at H
                          by_cases c67 : x116_59 = true
                          · subst c67
                            have H1 : (swarflaw04_StripAll.l0 kj59 t298 t301 t302 t303 x10_1 x11_1 x12_1 (wrap64 (x13_1 + 1)) t275 t278 t279 t296 t283) = some r := by rw [if_pos rfl] at H; exact H
                            clear H
                            have H := H1
                            clear H1
                            have H' := Aside0.mk H
                            clear H
                            go_wp2
                            go_roundg kj59
                            case measure => have := HK1.out; have := HK2.out; have := HJ59.out; omega
                            case rel => exact ⟨(x10_1), (x11_1), (x12_1), (wrap64 (x13_1 + 1)), (by first | rfl | (simp; done) | (simp [*]; done)), (by first | rfl | (simp; done) | (simp [*]; done)), (by first | rfl | (simp; done) | (simp [*]; done)), H', ⟨by have := HK1.out; have := HK2.out; have := HJ59.out; omega⟩, ⟨by (with_reducible repeat (first | apply Kd.R_alloc | apply Kd.R_drewN | apply Kd.R_drew)); exact HO_6.out⟩, ⟨by (with_reducible repeat (first | apply Kd.R_alloc | apply Kd.R_drewN | apply Kd.R_drew)); exact HO_10.out⟩, ⟨by (with_reducible repeat (first | apply Kd.S_alloc | apply Kd.S_drewN | apply Kd.S_drew)); exact HO_291000.out⟩, ⟨by (with_reducible repeat (first | apply Kd.R_alloc | apply Kd.R_drewN | apply Kd.R_drew)); exact HO_291002.out⟩, ⟨by (with_reducible repeat (first | apply Kd.R_alloc | apply Kd.R_drewN | apply Kd.R_drew)); exact HO_291004.out⟩, ⟨by (with_reducible repeat (first | refine blk_drewN ?_ _ | refine blk_drew ?_ | refine blk_alloc ?_ _)); exact BK290.out⟩, ⟨by repeat (first | (with_reducible first | exact HB.out | apply below_alloc | apply pw_below_drewN | apply below_drew1 | refine below_set ?_ GE290.out) | exact HB.out)⟩⟩
                          · replace c67 := Bool.eq_false_iff.mpr c67
                            subst c67
                            have H1 : (swarflaw04_StripAll.l3 kj59 t298 t301 t302 t303 x10_1 x11_1 (wrap64 (x12_1 + 1)) x13_1 x14_2 0 t275 t278 t279 t296 t283) = some r := by rw [if_neg (show ¬ (false = true) by decide)] at H; exact H
                            clear H
                            have H := H1
                            clear H1
                            have H' := Aside0.mk H
                            clear H
                            go_wp2
                            go_loopg [18] kj59 (fun kq v18 w' => ∃ (x10_4 : List Int) (x18_4 : Int), v18 = .int .i64 x18_4 ∧ Aside0 (swarflaw04_StripAll.l3 kq t298 t301 t302 t303 x10_4 x11_1 (wrap64 (x12_1 + 1)) x13_1 x14_2 x18_4 t275 t278 t279 t296 t283 = some r) ∧ Aside0 (kq ≤ kj59) ∧ Aside0 (Kd.R (Kd.int .i64) 3 w' w.heap.size (fun k_ => some k_ ≠ (v305 : Value).ownBlock ∧ some k_ ≠ ((.slice Ao17 t283.length co17) : Value).ownBlock) v299 t298) ∧ Aside0 (Kd.R (Kd.int .i64) 3 w' w.heap.size (fun k_ => some k_ ≠ (v299 : Value).ownBlock ∧ some k_ ≠ ((.slice Ao17 t283.length co17) : Value).ownBlock) v305 x10_4) ∧ Aside0 (Kd.R Kd.bool 4 w' w.heap.size (fun _ => True) (.slice Ao61 x14_2.length co61) x14_2) ∧ Aside0 (Kd.S k50 50 w' w.heap.size (fun k_ => some k_ ≠ (v299 : Value).ownBlock ∧ some k_ ≠ (v305 : Value).ownBlock ∧ some k_ ≠ ((.slice Ao17 t283.length co17) : Value).ownBlock) (.slice Ao13 t275.length co13) t275) ∧ Aside0 (Kd.R k61 61 w' w.heap.size (fun _ => True) (.slice Ao16 t279.length co16) t279) ∧ Aside0 (Kd.R (Kd.int .i64) 3 w' w.heap.size (fun k_ => some k_ ≠ (v299 : Value).ownBlock ∧ some k_ ≠ (v305 : Value).ownBlock) (.slice Ao17 t283.length co17) t283) ∧ Aside0 (w'.heap[gb290]? = some (.cells #[(.slice Ao13 t275.length co13), .int .i64 t278, (.slice Ao16 t279.length co16), .int .i64 t296, (.slice Ao17 t283.length co17)] 26 (0, 0))) ∧ Aside0 (Below w.heap.size w w'))
                            case atStart => exact ⟨(x10_1), (0), (by first | rfl | (simp; done) | (simp [*]; done)), H', ⟨Nat.le_refl _⟩, ⟨by (with_reducible repeat (first | apply Kd.R_alloc | apply Kd.R_drewN | apply Kd.R_drew)); exact HO_6.out⟩, ⟨by (with_reducible repeat (first | apply Kd.R_alloc | apply Kd.R_drewN | apply Kd.R_drew)); exact HO_10.out⟩, ⟨by (with_reducible repeat (first | apply Kd.R_alloc | apply Kd.R_drewN | apply Kd.R_drew)); exact HO_14.out⟩, ⟨by (with_reducible repeat (first | apply Kd.S_alloc | apply Kd.S_drewN | apply Kd.S_drew)); exact HO_291000.out⟩, ⟨by (with_reducible repeat (first | apply Kd.R_alloc | apply Kd.R_drewN | apply Kd.R_drew)); exact HO_291002.out⟩, ⟨by (with_reducible repeat (first | apply Kd.R_alloc | apply Kd.R_drewN | apply Kd.R_drew)); exact HO_291004.out⟩, ⟨by (with_reducible repeat (first | refine blk_drewN ?_ _ | refine blk_drew ?_ | refine blk_alloc ?_ _)); exact BK290.out⟩, ⟨by repeat (first | (with_reducible first | exact HB.out | apply below_alloc | apply pw_below_drewN | apply below_drew1 | refine below_set ?_ GE290.out) | exact HB.out)⟩⟩
                            case round =>
                              clear H'
                              try clear c2
                              try clear p2
                              try clear c3
                              try clear p3
                              try clear q3
                              try clear hx3
                              try clear c4
                              try clear p4
                              try clear q4
                              try clear hx4
                              try clear c5
                              try clear c6
                              try clear p6
                              try clear c28
                              try clear c31
                              try clear p31
                              try clear q31
                              try clear hx31
                              try clear c40
                              try clear c40b0
                              try clear c41
                              try clear p43
                              try clear q43
                              try clear hx43
                              try clear c47
                              try clear c47b0
                              try clear c48
                              try clear c48b0
                              try clear q49
                              try clear c50
                              try clear c51
                              try clear c51b0
                              try clear c52
                              try clear c52b0
                              try clear c53
                              try clear c54
                              try clear c54b0
                              try clear c55
                              try clear c55b0
                              try clear c56
                              try clear c56b0
                              try clear c62
                              try clear p64
                              try clear c67
                              try clear hcz26_0
                              try clear hcz26_1
                              try clear hcz26_2
                              try clear hcz26_3
                              try clear hcz26_4
                              try clear hcz28_0
                              try clear hcz28_1
                              try clear hcz28_2
                              try clear hcz28_3
                              try clear hcz28_4
                              try clear hcz30_0
                              try clear hcz30_1
                              try clear hcz30_2
                              try clear hcz30_3
                              try clear hcz30_4
                              try clear hcz37_0
                              try clear hcz37_1
                              try clear hcz37_2
                              try clear hcz37_3
                              try clear hcz37_4
                              try clear hcz57_0
                              try clear hcz57_1
                              try clear hcz57_2
                              try clear hcz57_3
                              try clear hcz57_4
                              try clear hcz58_0
                              try clear hcz58_1
                              try clear hcz58_2
                              try clear hcz58_3
                              try clear hcz58_4
                              try clear hcz59_0
                              try clear hcz59_1
                              try clear hcz59_2
                              try clear hcz59_3
                              try clear hcz59_4
                              try clear hfz15_0
                              try clear hfz15_1
                              try clear hfz15_2
                              try clear hfz15_3
                              try clear hfz15_4
                              try clear hfz26_0
                              try clear hfz26_1
                              try clear hfz26_2
                              try clear hfz26_3
                              try clear hfz26_4
                              try clear hfz28_0
                              try clear hfz28_1
                              try clear hfz28_2
                              try clear hfz28_3
                              try clear hfz28_4
                              try clear hfz30_0
                              try clear hfz30_1
                              try clear hfz30_2
                              try clear hfz30_3
                              try clear hfz30_4
                              try clear hfz37_0
                              try clear hfz37_1
                              try clear hfz37_2
                              try clear hfz37_3
                              try clear hfz37_4
                              try clear hfz57_0
                              try clear hfz57_1
                              try clear hfz57_2
                              try clear hfz57_3
                              try clear hfz57_4
                              try clear hfz58_0
                              try clear hfz58_1
                              try clear hfz58_2
                              try clear hfz58_3
                              try clear hfz58_4
                              try clear hfz59_0
                              try clear hfz59_1
                              try clear hfz59_2
                              try clear hfz59_3
                              try clear hfz59_4
                              try clear hx311_0
                              try clear hx312_0
                              try clear hx312_1
                              try clear hx312_2
                              try clear hx312_3
                              try clear hx313_0
                              try clear hx313_1
                              try clear hx313_2
                              try clear hx313_3
                              try clear hx314_0
                              try clear hx315_0
                              try clear hx43_0
                              try clear p2
                              try clear p3
                              try clear p31
                              try clear p311
                              try clear p312
                              try clear p313
                              try clear p314
                              try clear p315
                              try clear p4
                              try clear p43
                              try clear p6
                              try clear p64
                              try clear q3
                              try clear q31
                              try clear q311
                              try clear q312
                              try clear q313
                              try clear q314
                              try clear q315
                              try clear q4
                              try clear q43
                              try clear q49
                              obtain ⟨x10_4, x18_4, rfl, HA, HK4, HO_6, HO_10, HO_14, HO_291000, HO_291002, HO_291004, BK290, HB⟩ := hrel
                              cases gk with
                              | zero => exact absurd HA.out (by simp [swarflaw04_StripAll.l3])
                              | succ k4 =>
                                have H := HA.out
                                clear HA
                                simp only [swarflaw04_StripAll.l3] at H
                                by_cases c68 : x18_4 < (x14_2.length : Int)
                                · rw [if_pos c68] at H
                                  have c68b0 : decide (x18_4 < (x14_2.length : Int)) = true := decide_eq_true c68
                                  clear c68
                                  by_cases c69 : 0 ≤ x18_4
                                  · rw [if_pos c69] at H
                                    have c69b0 : decide (0 ≤ x18_4) = true := decide_eq_true c69
                                    clear c69
                                    obtain ⟨bq70, hbq70⟩ : ∃ b_ : Bool, b_ = (rdOf false x14_2 x18_4) := ⟨_, rfl⟩
                                    replace H : (if bq70 = true then (if x18_4 < (x10_4.length : Int) then (swarflaw04_StripAll.l3 k4 t298 t301 t302 t303 (x10_4.set (x18_4 : Int).toNat (wrap64 ((rd x10_4 x18_4) + 1))) x11_1 (wrap64 (x12_1 + 1)) x13_1 x14_2 (wrap64 (x18_4 + 1)) t275 t278 t279 t296 t283) else (none)) else (swarflaw04_StripAll.l3 k4 t298 t301 t302 t303 x10_4 x11_1 (wrap64 (x12_1 + 1)) x13_1 x14_2 (wrap64 (x18_4 + 1)) t275 t278 t279 t296 t283)) = some r := by rw [← hbq70] at H; exact H
                                    have Nbq70 := Aside0.mk hbq70
                                    clear hbq70
                                    by_cases c71 : bq70 = true
                                    · subst c71
                                      have H1 : (if x18_4 < (x10_4.length : Int) then (swarflaw04_StripAll.l3 k4 t298 t301 t302 t303 (x10_4.set (x18_4 : Int).toNat (wrap64 ((rd x10_4 x18_4) + 1))) x11_1 (wrap64 (x12_1 + 1)) x13_1 x14_2 (wrap64 (x18_4 + 1)) t275 t278 t279 t296 t283) else (none)) = some r := by rw [if_pos rfl] at H; exact H
                                      clear H
                                      have H := H1
                                      clear H1
                                      by_cases c72 : x18_4 < (x10_4.length : Int)
                                      · rw [if_pos c72] at H
                                        have c72b0 : decide (x18_4 < (x10_4.length : Int)) = true := decide_eq_true c72
                                        clear c72
                                        obtain ⟨y319, hy319⟩ : ∃ y_ : List Int, y_ = (x10_4.set (x18_4 : Int).toNat (wrap64 ((rd x10_4 x18_4) + 1))) := ⟨_, rfl⟩
                                        replace H : (swarflaw04_StripAll.l3 k4 t298 t301 t302 t303 y319 x11_1 (wrap64 (x12_1 + 1)) x13_1 x14_2 (wrap64 (x18_4 + 1)) t275 t278 t279 t296 t283) = some r := by first | (rw [hy319]; with_reducible exact H) | (have H2_ := (Option.bind_some _ _).symm.trans H; rw [hy319]; with_reducible exact H2_) | (have H2_ := (Option.bind_some _ _).symm.trans H; with_reducible exact H2_) | with_reducible exact H | (rw [hy319]; exact H) | exact H
                                        have Ny319 := Aside0.mk hy319
                                        clear hy319
                                        have H' := Aside0.mk H
                                        clear H
                                        have p317 : 0 ≤ (x18_4 : Int) := of_decide_eq_true (by first | (with_reducible assumption) | assumption)
                                        have q317 : x18_4 < (x14_2.length : Int) := of_decide_eq_true (by first | (with_reducible assumption) | assumption)
                                        obtain ⟨ad317, e317, hx317_0⟩ := Kd.at_bool (Kd.R_reads' HO_14.out).2.2 x18_4 p317 q317
                                        (try rw [← Nbq70.out] at hx317_0)
                                        cases e317
                                        replace p317 := eq_true p317
                                        replace q317 := eq_true q317
                                        obtain ⟨Ao74, co74, eo74⟩ := Kd.R_slice HO_10.out
                                        subst eo74
                                        have p318 : 0 ≤ (x18_4 : Int) := of_decide_eq_true (by first | (with_reducible assumption) | assumption)
                                        have q318 : x18_4 < (x10_4.length : Int) := of_decide_eq_true (by first | (with_reducible assumption) | assumption)
                                        obtain ⟨ad318, e318, hx318_0⟩ := Kd.at_int (Kd.R_reads' HO_10.out).2.2 x18_4 p318 q318
                                        cases e318
                                        replace p318 := eq_true p318
                                        replace q318 := eq_true q318
                                        have p73 : 0 ≤ (x18_4 : Int) := of_decide_eq_true (by first | (with_reducible assumption) | assumption)
                                        have q73 : (x18_4 : Int) < ((x10_4.length : Int) : Int) := of_decide_eq_true (by first | (with_reducible assumption) | assumption)
                                        obtain ⟨go73, co73, eo73, gb73, gl73, cl73, HG73⟩ := Kd.R_form HO_10.out (by omega)
                                        (first | cases eo73 | (injection eo73 with ea_ en_ ec_; (first | subst ea_ | (injection ea_ with ea_; subst ea_)); subst ec_; clear en_))
                                        have GB73 := Aside0.mk gb73
                                        have GG73 := Aside0.mk HG73
                                        clear gb73 gl73 HG73
                                        (first | simp only [add_plain] at hx318_0 | skip)
                                        obtain ⟨hx73_0, hf73_0⟩ := Kd.R_celln 0 HO_10.out (x18_4 : Int) p73 q73
                                        replace p73 := eq_true p73
                                        replace q73 := eq_true q73
                                        have HP75 := Kd.R_putg HO_10.out (x18_4 : Int) (wrap64 ((rd x10_4 x18_4) + 1))
                                        go_wp2_with (first | ((with_reducible refine gate_store (t := 3) (p := 134) rfl ?_); refine store_event (t := 3) (p := 134) (v := ?vo_w76) (w1 := (wr.setCell ⟨go73, (x18_4 : Int).toNat, none⟩ (.int .i64 (wrap64 ((rd x10_4 x18_4) + 1))))) ?hg ?ho ?hn ?hr ?_; (case ho => rfl); (case hg => rfl); (case hn => rfl); (case hr => first | (go_simp; done) | (go_simp; rfl)); intro w76 hw; have hg : wr.grownBy w76 (some go73) := (by rw [hw]; exact HP75.2); have hp_ : Kd.R (Kd.int .i64) 3 w76 w.heap.size (fun k_ => some k_ ≠ (v299 : Value).ownBlock ∧ some k_ ≠ (.slice Ao17 t283.length co17 : Value).ownBlock) (.slice (some ⟨go73, 0, none⟩) x10_4.length co74) y319 := (by rw [hw, Ny319.out]; exact HP75.1); clear HP75; have n0_ := Aside0.mk (Kd.R_after (v := (.slice (some ⟨go73, 0, none⟩) x10_4.length co74)) (v1 := (.slice (some ⟨go73, 0, none⟩) x10_4.length co74)) (ok := (fun k_ => some k_ ≠ (.slice Ao17 t283.length co17 : Value).ownBlock)) (by (with_reducible repeat (first | apply Kd.R_alloc | apply Kd.R_drewN | apply Kd.R_drew)); exact Kd.R_mono HO_6.out (fun _ hk => ⟨hk.2, hk.1⟩)) hg (.inl rfl)); have n1_ := Aside0.mk (hp_); have n2_ := Aside0.mk (Kd.R_over' (v := (.slice (some ⟨go73, 0, none⟩) x10_4.length co74)) (by (with_reducible repeat (first | apply Kd.R_alloc | apply Kd.R_drewN | apply Kd.R_drew)); exact HO_14.out) (Kd.R_typed HO_10.out) (by decide) hg); have n3_ := Aside0.mk (Kd.S_after (v := (.slice (some ⟨go73, 0, none⟩) x10_4.length co74)) (v1 := (.slice (some ⟨go73, 0, none⟩) x10_4.length co74)) (ok := (fun k_ => some k_ ≠ (v299 : Value).ownBlock ∧ some k_ ≠ (.slice Ao17 t283.length co17 : Value).ownBlock)) (by (with_reducible repeat (first | apply Kd.S_alloc | apply Kd.S_drewN | apply Kd.S_drew)); exact Kd.S_mono HO_291000.out (fun _ hk => ⟨⟨hk.1, hk.2.2⟩, hk.2.1⟩)) hg (.inl rfl)); have n4_ := Aside0.mk (Kd.R_over' (v := (.slice (some ⟨go73, 0, none⟩) x10_4.length co74)) (by (with_reducible repeat (first | apply Kd.R_alloc | apply Kd.R_drewN | apply Kd.R_drew)); exact HO_291002.out) (Kd.R_typed HO_10.out) (by decide) hg); have n5_ := Aside0.mk (Kd.R_after (v := (.slice (some ⟨go73, 0, none⟩) x10_4.length co74)) (v1 := (.slice (some ⟨go73, 0, none⟩) x10_4.length co74)) (ok := (fun k_ => some k_ ≠ (v299 : Value).ownBlock)) (by (with_reducible repeat (first | apply Kd.R_alloc | apply Kd.R_drewN | apply Kd.R_drew)); exact HO_291004.out) hg (.inl rfl)); have n6_ := Aside0.mk (blk_grown (g := gb290) (o := .cells #[.slice Ao13 t275.length co13, .int .i64 t278, .slice Ao16 t279.length co16, .int .i64 t296, .slice Ao17 t283.length co17] 26 (0, 0)) (by (with_reducible repeat (first | refine blk_drewN ?_ _ | refine blk_drew ?_ | refine blk_alloc ?_ _)); exact BK290.out) hg (Kd.R_ne HO_10.out BK290.out (by decide))); have n7_ := Aside0.mk ((by rw [hw]; exact below_set (HB.out) GB73.out : Below w.heap.size w w76)); clear HO_6; clear HO_10; clear HO_14; clear HO_291000; clear HO_291002; clear HO_291004; clear BK290; clear HB; have HO_6 := n0_; have HO_10 := n1_; have HO_14 := n2_; have HO_291000 := n3_; have HO_291002 := n4_; have HO_291004 := n5_; have BK290 := n6_; have HB := n7_; clear n0_ n1_ n2_ n3_ n4_ n5_ n6_ n7_; clear hg hw hp_))
                                        go_roundg k4
                                        case measure => have := HK1.out; have := HK2.out; have := HJ59.out; have := HK4.out; omega
                                        case rel => exact ⟨(y319), (wrap64 (x18_4 + 1)), (by first | rfl | (simp; done) | (simp [*]; done)), H', ⟨by have := HK1.out; have := HK2.out; have := HJ59.out; have := HK4.out; omega⟩, ⟨by (with_reducible repeat (first | apply Kd.R_alloc | apply Kd.R_drewN | apply Kd.R_drew)); exact Kd.R_mono HO_6.out (fun _ hk => ⟨hk.2, hk.1⟩)⟩, ⟨by (with_reducible repeat (first | apply Kd.R_alloc | apply Kd.R_drewN | apply Kd.R_drew)); exact HO_10.out⟩, ⟨by (with_reducible repeat (first | apply Kd.R_alloc | apply Kd.R_drewN | apply Kd.R_drew)); exact HO_14.out⟩, ⟨by (with_reducible repeat (first | apply Kd.S_alloc | apply Kd.S_drewN | apply Kd.S_drew)); exact Kd.S_mono HO_291000.out (fun _ hk => ⟨hk.1.1, ⟨hk.2, hk.1.2⟩⟩)⟩, ⟨by (with_reducible repeat (first | apply Kd.R_alloc | apply Kd.R_drewN | apply Kd.R_drew)); exact HO_291002.out⟩, ⟨by (with_reducible repeat (first | apply Kd.R_alloc | apply Kd.R_drewN | apply Kd.R_drew)); exact HO_291004.out⟩, ⟨by (with_reducible repeat (first | refine blk_drewN ?_ _ | refine blk_drew ?_ | refine blk_alloc ?_ _)); exact BK290.out⟩, ⟨by repeat (first | (with_reducible first | exact HB.out | apply below_alloc | apply pw_below_drewN | apply below_drew1 | refine below_set ?_ GE290.out) | exact HB.out)⟩⟩
                                      · rw [if_neg c72] at H
                                        exact absurd H (by simp)
                                    · replace c71 := Bool.eq_false_iff.mpr c71
                                      subst c71
                                      have H1 : (swarflaw04_StripAll.l3 k4 t298 t301 t302 t303 x10_4 x11_1 (wrap64 (x12_1 + 1)) x13_1 x14_2 (wrap64 (x18_4 + 1)) t275 t278 t279 t296 t283) = some r := by rw [if_neg (show ¬ (false = true) by decide)] at H; exact H
                                      clear H
                                      have H := H1
                                      clear H1
                                      have H' := Aside0.mk H
                                      clear H
                                      have p317 : 0 ≤ (x18_4 : Int) := of_decide_eq_true (by first | (with_reducible assumption) | assumption)
                                      have q317 : x18_4 < (x14_2.length : Int) := of_decide_eq_true (by first | (with_reducible assumption) | assumption)
                                      obtain ⟨ad317, e317, hx317_0⟩ := Kd.at_bool (Kd.R_reads' HO_14.out).2.2 x18_4 p317 q317
                                      (try rw [← Nbq70.out] at hx317_0)
                                      cases e317
                                      replace p317 := eq_true p317
                                      replace q317 := eq_true q317
                                      go_wp2
                                      go_roundg k4
                                      case measure => have := HK1.out; have := HK2.out; have := HJ59.out; have := HK4.out; omega
                                      case rel => exact ⟨(x10_4), (wrap64 (x18_4 + 1)), (by first | rfl | (simp; done) | (simp [*]; done)), H', ⟨by have := HK1.out; have := HK2.out; have := HJ59.out; have := HK4.out; omega⟩, ⟨by (with_reducible repeat (first | apply Kd.R_alloc | apply Kd.R_drewN | apply Kd.R_drew)); exact HO_6.out⟩, ⟨by (with_reducible repeat (first | apply Kd.R_alloc | apply Kd.R_drewN | apply Kd.R_drew)); exact HO_10.out⟩, ⟨by (with_reducible repeat (first | apply Kd.R_alloc | apply Kd.R_drewN | apply Kd.R_drew)); exact HO_14.out⟩, ⟨by (with_reducible repeat (first | apply Kd.S_alloc | apply Kd.S_drewN | apply Kd.S_drew)); exact HO_291000.out⟩, ⟨by (with_reducible repeat (first | apply Kd.R_alloc | apply Kd.R_drewN | apply Kd.R_drew)); exact HO_291002.out⟩, ⟨by (with_reducible repeat (first | apply Kd.R_alloc | apply Kd.R_drewN | apply Kd.R_drew)); exact HO_291004.out⟩, ⟨by (with_reducible repeat (first | refine blk_drewN ?_ _ | refine blk_drew ?_ | refine blk_alloc ?_ _)); exact BK290.out⟩, ⟨by repeat (first | (with_reducible first | exact HB.out | apply below_alloc | apply pw_below_drewN | apply below_drew1 | refine below_set ?_ GE290.out) | exact HB.out)⟩⟩
                                  · rw [if_neg c69] at H
                                    exact absurd H (by simp)
                                · rw [if_neg c68] at H
                                  have c68b0 : decide (x18_4 < (x14_2.length : Int)) = false := decide_eq_false c68
                                  clear c68
                                  replace H := Option.bind_eq_some_iff.mp H
                                  obtain ⟨t320, A770, H⟩ := H
                                  replace H : (if t320 = true then (swarflaw04_StripAll.l0 k4 t298 t301 t302 t303 x10_4 (wrap64 (x11_1 + 1)) (wrap64 (x12_1 + 1)) (wrap64 (x13_1 + 1)) t275 t278 t279 t296 t283) else (swarflaw04_StripAll.l0 k4 t298 t301 t302 t303 x10_4 x11_1 (wrap64 (x12_1 + 1)) (wrap64 (x13_1 + 1)) t275 t278 t279 t296 t283)) = some r := H
                                  have A77 := Aside0.mk A770
                                  clear A770
                                  by_cases c78 : t320 = true
                                  · subst c78
                                    have H1 : (swarflaw04_StripAll.l0 k4 t298 t301 t302 t303 x10_4 (wrap64 (x11_1 + 1)) (wrap64 (x12_1 + 1)) (wrap64 (x13_1 + 1)) t275 t278 t279 t296 t283) = some r := by rw [if_pos rfl] at H; exact H
                                    clear H
                                    have H := H1
                                    clear H1
                                    have H' := Aside0.mk H
                                    clear H
                                    have hcz79_0 : wr.cell? ⟨gb290, 0, none⟩ = some (.slice Ao13 t275.length co13) := (blk_cell BK290.out 0).trans rfl
                                    have hcz79_1 : wr.cell? ⟨gb290, 1, none⟩ = some (.int .i64 t278) := (blk_cell BK290.out 1).trans rfl
                                    have hcz79_2 : wr.cell? ⟨gb290, 2, none⟩ = some (.slice Ao16 t279.length co16) := (blk_cell BK290.out 2).trans rfl
                                    have hcz79_3 : wr.cell? ⟨gb290, 3, none⟩ = some (.int .i64 t296) := (blk_cell BK290.out 3).trans rfl
                                    have hcz79_4 : wr.cell? ⟨gb290, 4, none⟩ = some (.slice Ao17 t283.length co17) := (blk_cell BK290.out 4).trans rfl
                                    have hfz79_0 := blk_frozen BK290.out 0
                                    have hfz79_1 := blk_frozen BK290.out 1
                                    have hfz79_2 := blk_frozen BK290.out 2
                                    have hfz79_3 := blk_frozen BK290.out 3
                                    have hfz79_4 := blk_frozen BK290.out 4
                                    go_wp2_with (first | ((with_reducible refine gate_callee (f := 29) rfl ?_); refine goesL_ (some 137) rfl rfl Try.func29 (by kernel_rfl) rfl #[.agg #[.slice Ao13 t275.length co13, .int .i64 t278, .slice Ao16 t279.length co16, .int .i64 t296, .slice Ao17 t283.length co17], .slice Ao61 x14_2.length co61] rfl (by (try simp only [List.map_toArray, List.map_cons, List.map_nil]); first | done | rfl | (simp only [List.length_drop, List.length_take]; rfl)) ?_; (with_reducible refine (swarfref04_IsClean.calls k4 _ _ t275 t278 _ _ t279 t296 _ _ t283 _ _ x14_2 true _ ?side1 ?side2 ?side3 ?side4 ?side5 ?side6 ?side7 ?side8 A77.out).mono ?_); (case side1 => repeat (first | exact (Kd.S_reads' HO_291000.out).2.2 | (with_reducible refine Kd.C_alloc ?_ _) | (with_reducible refine Kd.C_drewN ?_ _) | (with_reducible refine Kd.C_drew ?_))); (case side2 => exact (Kd.S_reads' HO_291000.out).2.1); (case side3 => repeat (first | exact (Kd.R_reads' HO_291002.out).2.2 | (with_reducible refine Kd.C_alloc ?_ _) | (with_reducible refine Kd.C_drewN ?_ _) | (with_reducible refine Kd.C_drew ?_))); (case side4 => exact (Kd.R_reads' HO_291002.out).2.1); (case side5 => repeat (first | exact (Kd.R_reads' HO_291004.out).2.2 | (with_reducible refine Kd.C_alloc ?_ _) | (with_reducible refine Kd.C_drewN ?_ _) | (with_reducible refine Kd.C_drew ?_))); (case side6 => exact (Kd.R_reads' HO_291004.out).2.1); (case side7 => repeat (first | exact (Kd.R_reads' HO_14.out).2.2 | (with_reducible refine Kd.C_alloc ?_ _) | (with_reducible refine Kd.C_drewN ?_ _) | (with_reducible refine Kd.C_drew ?_))); (case side8 => exact (Kd.R_reads' HO_14.out).2.1); rintro e w80 ⟨rfl, hb⟩; refine ⟨_, rfl, ?_⟩; have n0_ := Aside0.mk (Kd.R_below (by (with_reducible repeat (first | apply Kd.R_alloc | apply Kd.R_drewN | apply Kd.R_drew)); exact HO_6.out) hb); have n1_ := Aside0.mk (Kd.R_below (by (with_reducible repeat (first | apply Kd.R_alloc | apply Kd.R_drewN | apply Kd.R_drew)); exact HO_10.out) hb); have n2_ := Aside0.mk (Kd.R_below (by (with_reducible repeat (first | apply Kd.R_alloc | apply Kd.R_drewN | apply Kd.R_drew)); exact HO_14.out) hb); have n3_ := Aside0.mk (Kd.S_below (by (with_reducible repeat (first | apply Kd.S_alloc | apply Kd.S_drewN | apply Kd.S_drew)); exact HO_291000.out) hb); have n4_ := Aside0.mk (Kd.R_below (by (with_reducible repeat (first | apply Kd.R_alloc | apply Kd.R_drewN | apply Kd.R_drew)); exact HO_291002.out) hb); have n5_ := Aside0.mk (Kd.R_below (by (with_reducible repeat (first | apply Kd.R_alloc | apply Kd.R_drewN | apply Kd.R_drew)); exact HO_291004.out) hb); have n6_ := Aside0.mk (blk_below (g := gb290) (o := .cells #[.slice Ao13 t275.length co13, .int .i64 t278, .slice Ao16 t279.length co16, .int .i64 t296, .slice Ao17 t283.length co17] 26 (0, 0)) (by (with_reducible repeat (first | refine blk_drewN ?_ _ | refine blk_drew ?_ | refine blk_alloc ?_ _)); exact BK290.out) hb); have n7_ := Aside0.mk (below_step (by repeat (first | (with_reducible first | exact HB.out | apply below_alloc | apply pw_below_drewN | apply below_drew1 | refine below_set ?_ GE290.out) | exact HB.out)) hb); clear HO_6; clear HO_10; clear HO_14; clear HO_291000; clear HO_291002; clear HO_291004; clear BK290; clear HB; have HO_6 := n0_; have HO_10 := n1_; have HO_14 := n2_; have HO_291000 := n3_; have HO_291002 := n4_; have HO_291004 := n5_; have BK290 := n6_; have HB := n7_; clear n0_ n1_ n2_ n3_ n4_ n5_ n6_ n7_; (try clear hb); (try clear hb2); (try clear hk); (try clear hi)))
                                    go_roundg k4
                                    case measure => have := HK1.out; have := HK2.out; have := HJ59.out; have := HK4.out; omega
                                    case rel => exact ⟨(x10_4), (wrap64 (x11_1 + 1)), ((wrap64 (x12_1 + 1))), (wrap64 (x13_1 + 1)), (by first | rfl | (simp; done) | (simp [*]; done)), (by first | rfl | (simp; done) | (simp [*]; done)), (by first | rfl | (simp; done) | (simp [*]; done)), H', ⟨by have := HK1.out; have := HK2.out; have := HJ59.out; have := HK4.out; omega⟩, ⟨by (with_reducible repeat (first | apply Kd.R_alloc | apply Kd.R_drewN | apply Kd.R_drew)); exact HO_6.out⟩, ⟨by (with_reducible repeat (first | apply Kd.R_alloc | apply Kd.R_drewN | apply Kd.R_drew)); exact HO_10.out⟩, ⟨by (with_reducible repeat (first | apply Kd.S_alloc | apply Kd.S_drewN | apply Kd.S_drew)); exact HO_291000.out⟩, ⟨by (with_reducible repeat (first | apply Kd.R_alloc | apply Kd.R_drewN | apply Kd.R_drew)); exact HO_291002.out⟩, ⟨by (with_reducible repeat (first | apply Kd.R_alloc | apply Kd.R_drewN | apply Kd.R_drew)); exact HO_291004.out⟩, ⟨by (with_reducible repeat (first | refine blk_drewN ?_ _ | refine blk_drew ?_ | refine blk_alloc ?_ _)); exact BK290.out⟩, ⟨by repeat (first | (with_reducible first | exact HB.out | apply below_alloc | apply pw_below_drewN | apply below_drew1 | refine below_set ?_ GE290.out) | exact HB.out)⟩⟩
                                  · replace c78 := Bool.eq_false_iff.mpr c78
                                    subst c78
                                    have H1 : (swarflaw04_StripAll.l0 k4 t298 t301 t302 t303 x10_4 x11_1 (wrap64 (x12_1 + 1)) (wrap64 (x13_1 + 1)) t275 t278 t279 t296 t283) = some r := by rw [if_neg (show ¬ (false = true) by decide)] at H; exact H
                                    clear H
                                    have H := H1
                                    clear H1
                                    have H' := Aside0.mk H
                                    clear H
                                    have hcz81_0 : wr.cell? ⟨gb290, 0, none⟩ = some (.slice Ao13 t275.length co13) := (blk_cell BK290.out 0).trans rfl
                                    have hcz81_1 : wr.cell? ⟨gb290, 1, none⟩ = some (.int .i64 t278) := (blk_cell BK290.out 1).trans rfl
                                    have hcz81_2 : wr.cell? ⟨gb290, 2, none⟩ = some (.slice Ao16 t279.length co16) := (blk_cell BK290.out 2).trans rfl
                                    have hcz81_3 : wr.cell? ⟨gb290, 3, none⟩ = some (.int .i64 t296) := (blk_cell BK290.out 3).trans rfl
                                    have hcz81_4 : wr.cell? ⟨gb290, 4, none⟩ = some (.slice Ao17 t283.length co17) := (blk_cell BK290.out 4).trans rfl
                                    have hfz81_0 := blk_frozen BK290.out 0
                                    have hfz81_1 := blk_frozen BK290.out 1
                                    have hfz81_2 := blk_frozen BK290.out 2
                                    have hfz81_3 := blk_frozen BK290.out 3
                                    have hfz81_4 := blk_frozen BK290.out 4
                                    go_wp2_with (first | ((with_reducible refine gate_callee (f := 29) rfl ?_); refine goesL_ (some 137) rfl rfl Try.func29 (by kernel_rfl) rfl #[.agg #[.slice Ao13 t275.length co13, .int .i64 t278, .slice Ao16 t279.length co16, .int .i64 t296, .slice Ao17 t283.length co17], .slice Ao61 x14_2.length co61] rfl (by (try simp only [List.map_toArray, List.map_cons, List.map_nil]); first | done | rfl | (simp only [List.length_drop, List.length_take]; rfl)) ?_; (with_reducible refine (swarfref04_IsClean.calls k4 _ _ t275 t278 _ _ t279 t296 _ _ t283 _ _ x14_2 false _ ?side1 ?side2 ?side3 ?side4 ?side5 ?side6 ?side7 ?side8 A77.out).mono ?_); (case side1 => repeat (first | exact (Kd.S_reads' HO_291000.out).2.2 | (with_reducible refine Kd.C_alloc ?_ _) | (with_reducible refine Kd.C_drewN ?_ _) | (with_reducible refine Kd.C_drew ?_))); (case side2 => exact (Kd.S_reads' HO_291000.out).2.1); (case side3 => repeat (first | exact (Kd.R_reads' HO_291002.out).2.2 | (with_reducible refine Kd.C_alloc ?_ _) | (with_reducible refine Kd.C_drewN ?_ _) | (with_reducible refine Kd.C_drew ?_))); (case side4 => exact (Kd.R_reads' HO_291002.out).2.1); (case side5 => repeat (first | exact (Kd.R_reads' HO_291004.out).2.2 | (with_reducible refine Kd.C_alloc ?_ _) | (with_reducible refine Kd.C_drewN ?_ _) | (with_reducible refine Kd.C_drew ?_))); (case side6 => exact (Kd.R_reads' HO_291004.out).2.1); (case side7 => repeat (first | exact (Kd.R_reads' HO_14.out).2.2 | (with_reducible refine Kd.C_alloc ?_ _) | (with_reducible refine Kd.C_drewN ?_ _) | (with_reducible refine Kd.C_drew ?_))); (case side8 => exact (Kd.R_reads' HO_14.out).2.1); rintro e w82 ⟨rfl, hb⟩; refine ⟨_, rfl, ?_⟩; have n0_ := Aside0.mk (Kd.R_below (by (with_reducible repeat (first | apply Kd.R_alloc | apply Kd.R_drewN | apply Kd.R_drew)); exact HO_6.out) hb); have n1_ := Aside0.mk (Kd.R_below (by (with_reducible repeat (first | apply Kd.R_alloc | apply Kd.R_drewN | apply Kd.R_drew)); exact HO_10.out) hb); have n2_ := Aside0.mk (Kd.R_below (by (with_reducible repeat (first | apply Kd.R_alloc | apply Kd.R_drewN | apply Kd.R_drew)); exact HO_14.out) hb); have n3_ := Aside0.mk (Kd.S_below (by (with_reducible repeat (first | apply Kd.S_alloc | apply Kd.S_drewN | apply Kd.S_drew)); exact HO_291000.out) hb); have n4_ := Aside0.mk (Kd.R_below (by (with_reducible repeat (first | apply Kd.R_alloc | apply Kd.R_drewN | apply Kd.R_drew)); exact HO_291002.out) hb); have n5_ := Aside0.mk (Kd.R_below (by (with_reducible repeat (first | apply Kd.R_alloc | apply Kd.R_drewN | apply Kd.R_drew)); exact HO_291004.out) hb); have n6_ := Aside0.mk (blk_below (g := gb290) (o := .cells #[.slice Ao13 t275.length co13, .int .i64 t278, .slice Ao16 t279.length co16, .int .i64 t296, .slice Ao17 t283.length co17] 26 (0, 0)) (by (with_reducible repeat (first | refine blk_drewN ?_ _ | refine blk_drew ?_ | refine blk_alloc ?_ _)); exact BK290.out) hb); have n7_ := Aside0.mk (below_step (by repeat (first | (with_reducible first | exact HB.out | apply below_alloc | apply pw_below_drewN | apply below_drew1 | refine below_set ?_ GE290.out) | exact HB.out)) hb); clear HO_6; clear HO_10; clear HO_14; clear HO_291000; clear HO_291002; clear HO_291004; clear BK290; clear HB; have HO_6 := n0_; have HO_10 := n1_; have HO_14 := n2_; have HO_291000 := n3_; have HO_291002 := n4_; have HO_291004 := n5_; have BK290 := n6_; have HB := n7_; clear n0_ n1_ n2_ n3_ n4_ n5_ n6_ n7_; (try clear hb); (try clear hb2); (try clear hk); (try clear hi)))
                                    go_roundg k4
                                    case measure => have := HK1.out; have := HK2.out; have := HJ59.out; have := HK4.out; omega
                                    case rel => exact ⟨(x10_4), (x11_1), ((wrap64 (x12_1 + 1))), (wrap64 (x13_1 + 1)), (by first | rfl | (simp; done) | (simp [*]; done)), (by first | rfl | (simp; done) | (simp [*]; done)), (by first | rfl | (simp; done) | (simp [*]; done)), H', ⟨by have := HK1.out; have := HK2.out; have := HJ59.out; have := HK4.out; omega⟩, ⟨by (with_reducible repeat (first | apply Kd.R_alloc | apply Kd.R_drewN | apply Kd.R_drew)); exact HO_6.out⟩, ⟨by (with_reducible repeat (first | apply Kd.R_alloc | apply Kd.R_drewN | apply Kd.R_drew)); exact HO_10.out⟩, ⟨by (with_reducible repeat (first | apply Kd.S_alloc | apply Kd.S_drewN | apply Kd.S_drew)); exact HO_291000.out⟩, ⟨by (with_reducible repeat (first | apply Kd.R_alloc | apply Kd.R_drewN | apply Kd.R_drew)); exact HO_291002.out⟩, ⟨by (with_reducible repeat (first | apply Kd.R_alloc | apply Kd.R_drewN | apply Kd.R_drew)); exact HO_291004.out⟩, ⟨by (with_reducible repeat (first | refine blk_drewN ?_ _ | refine blk_drew ?_ | refine blk_alloc ?_ _)); exact BK290.out⟩, ⟨by repeat (first | (with_reducible first | exact HB.out | apply below_alloc | apply pw_below_drewN | apply below_drew1 | refine below_set ?_ GE290.out) | exact HB.out)⟩⟩
              · rw [if_neg c36] at H
                exact absurd H (by simp)
            · rw [if_neg c35] at H
              exact absurd H (by simp)
          · rw [if_neg c34] at H
            have c34b0 : decide (x13_1 < (ji33)) = false := decide_eq_false c34
            clear c34
            by_cases c83 : x12_1 = 0
            · rw [if_pos c83] at H
              have c83b0 : (x12_1 == 0) = true := beq_iff_eq.mpr c83
              have c83b1 : (x12_1 != 0) = false := bne_eq_false_iff_eq.mpr c83
              clear c83
              by_cases c84 : t301 = 9
              · rw [if_pos c84] at H
                have c84b0 : (t301 == 9) = true := beq_iff_eq.mpr c84
                have c84b1 : (t301 != 9) = false := bne_eq_false_iff_eq.mpr c84
                clear c84
                by_cases c85 : t303 = 9
                · rw [if_pos c85] at H
                  have c85b0 : (t303 == 9) = true := beq_iff_eq.mpr c85
                  have c85b1 : (t303 != 9) = false := bne_eq_false_iff_eq.mpr c85
                  clear c85
                  replace H := Option.bind_eq_some_iff.mp H
                  obtain ⟨t321, A860, H⟩ := H
                  replace H : (some t321) = some r := H
                  have A86 := Aside0.mk A860
                  clear A860
                  obtain rfl := Option.some.inj H
                  have hcz87_0 : wr.cell? ⟨gb290, 0, none⟩ = some (.slice Ao13 t275.length co13) := (blk_cell BK290.out 0).trans rfl
                  have hcz87_1 : wr.cell? ⟨gb290, 1, none⟩ = some (.int .i64 t278) := (blk_cell BK290.out 1).trans rfl
                  have hcz87_2 : wr.cell? ⟨gb290, 2, none⟩ = some (.slice Ao16 t279.length co16) := (blk_cell BK290.out 2).trans rfl
                  have hcz87_3 : wr.cell? ⟨gb290, 3, none⟩ = some (.int .i64 t296) := (blk_cell BK290.out 3).trans rfl
                  have hcz87_4 : wr.cell? ⟨gb290, 4, none⟩ = some (.slice Ao17 t283.length co17) := (blk_cell BK290.out 4).trans rfl
                  have hfz87_0 := blk_frozen BK290.out 0
                  have hfz87_1 := blk_frozen BK290.out 1
                  have hfz87_2 := blk_frozen BK290.out 2
                  have hfz87_3 := blk_frozen BK290.out 3
                  have hfz87_4 := blk_frozen BK290.out 4
                  go_wp2_with (first | (go_at_call 16; (with_reducible refine (swarflaw04_awake.calls k1  t321 _ A86.out).mono ?_); rintro e w88 ⟨rfl, hb⟩; have n0_ := Aside0.mk (Kd.R_below (by (with_reducible repeat (first | apply Kd.R_alloc | apply Kd.R_drewN | apply Kd.R_drew)); exact HO_6.out) hb); have n1_ := Aside0.mk (Kd.R_below (by (with_reducible repeat (first | apply Kd.R_alloc | apply Kd.R_drewN | apply Kd.R_drew)); exact HO_10.out) hb); have n2_ := Aside0.mk (Kd.S_below (by (with_reducible repeat (first | apply Kd.S_alloc | apply Kd.S_drewN | apply Kd.S_drew)); exact HO_291000.out) hb); have n3_ := Aside0.mk (Kd.R_below (by (with_reducible repeat (first | apply Kd.R_alloc | apply Kd.R_drewN | apply Kd.R_drew)); exact HO_291002.out) hb); have n4_ := Aside0.mk (Kd.R_below (by (with_reducible repeat (first | apply Kd.R_alloc | apply Kd.R_drewN | apply Kd.R_drew)); exact HO_291004.out) hb); have n5_ := Aside0.mk (blk_below (g := gb290) (o := .cells #[.slice Ao13 t275.length co13, .int .i64 t278, .slice Ao16 t279.length co16, .int .i64 t296, .slice Ao17 t283.length co17] 26 (0, 0)) (by (with_reducible repeat (first | refine blk_drewN ?_ _ | refine blk_drew ?_ | refine blk_alloc ?_ _)); exact BK290.out) hb); have n6_ := Aside0.mk (below_step (by repeat (first | (with_reducible first | exact HB.out | apply below_alloc | apply pw_below_drewN | apply below_drew1 | refine below_set ?_ GE290.out) | exact HB.out)) hb); clear HO_6; clear HO_10; clear HO_291000; clear HO_291002; clear HO_291004; clear BK290; clear HB; have HO_6 := n0_; have HO_10 := n1_; have HO_291000 := n2_; have HO_291002 := n3_; have HO_291004 := n4_; have BK290 := n5_; have HB := n6_; clear n0_ n1_ n2_ n3_ n4_ n5_ n6_; (try clear hb); (try clear hb2); (try clear hk); (try clear hi)))
                  go_ret
                  exact ⟨by first | rfl | (simp [errW_none, errW_some] <;> rfl) | (simp only [← hji33]; first | rfl | (simp [errW_none, errW_some] <;> rfl)) | (simp [*, errW_none, errW_some] <;> rfl), by repeat (first | (with_reducible first | exact HB.out | apply below_alloc | apply pw_below_drewN | apply below_drew1 | refine below_set ?_ GE290.out) | exact HB.out)⟩
                · rw [if_neg c85] at H
                  have c85b0 : (t303 == 9) = false := beq_eq_false_iff_ne.mpr c85
                  have c85b1 : (t303 != 9) = true := bne_iff_ne.mpr c85
                  exact absurd ((Option.some.inj H).trans hrt.out) (by decide)
              · rw [if_neg c84] at H
                have c84b0 : (t301 == 9) = false := beq_eq_false_iff_ne.mpr c84
                have c84b1 : (t301 != 9) = true := bne_iff_ne.mpr c84
                exact absurd ((Option.some.inj H).trans hrt.out) (by decide)
            · rw [if_neg c83] at H
              have c83b0 : (x12_1 == 0) = false := beq_eq_false_iff_ne.mpr c83
              have c83b1 : (x12_1 != 0) = true := bne_iff_ne.mpr c83
              have HC91 := Aside0.mk H
              clear H
              have hcz92_0 : wr.cell? ⟨gb290, 0, none⟩ = some (.slice Ao13 t275.length co13) := (blk_cell BK290.out 0).trans rfl
              have hcz92_1 : wr.cell? ⟨gb290, 1, none⟩ = some (.int .i64 t278) := (blk_cell BK290.out 1).trans rfl
              have hcz92_2 : wr.cell? ⟨gb290, 2, none⟩ = some (.slice Ao16 t279.length co16) := (blk_cell BK290.out 2).trans rfl
              have hcz92_3 : wr.cell? ⟨gb290, 3, none⟩ = some (.int .i64 t296) := (blk_cell BK290.out 3).trans rfl
              have hcz92_4 : wr.cell? ⟨gb290, 4, none⟩ = some (.slice Ao17 t283.length co17) := (blk_cell BK290.out 4).trans rfl
              have hfz92_0 := blk_frozen BK290.out 0
              have hfz92_1 := blk_frozen BK290.out 1
              have hfz92_2 := blk_frozen BK290.out 2
              have hfz92_3 := blk_frozen BK290.out 3
              have hfz92_4 := blk_frozen BK290.out 4
              go_upto_region 30 with (fail)
              go_cut [170] (fun v170 wc => ∃ (kq : Nat) (x170_90 : Bool), v170 = .bool x170_90 ∧ Aside0 (swarflaw04_StripAll.j5 kq t298 x10_1 x12_1 x170_90 = some r) ∧ Aside0 (kq ≤ k1) ∧ Aside0 (Kd.R (Kd.int .i64) 3 wc w.heap.size (fun k_ => some k_ ≠ (v305 : Value).ownBlock ∧ some k_ ≠ ((.slice Ao17 t283.length co17) : Value).ownBlock) v299 t298) ∧ Aside0 (Kd.R (Kd.int .i64) 3 wc w.heap.size (fun k_ => some k_ ≠ (v299 : Value).ownBlock ∧ some k_ ≠ ((.slice Ao17 t283.length co17) : Value).ownBlock) v305 x10_1) ∧ Aside0 (Kd.S k50 50 wc w.heap.size (fun k_ => some k_ ≠ (v299 : Value).ownBlock ∧ some k_ ≠ (v305 : Value).ownBlock ∧ some k_ ≠ ((.slice Ao17 t283.length co17) : Value).ownBlock) (.slice Ao13 t275.length co13) t275) ∧ Aside0 (Kd.R k61 61 wc w.heap.size (fun _ => True) (.slice Ao16 t279.length co16) t279) ∧ Aside0 (Kd.R (Kd.int .i64) 3 wc w.heap.size (fun k_ => some k_ ≠ (v299 : Value).ownBlock ∧ some k_ ≠ (v305 : Value).ownBlock) (.slice Ao17 t283.length co17) t283) ∧ Aside0 (wc.heap[gb290]? = some (.cells #[(.slice Ao13 t275.length co13), .int .i64 t278, (.slice Ao16 t279.length co16), .int .i64 t296, (.slice Ao17 t283.length co17)] 26 (0, 0))) ∧ Aside0 (Below w.heap.size w wc))
              case first =>
                have H := HC91.out
                clear HC91
                by_cases c93 : t301 = 0
                · rw [if_pos c93] at H
                  have c93b0 : (t301 == 0) = true := beq_iff_eq.mpr c93
                  have c93b1 : (t301 != 0) = false := bne_eq_false_iff_eq.mpr c93
                  clear c93
                  (first | rw [c93b0] | (simp only [i64_w, i32_w]; rw [c93b0]) | skip)
                  by_cases c94 : t303 = 0
                  · rw [if_pos c94] at H
                    have c94b0 : (t303 == 0) = true := beq_iff_eq.mpr c94
                    have c94b1 : (t303 != 0) = false := bne_eq_false_iff_eq.mpr c94
                    clear c94
                    by_cases c95 : (t298.length : Int) = (x10_1.length : Int)
                    · rw [if_pos c95] at H
                      have c95b0 : ((t298.length : Int) == (x10_1.length : Int)) = true := beq_iff_eq.mpr c95
                      have c95b1 : ((t298.length : Int) != (x10_1.length : Int)) = false := bne_eq_false_iff_eq.mpr c95
                      have c95b2 : (t298.length == x10_1.length) = true := by first | simpa using c95 | (simp at c95 ⊢; omega)
                      clear c95
                      replace H := Option.bind_eq_some_iff.mp H
                      obtain ⟨t322, A960, H⟩ := H
                      replace H : (swarflaw04_StripAll.j5 k1 t298 x10_1 x12_1 (t302 != t322)) = some r := H
                      have A96 := Aside0.mk A960
                      clear A960
                      have H' := Aside0.mk H
                      clear H
                      obtain ⟨Ao97, co97, eo97⟩ := Kd.R_slice HO_6.out
                      subst eo97
                      obtain ⟨Ao98, co98, eo98⟩ := Kd.R_slice HO_10.out
                      subst eo98
                      go_wp2_with (first | (go_at_call 30; (with_reducible refine (swarflaw04_said.calls x11_1 x12_1 t322 _ A96.out).mono ?_); rintro e w' ⟨rfl, ⟨nd, rfl⟩⟩))
                      go_meet
                      case rel => exact ⟨_, ((t302 != t322)), (by first | rfl | (simp; done) | (simp [*]; done)), H', ⟨by have := HK1.out; first | omega | exact Nat.le_refl _⟩, ⟨by (with_reducible repeat (first | apply Kd.R_alloc | apply Kd.R_drewN | apply Kd.R_drew)); exact HO_6.out⟩, ⟨by (with_reducible repeat (first | apply Kd.R_alloc | apply Kd.R_drewN | apply Kd.R_drew)); exact HO_10.out⟩, ⟨by (with_reducible repeat (first | apply Kd.S_alloc | apply Kd.S_drewN | apply Kd.S_drew)); exact HO_291000.out⟩, ⟨by (with_reducible repeat (first | apply Kd.R_alloc | apply Kd.R_drewN | apply Kd.R_drew)); exact HO_291002.out⟩, ⟨by (with_reducible repeat (first | apply Kd.R_alloc | apply Kd.R_drewN | apply Kd.R_drew)); exact HO_291004.out⟩, ⟨by (with_reducible repeat (first | refine blk_drewN ?_ _ | refine blk_drew ?_ | refine blk_alloc ?_ _)); exact BK290.out⟩, ⟨by repeat (first | (with_reducible first | exact HB.out | apply below_alloc | apply pw_below_drewN | apply below_drew1 | refine below_set ?_ GE290.out) | exact HB.out)⟩⟩
                    · rw [if_neg c95] at H
                      have c95b0 : ((t298.length : Int) == (x10_1.length : Int)) = false := beq_eq_false_iff_ne.mpr c95
                      have c95b1 : ((t298.length : Int) != (x10_1.length : Int)) = true := bne_iff_ne.mpr c95
                      have c95b2 : (t298.length == x10_1.length) = false := by first | simpa using c95 | (simp at c95 ⊢; omega)
                      have H' := Aside0.mk H
                      clear H
                      obtain ⟨Ao99, co99, eo99⟩ := Kd.R_slice HO_6.out
                      subst eo99
                      obtain ⟨Ao100, co100, eo100⟩ := Kd.R_slice HO_10.out
                      subst eo100
                      go_wp2
                      go_meet
                      case rel => exact ⟨_, (true), (by first | rfl | (simp; done) | (simp [*]; done)), H', ⟨by have := HK1.out; first | omega | exact Nat.le_refl _⟩, ⟨by (with_reducible repeat (first | apply Kd.R_alloc | apply Kd.R_drewN | apply Kd.R_drew)); exact HO_6.out⟩, ⟨by (with_reducible repeat (first | apply Kd.R_alloc | apply Kd.R_drewN | apply Kd.R_drew)); exact HO_10.out⟩, ⟨by (with_reducible repeat (first | apply Kd.S_alloc | apply Kd.S_drewN | apply Kd.S_drew)); exact HO_291000.out⟩, ⟨by (with_reducible repeat (first | apply Kd.R_alloc | apply Kd.R_drewN | apply Kd.R_drew)); exact HO_291002.out⟩, ⟨by (with_reducible repeat (first | apply Kd.R_alloc | apply Kd.R_drewN | apply Kd.R_drew)); exact HO_291004.out⟩, ⟨by (with_reducible repeat (first | refine blk_drewN ?_ _ | refine blk_drew ?_ | refine blk_alloc ?_ _)); exact BK290.out⟩, ⟨by repeat (first | (with_reducible first | exact HB.out | apply below_alloc | apply pw_below_drewN | apply below_drew1 | refine below_set ?_ GE290.out) | exact HB.out)⟩⟩
                  · rw [if_neg c94] at H
                    have c94b0 : (t303 == 0) = false := beq_eq_false_iff_ne.mpr c94
                    have c94b1 : (t303 != 0) = true := bne_iff_ne.mpr c94
                    have H' := Aside0.mk H
                    clear H
                    go_wp2
                    go_meet
                    case rel => exact ⟨_, (true), (by first | rfl | (simp; done) | (simp [*]; done)), H', ⟨by have := HK1.out; first | omega | exact Nat.le_refl _⟩, ⟨by (with_reducible repeat (first | apply Kd.R_alloc | apply Kd.R_drewN | apply Kd.R_drew)); exact HO_6.out⟩, ⟨by (with_reducible repeat (first | apply Kd.R_alloc | apply Kd.R_drewN | apply Kd.R_drew)); exact HO_10.out⟩, ⟨by (with_reducible repeat (first | apply Kd.S_alloc | apply Kd.S_drewN | apply Kd.S_drew)); exact HO_291000.out⟩, ⟨by (with_reducible repeat (first | apply Kd.R_alloc | apply Kd.R_drewN | apply Kd.R_drew)); exact HO_291002.out⟩, ⟨by (with_reducible repeat (first | apply Kd.R_alloc | apply Kd.R_drewN | apply Kd.R_drew)); exact HO_291004.out⟩, ⟨by (with_reducible repeat (first | refine blk_drewN ?_ _ | refine blk_drew ?_ | refine blk_alloc ?_ _)); exact BK290.out⟩, ⟨by repeat (first | (with_reducible first | exact HB.out | apply below_alloc | apply pw_below_drewN | apply below_drew1 | refine below_set ?_ GE290.out) | exact HB.out)⟩⟩
                · rw [if_neg c93] at H
                  have c93b0 : (t301 == 0) = false := beq_eq_false_iff_ne.mpr c93
                  have c93b1 : (t301 != 0) = true := bne_iff_ne.mpr c93
                  (first | rw [c93b0] | (simp only [i64_w, i32_w]; rw [c93b0]) | skip)
                  have H' := Aside0.mk H
                  clear H
                  go_wp2
                  go_meet
                  case rel => exact ⟨_, (true), (by first | rfl | (simp; done) | (simp [*]; done)), H', ⟨by have := HK1.out; first | omega | exact Nat.le_refl _⟩, ⟨by (with_reducible repeat (first | apply Kd.R_alloc | apply Kd.R_drewN | apply Kd.R_drew)); exact HO_6.out⟩, ⟨by (with_reducible repeat (first | apply Kd.R_alloc | apply Kd.R_drewN | apply Kd.R_drew)); exact HO_10.out⟩, ⟨by (with_reducible repeat (first | apply Kd.S_alloc | apply Kd.S_drewN | apply Kd.S_drew)); exact HO_291000.out⟩, ⟨by (with_reducible repeat (first | apply Kd.R_alloc | apply Kd.R_drewN | apply Kd.R_drew)); exact HO_291002.out⟩, ⟨by (with_reducible repeat (first | apply Kd.R_alloc | apply Kd.R_drewN | apply Kd.R_drew)); exact HO_291004.out⟩, ⟨by (with_reducible repeat (first | refine blk_drewN ?_ _ | refine blk_drew ?_ | refine blk_alloc ?_ _)); exact BK290.out⟩, ⟨by repeat (first | (with_reducible first | exact HB.out | apply below_alloc | apply pw_below_drewN | apply below_drew1 | refine below_set ?_ GE290.out) | exact HB.out)⟩⟩
              case rest =>
                clear HC91
                try clear c2
                try clear p2
                try clear c3
                try clear p3
                try clear q3
                try clear hx3
                try clear c4
                try clear p4
                try clear q4
                try clear hx4
                try clear c5
                try clear c6
                try clear p6
                try clear c7
                try clear p7
                try clear q7
                try clear hx7
                try clear hf7
                try clear c8
                try clear c9
                try clear c28
                try clear c29
                try clear c31
                try clear p31
                try clear q31
                try clear hx31
                try clear c34
                try clear c34b0
                try clear c35
                try clear c36
                try clear c40
                try clear c40b0
                try clear c41
                try clear p43
                try clear q43
                try clear hx43
                try clear c47
                try clear c47b0
                try clear c48
                try clear c48b0
                try clear q49
                try clear c50
                try clear c51
                try clear c51b0
                try clear c52
                try clear c52b0
                try clear c53
                try clear c54
                try clear c54b0
                try clear c55
                try clear c55b0
                try clear c56
                try clear c56b0
                try clear c62
                try clear p64
                try clear c67
                try clear c68
                try clear c68b0
                try clear c69
                try clear c69b0
                try clear q70
                try clear c71
                try clear c72
                try clear c72b0
                try clear p73
                try clear q73
                try clear hx73
                try clear hf73
                try clear c78
                try clear c83
                try clear c83b0
                try clear c83b1
                try clear c84
                try clear c84b0
                try clear c84b1
                try clear c85
                try clear c85b0
                try clear c85b1
                try clear c93
                try clear c93b0
                try clear c93b1
                try clear c94
                try clear c94b0
                try clear c94b1
                try clear c95
                try clear c95b0
                try clear c95b1
                try clear c95b2
                try clear hcz26_0
                try clear hcz26_1
                try clear hcz26_2
                try clear hcz26_3
                try clear hcz26_4
                try clear hcz28_0
                try clear hcz28_1
                try clear hcz28_2
                try clear hcz28_3
                try clear hcz28_4
                try clear hcz30_0
                try clear hcz30_1
                try clear hcz30_2
                try clear hcz30_3
                try clear hcz30_4
                try clear hcz37_0
                try clear hcz37_1
                try clear hcz37_2
                try clear hcz37_3
                try clear hcz37_4
                try clear hcz57_0
                try clear hcz57_1
                try clear hcz57_2
                try clear hcz57_3
                try clear hcz57_4
                try clear hcz58_0
                try clear hcz58_1
                try clear hcz58_2
                try clear hcz58_3
                try clear hcz58_4
                try clear hcz59_0
                try clear hcz59_1
                try clear hcz59_2
                try clear hcz59_3
                try clear hcz59_4
                try clear hcz79_0
                try clear hcz79_1
                try clear hcz79_2
                try clear hcz79_3
                try clear hcz79_4
                try clear hcz81_0
                try clear hcz81_1
                try clear hcz81_2
                try clear hcz81_3
                try clear hcz81_4
                try clear hcz87_0
                try clear hcz87_1
                try clear hcz87_2
                try clear hcz87_3
                try clear hcz87_4
                try clear hcz89_0
                try clear hcz89_1
                try clear hcz89_2
                try clear hcz89_3
                try clear hcz89_4
                try clear hcz90_0
                try clear hcz90_1
                try clear hcz90_2
                try clear hcz90_3
                try clear hcz90_4
                try clear hcz92_0
                try clear hcz92_1
                try clear hcz92_2
                try clear hcz92_3
                try clear hcz92_4
                try clear hfz15_0
                try clear hfz15_1
                try clear hfz15_2
                try clear hfz15_3
                try clear hfz15_4
                try clear hfz26_0
                try clear hfz26_1
                try clear hfz26_2
                try clear hfz26_3
                try clear hfz26_4
                try clear hfz28_0
                try clear hfz28_1
                try clear hfz28_2
                try clear hfz28_3
                try clear hfz28_4
                try clear hfz30_0
                try clear hfz30_1
                try clear hfz30_2
                try clear hfz30_3
                try clear hfz30_4
                try clear hfz37_0
                try clear hfz37_1
                try clear hfz37_2
                try clear hfz37_3
                try clear hfz37_4
                try clear hfz57_0
                try clear hfz57_1
                try clear hfz57_2
                try clear hfz57_3
                try clear hfz57_4
                try clear hfz58_0
                try clear hfz58_1
                try clear hfz58_2
                try clear hfz58_3
                try clear hfz58_4
                try clear hfz59_0
                try clear hfz59_1
                try clear hfz59_2
                try clear hfz59_3
                try clear hfz59_4
                try clear hfz79_0
                try clear hfz79_1
                try clear hfz79_2
                try clear hfz79_3
                try clear hfz79_4
                try clear hfz81_0
                try clear hfz81_1
                try clear hfz81_2
                try clear hfz81_3
                try clear hfz81_4
                try clear hfz87_0
                try clear hfz87_1
                try clear hfz87_2
                try clear hfz87_3
                try clear hfz87_4
                try clear hfz89_0
                try clear hfz89_1
                try clear hfz89_2
                try clear hfz89_3
                try clear hfz89_4
                try clear hfz90_0
                try clear hfz90_1
                try clear hfz90_2
                try clear hfz90_3
                try clear hfz90_4
                try clear hfz92_0
                try clear hfz92_1
                try clear hfz92_2
                try clear hfz92_3
                try clear hfz92_4
                try clear hx311_0
                try clear hx312_0
                try clear hx312_1
                try clear hx312_2
                try clear hx312_3
                try clear hx313_0
                try clear hx313_1
                try clear hx313_2
                try clear hx313_3
                try clear hx314_0
                try clear hx315_0
                try clear hx317_0
                try clear hx318_0
                try clear hx43_0
                try clear hx73_0
                try clear p2
                try clear p3
                try clear p31
                try clear p311
                try clear p312
                try clear p313
                try clear p314
                try clear p315
                try clear p317
                try clear p318
                try clear p4
                try clear p43
                try clear p6
                try clear p64
                try clear p73
                try clear q3
                try clear q31
                try clear q311
                try clear q312
                try clear q313
                try clear q314
                try clear q315
                try clear q317
                try clear q318
                try clear q4
                try clear q43
                try clear q49
                try clear q73
                obtain ⟨kq, x170_90, rfl, HA, HJ90, HO_6, HO_10, HO_291000, HO_291002, HO_291004, BK290, HB⟩ := hcut
                cases kq with
                | zero => exact absurd HA.out (by simp [swarflaw04_StripAll.j5])
                | succ kj90 =>
                  have H := HA.out
                  clear HA
                  simp only [swarflaw04_StripAll.j5] at H
                  by_cases c101 : x170_90 = true
                  · subst c101
                    have H1 : (some false) = some r := by rw [if_pos rfl] at H; exact H
                    clear H
                    have H := H1
                    clear H1
                    exact absurd ((Option.some.inj H).trans hrt.out) (by decide)
                  · replace c101 := Bool.eq_false_iff.mpr c101
                    subst c101
                    have H1 : (swarflaw04_StripAll.l4 kj90 t298 x10_1 x12_1 0) = some r := by rw [if_neg (show ¬ (false = true) by decide)] at H; exact H
                    clear H
                    have H := H1
                    clear H1
                    have H' := Aside0.mk H
                    clear H
                    go_wp2
                    go_loopg [19] kj90 (fun kq v19 w' => ∃ (x19_3 : Int), v19 = .int .i64 x19_3 ∧ Aside0 (swarflaw04_StripAll.l4 kq t298 x10_1 x12_1 x19_3 = some r) ∧ Aside0 (kq ≤ kj90) ∧ Aside0 (Kd.R (Kd.int .i64) 3 w' w.heap.size (fun k_ => some k_ ≠ (v305 : Value).ownBlock ∧ some k_ ≠ ((.slice Ao17 t283.length co17) : Value).ownBlock) v299 t298) ∧ Aside0 (Kd.R (Kd.int .i64) 3 w' w.heap.size (fun k_ => some k_ ≠ (v299 : Value).ownBlock ∧ some k_ ≠ ((.slice Ao17 t283.length co17) : Value).ownBlock) v305 x10_1) ∧ Aside0 (Kd.S k50 50 w' w.heap.size (fun k_ => some k_ ≠ (v299 : Value).ownBlock ∧ some k_ ≠ (v305 : Value).ownBlock ∧ some k_ ≠ ((.slice Ao17 t283.length co17) : Value).ownBlock) (.slice Ao13 t275.length co13) t275) ∧ Aside0 (Kd.R k61 61 w' w.heap.size (fun _ => True) (.slice Ao16 t279.length co16) t279) ∧ Aside0 (Kd.R (Kd.int .i64) 3 w' w.heap.size (fun k_ => some k_ ≠ (v299 : Value).ownBlock ∧ some k_ ≠ (v305 : Value).ownBlock) (.slice Ao17 t283.length co17) t283) ∧ Aside0 (w'.heap[gb290]? = some (.cells #[(.slice Ao13 t275.length co13), .int .i64 t278, (.slice Ao16 t279.length co16), .int .i64 t296, (.slice Ao17 t283.length co17)] 26 (0, 0))) ∧ Aside0 (Below w.heap.size w w'))
                    case atStart => exact ⟨(0), (by first | rfl | (simp; done) | (simp [*]; done)), H', ⟨Nat.le_refl _⟩, ⟨by (with_reducible repeat (first | apply Kd.R_alloc | apply Kd.R_drewN | apply Kd.R_drew)); exact HO_6.out⟩, ⟨by (with_reducible repeat (first | apply Kd.R_alloc | apply Kd.R_drewN | apply Kd.R_drew)); exact HO_10.out⟩, ⟨by (with_reducible repeat (first | apply Kd.S_alloc | apply Kd.S_drewN | apply Kd.S_drew)); exact HO_291000.out⟩, ⟨by (with_reducible repeat (first | apply Kd.R_alloc | apply Kd.R_drewN | apply Kd.R_drew)); exact HO_291002.out⟩, ⟨by (with_reducible repeat (first | apply Kd.R_alloc | apply Kd.R_drewN | apply Kd.R_drew)); exact HO_291004.out⟩, ⟨by (with_reducible repeat (first | refine blk_drewN ?_ _ | refine blk_drew ?_ | refine blk_alloc ?_ _)); exact BK290.out⟩, ⟨by repeat (first | (with_reducible first | exact HB.out | apply below_alloc | apply pw_below_drewN | apply below_drew1 | refine below_set ?_ GE290.out) | exact HB.out)⟩⟩
                    case round =>
                      clear H'
                      try clear c1
                      try clear c2
                      try clear p2
                      try clear c3
                      try clear p3
                      try clear q3
                      try clear hx3
                      try clear c4
                      try clear p4
                      try clear q4
                      try clear hx4
                      try clear c5
                      try clear c6
                      try clear p6
                      try clear c7
                      try clear p7
                      try clear q7
                      try clear hx7
                      try clear hf7
                      try clear c8
                      try clear c9
                      try clear c10
                      try clear c28
                      try clear c29
                      try clear c31
                      try clear p31
                      try clear q31
                      try clear hx31
                      try clear c34
                      try clear c34b0
                      try clear c35
                      try clear c36
                      try clear c40
                      try clear c40b0
                      try clear c41
                      try clear p43
                      try clear q43
                      try clear hx43
                      try clear c47
                      try clear c47b0
                      try clear c48
                      try clear c48b0
                      try clear q49
                      try clear c50
                      try clear c51
                      try clear c51b0
                      try clear c52
                      try clear c52b0
                      try clear c53
                      try clear c54
                      try clear c54b0
                      try clear c55
                      try clear c55b0
                      try clear c56
                      try clear c56b0
                      try clear c62
                      try clear p64
                      try clear c67
                      try clear c68
                      try clear c68b0
                      try clear c69
                      try clear c69b0
                      try clear q70
                      try clear c71
                      try clear c72
                      try clear c72b0
                      try clear p73
                      try clear q73
                      try clear hx73
                      try clear hf73
                      try clear c78
                      try clear c83
                      try clear c83b0
                      try clear c83b1
                      try clear c84
                      try clear c84b0
                      try clear c84b1
                      try clear c85
                      try clear c85b0
                      try clear c85b1
                      try clear c93
                      try clear c93b0
                      try clear c93b1
                      try clear c94
                      try clear c94b0
                      try clear c94b1
                      try clear c95
                      try clear c95b0
                      try clear c95b1
                      try clear c95b2
                      try clear c101
                      try clear hcz26_0
                      try clear hcz26_1
                      try clear hcz26_2
                      try clear hcz26_3
                      try clear hcz26_4
                      try clear hcz28_0
                      try clear hcz28_1
                      try clear hcz28_2
                      try clear hcz28_3
                      try clear hcz28_4
                      try clear hcz30_0
                      try clear hcz30_1
                      try clear hcz30_2
                      try clear hcz30_3
                      try clear hcz30_4
                      try clear hcz37_0
                      try clear hcz37_1
                      try clear hcz37_2
                      try clear hcz37_3
                      try clear hcz37_4
                      try clear hcz57_0
                      try clear hcz57_1
                      try clear hcz57_2
                      try clear hcz57_3
                      try clear hcz57_4
                      try clear hcz58_0
                      try clear hcz58_1
                      try clear hcz58_2
                      try clear hcz58_3
                      try clear hcz58_4
                      try clear hcz59_0
                      try clear hcz59_1
                      try clear hcz59_2
                      try clear hcz59_3
                      try clear hcz59_4
                      try clear hcz79_0
                      try clear hcz79_1
                      try clear hcz79_2
                      try clear hcz79_3
                      try clear hcz79_4
                      try clear hcz81_0
                      try clear hcz81_1
                      try clear hcz81_2
                      try clear hcz81_3
                      try clear hcz81_4
                      try clear hcz87_0
                      try clear hcz87_1
                      try clear hcz87_2
                      try clear hcz87_3
                      try clear hcz87_4
                      try clear hcz89_0
                      try clear hcz89_1
                      try clear hcz89_2
                      try clear hcz89_3
                      try clear hcz89_4
                      try clear hcz90_0
                      try clear hcz90_1
                      try clear hcz90_2
                      try clear hcz90_3
                      try clear hcz90_4
                      try clear hcz92_0
                      try clear hcz92_1
                      try clear hcz92_2
                      try clear hcz92_3
                      try clear hcz92_4
                      try clear hfz15_0
                      try clear hfz15_1
                      try clear hfz15_2
                      try clear hfz15_3
                      try clear hfz15_4
                      try clear hfz26_0
                      try clear hfz26_1
                      try clear hfz26_2
                      try clear hfz26_3
                      try clear hfz26_4
                      try clear hfz28_0
                      try clear hfz28_1
                      try clear hfz28_2
                      try clear hfz28_3
                      try clear hfz28_4
                      try clear hfz30_0
                      try clear hfz30_1
                      try clear hfz30_2
                      try clear hfz30_3
                      try clear hfz30_4
                      try clear hfz37_0
                      try clear hfz37_1
                      try clear hfz37_2
                      try clear hfz37_3
                      try clear hfz37_4
                      try clear hfz57_0
                      try clear hfz57_1
                      try clear hfz57_2
                      try clear hfz57_3
                      try clear hfz57_4
                      try clear hfz58_0
                      try clear hfz58_1
                      try clear hfz58_2
                      try clear hfz58_3
                      try clear hfz58_4
                      try clear hfz59_0
                      try clear hfz59_1
                      try clear hfz59_2
                      try clear hfz59_3
                      try clear hfz59_4
                      try clear hfz79_0
                      try clear hfz79_1
                      try clear hfz79_2
                      try clear hfz79_3
                      try clear hfz79_4
                      try clear hfz81_0
                      try clear hfz81_1
                      try clear hfz81_2
                      try clear hfz81_3
                      try clear hfz81_4
                      try clear hfz87_0
                      try clear hfz87_1
                      try clear hfz87_2
                      try clear hfz87_3
                      try clear hfz87_4
                      try clear hfz89_0
                      try clear hfz89_1
                      try clear hfz89_2
                      try clear hfz89_3
                      try clear hfz89_4
                      try clear hfz90_0
                      try clear hfz90_1
                      try clear hfz90_2
                      try clear hfz90_3
                      try clear hfz90_4
                      try clear hfz92_0
                      try clear hfz92_1
                      try clear hfz92_2
                      try clear hfz92_3
                      try clear hfz92_4
                      try clear hx311_0
                      try clear hx312_0
                      try clear hx312_1
                      try clear hx312_2
                      try clear hx312_3
                      try clear hx313_0
                      try clear hx313_1
                      try clear hx313_2
                      try clear hx313_3
                      try clear hx314_0
                      try clear hx315_0
                      try clear hx317_0
                      try clear hx318_0
                      try clear hx43_0
                      try clear hx73_0
                      try clear p2
                      try clear p3
                      try clear p31
                      try clear p311
                      try clear p312
                      try clear p313
                      try clear p314
                      try clear p315
                      try clear p317
                      try clear p318
                      try clear p4
                      try clear p43
                      try clear p6
                      try clear p64
                      try clear p7
                      try clear p73
                      try clear q3
                      try clear q31
                      try clear q311
                      try clear q312
                      try clear q313
                      try clear q314
                      try clear q315
                      try clear q317
                      try clear q318
                      try clear q4
                      try clear q43
                      try clear q49
                      try clear q7
                      try clear q70
                      try clear q73
                      obtain ⟨x19_3, rfl, HA, HK3, HO_6, HO_10, HO_291000, HO_291002, HO_291004, BK290, HB⟩ := hrel
                      cases gk with
                      | zero => exact absurd HA.out (by simp [swarflaw04_StripAll.l4])
                      | succ k3 =>
                        have H := HA.out
                        clear HA
                        simp only [swarflaw04_StripAll.l4] at H
                        by_cases c102 : x19_3 < (t298.length : Int)
                        · rw [if_pos c102] at H
                          have c102b0 : decide (x19_3 < (t298.length : Int)) = true := decide_eq_true c102
                          clear c102
                          by_cases c103 : 0 ≤ x19_3
                          · rw [if_pos c103] at H
                            have c103b0 : decide (0 ≤ x19_3) = true := decide_eq_true c103
                            clear c103
                            by_cases c104 : x19_3 < (x10_1.length : Int)
                            · rw [if_pos c104] at H
                              have c104b0 : decide (x19_3 < (x10_1.length : Int)) = true := decide_eq_true c104
                              clear c104
                              replace H := Option.bind_eq_some_iff.mp H
                              obtain ⟨t325, A1050, H⟩ := H
                              replace H : (if (rd t298 x19_3) = t325 then (swarflaw04_StripAll.l4 k3 t298 x10_1 x12_1 (wrap64 (x19_3 + 1))) else (some false)) = some r := H
                              have A105 := Aside0.mk A1050
                              clear A1050
                              by_cases c106 : (rd t298 x19_3) = t325
                              · rw [if_pos c106] at H
                                have c106b0 : ((rd t298 x19_3) == t325) = true := beq_iff_eq.mpr c106
                                have c106b1 : ((rd t298 x19_3) != t325) = false := bne_eq_false_iff_eq.mpr c106
                                clear c106
                                have H' := Aside0.mk H
                                clear H
                                obtain ⟨Ao107, co107, eo107⟩ := Kd.R_slice HO_6.out
                                subst eo107
                                try go_wp2
                                have n0_ := Aside0.mk (Kd.R_drew HO_6.out)
                                have n1_ := Aside0.mk (Kd.R_drew HO_10.out)
                                have n2_ := Aside0.mk (Kd.S_drew HO_291000.out)
                                have n3_ := Aside0.mk (Kd.R_drew HO_291002.out)
                                have n4_ := Aside0.mk (Kd.R_drew HO_291004.out)
                                have n5_ := Aside0.mk (blk_drew BK290.out)
                                have n6_ := Aside0.mk (below_drew1 HB.out)
                                clear HO_6
                                clear HO_10
                                clear HO_291000
                                clear HO_291002
                                clear HO_291004
                                clear BK290
                                clear HB
                                have HO_6 := n0_
                                have HO_10 := n1_
                                have HO_291000 := n2_
                                have HO_291002 := n3_
                                have HO_291004 := n4_
                                have BK290 := n5_
                                have HB := n6_
                                clear n0_ n1_ n2_ n3_ n4_ n5_ n6_
                                have p323 : 0 ≤ (x19_3 : Int) := of_decide_eq_true (by first | (with_reducible assumption) | assumption)
                                have q323 : x19_3 < (t298.length : Int) := of_decide_eq_true (by first | (with_reducible assumption) | assumption)
                                obtain ⟨ad323, e323, hx323_0⟩ := Kd.at_int (Kd.R_reads' HO_6.out).2.2 x19_3 p323 q323
                                cases e323
                                replace p323 := eq_true p323
                                replace q323 := eq_true q323
                                obtain ⟨Ao109, co109, eo109⟩ := Kd.R_slice HO_10.out
                                (first | subst eo109 | (injection eo109 with f1_ f2_ f3_; have f4_ := f1_.symm; have f5_ := f3_.symm; clear f1_ f2_ f3_; subst f4_; subst f5_))
                                have p324 : 0 ≤ (x19_3 : Int) := of_decide_eq_true (by first | (with_reducible assumption) | assumption)
                                have q324 : x19_3 < (x10_1.length : Int) := of_decide_eq_true (by first | (with_reducible assumption) | assumption)
                                obtain ⟨ad324, e324, hx324_0⟩ := Kd.at_int (Kd.R_reads' HO_10.out).2.2 x19_3 p324 q324
                                cases e324
                                replace p324 := eq_true p324
                                replace q324 := eq_true q324
                                refine start_ (n := 11) (S := fun w' => w'.cell? (ad323.add (x19_3).toNat) = some (.int .i64 (rd t298 x19_3)) ∧ w'.cell? (ad324.add (x19_3).toNat) = some (.int .i64 (rd x10_1 x19_3))) (ds := []) #[false, false, false, false, false, false, false, false, false, false, false] (by kernel_rfl) rfl rfl ⟨hx323_0, hx324_0⟩ (fun hHeld => ?_); refine with_tabW swarflaw04_StripAll.tab35 swarflaw04_StripAll.bits35 (fun HT_ HW_ => ?_)
                                generalize wr.drew = w108 at HO_6 HO_10 HO_291000 HO_291002 HO_291004 BK290 HB hx323_0 hx324_0 hHeld ⊢
                                refine pure_ (i := 0) (N := some 177) (v := ?_) (a' := ?_) #[true, false, false, false, false, false, false, false, false, false, false] rfl rfl (any_of HT_.out (by kernel_rfl)) (fun _ _ _ h => h) (Or.inl ⟨by rfl, ?_⟩) ?_ ?_
                                rotate_left
                                · intro w'
                                  go_simp
                                  with_reducible rfl
                                rotate_left
                                · simp only [Act.put, List.setIfInBounds_toArray, List.set_cons_zero, List.set_cons_succ, i64_w, i32_w]
                                  rfl
                                refine pure_ (i := 1) (N := some 178) (v := ?_) (a' := ?_) #[true, true, false, false, false, false, false, false, false, false, false] rfl rfl (any_of HT_.out (by kernel_rfl)) (fun _ _ _ h => h) (Or.inl ⟨by rfl, ?_⟩) ?_ ?_
                                rotate_left
                                · intro w'
                                  go_simp
                                  with_reducible rfl
                                rotate_left
                                · simp only [Act.put, List.setIfInBounds_toArray, List.set_cons_zero, List.set_cons_succ, i64_w, i32_w]
                                  rfl
                                refine pure_ (i := 2) (N := some 179) (v := ?_) (a' := ?_) #[true, true, true, false, false, false, false, false, false, false, false] rfl rfl (any_of HT_.out (by kernel_rfl)) (fun _ _ _ h => h) (Or.inl ⟨by rfl, ?_⟩) ?_ ?_
                                rotate_left
                                · intro w'
                                  go_simp
                                  with_reducible rfl
                                rotate_left
                                · simp only [Act.put, List.setIfInBounds_toArray, List.set_cons_zero, List.set_cons_succ, i64_w, i32_w]
                                  rfl
                                refine pure_ (i := 4) (N := some 181) (v := ?_) (a' := ?_) #[true, true, true, false, true, false, false, false, false, false, false] rfl rfl (any_of HT_.out (by kernel_rfl)) (fun _ _ _ h => h) (Or.inl ⟨by rfl, ?_⟩) ?_ ?_
                                rotate_left
                                · intro w'
                                  go_simp
                                  with_reducible rfl
                                rotate_left
                                · simp only [Act.put, List.setIfInBounds_toArray, List.set_cons_zero, List.set_cons_succ, i64_w, i32_w]
                                  rfl
                                refine pure_ (i := 5) (N := some 182) (v := ?_) (a' := ?_) #[true, true, true, false, true, true, false, false, false, false, false] rfl rfl (any_of HT_.out (by kernel_rfl)) (fun _ _ _ h => h) (Or.inl ⟨by rfl, ?_⟩) ?_ ?_
                                rotate_left
                                · intro w'
                                  go_simp
                                  with_reducible rfl
                                rotate_left
                                · simp only [Act.put, List.setIfInBounds_toArray, List.set_cons_zero, List.set_cons_succ, i64_w, i32_w]
                                  rfl
                                refine pure_ (i := 6) (N := some 183) (v := ?_) (a' := ?_) #[true, true, true, false, true, true, true, false, false, false, false] rfl rfl (any_of HT_.out (by kernel_rfl)) (fun _ _ _ h => h) (Or.inl ⟨by rfl, ?_⟩) ?_ ?_
                                rotate_left
                                · intro w'
                                  go_simp
                                  with_reducible rfl
                                rotate_left
                                · simp only [Act.put, List.setIfInBounds_toArray, List.set_cons_zero, List.set_cons_succ, i64_w, i32_w]
                                  rfl
                                refine pure_ (i := 8) (N := some 185) (v := ?_) (a' := ?_) #[true, true, true, false, true, true, true, false, true, false, false] rfl rfl (any_of HT_.out (by kernel_rfl)) (fun _ _ _ h => h) (Or.inl ⟨by rfl, ?_⟩) ?_ ?_
                                rotate_left
                                · intro w'
                                  go_simp
                                  with_reducible rfl
                                rotate_left
                                · simp only [Act.put, List.setIfInBounds_toArray, List.set_cons_zero, List.set_cons_succ, i64_w, i32_w]
                                  rfl
                                refine take_ (i := 3) (N := some 180) (v := ?_) (a' := ?_) #[true, true, true, true, true, true, true, false, true, false, false] rfl rfl (take_ofW HT_.out HW_.out (by kernel_rfl)) (fun _ _ _ h => h) (Or.inl ⟨by rfl, ?_⟩) hHeld ?_ ?_
                                rotate_left
                                · rintro w' ⟨s0, s1⟩
                                  go_simp
                                  with_reducible rfl
                                rotate_left
                                · simp only [Act.put, List.setIfInBounds_toArray, List.set_cons_zero, List.set_cons_succ, i64_w, i32_w]
                                  rfl
                                refine take_ (i := 7) (N := some 184) (v := ?_) (a' := ?_) #[true, true, true, true, true, true, true, true, true, false, false] rfl rfl (take_ofW HT_.out HW_.out (by kernel_rfl)) (fun _ _ _ h => h) (Or.inl ⟨by rfl, ?_⟩) hHeld ?_ ?_
                                rotate_left
                                · rintro w' ⟨s0, s1⟩
                                  go_simp
                                  with_reducible rfl
                                rotate_left
                                · simp only [Act.put, List.setIfInBounds_toArray, List.set_cons_zero, List.set_cons_succ, i64_w, i32_w]
                                  rfl
                                refine one_ (i := 9) (N := some 186) #[true, true, true, true, true, true, true, true, true, true, false] rfl rfl (one_of HT_.out (by kernel_rfl)) (by decide) (fun K hK => ?_)
                                refine goes_ Try.func30 (by kernel_rfl) rfl #[.int .i64 (rd x10_1 x19_3), .int .i64 x12_1] (by rfl) rfl rfl (by (try simp only [List.map_toArray, List.map_cons, List.map_nil]); first | done | rfl | (simp only [List.length_drop, List.length_take]; rfl)) ?_
                                with_reducible refine (swarflaw04_said.calls (rd x10_1 x19_3) x12_1 t325 _ A105.out).mono ?_
                                rintro e w' ⟨rfl, ⟨nd, rfl⟩⟩
                                refine ⟨_, rfl, ?_⟩
                                refine hK.out _ _ ⟨hHeld.1, hHeld.2⟩ (fun hHeld => ?_)
                                clear hK K
                                refine norm_ (a' := ?_) ?_ ?_
                                rotate_left
                                · show Act.put _ (some 186) _ = _
                                  simp only [Act.put, List.setIfInBounds_toArray, List.set_cons_zero, List.set_cons_succ, i64_w, i32_w]
                                  rfl
                                refine pure_ (i := 10) (N := some 187) (v := ?_) (a' := ?_) #[true, true, true, true, true, true, true, true, true, true, true] rfl rfl (any_of HT_.out (by kernel_rfl)) (fun _ _ _ h => h) (Or.inl ⟨by rfl, ?_⟩) ?_ ?_
                                rotate_left
                                · intro w'
                                  go_simp
                                  with_reducible rfl
                                rotate_left
                                · simp only [Act.put, List.setIfInBounds_toArray, List.set_cons_zero, List.set_cons_succ, i64_w, i32_w]
                                  rfl
                                refine done_ (done_of HT_.out (by kernel_rfl)) ?_
                                try go_wp2
                                go_roundg k3
                                case measure => have := HK1.out; have := HJ90.out; have := HK3.out; omega
                                case rel => exact ⟨(wrap64 (x19_3 + 1)), (by first | rfl | (simp; done) | (simp [*]; done)), H', ⟨by have := HK1.out; have := HJ90.out; have := HK3.out; omega⟩, ⟨by (with_reducible repeat (first | apply Kd.R_alloc | apply Kd.R_drewN | apply Kd.R_drew)); exact HO_6.out⟩, ⟨by (with_reducible repeat (first | apply Kd.R_alloc | apply Kd.R_drewN | apply Kd.R_drew)); exact HO_10.out⟩, ⟨by (with_reducible repeat (first | apply Kd.S_alloc | apply Kd.S_drewN | apply Kd.S_drew)); exact HO_291000.out⟩, ⟨by (with_reducible repeat (first | apply Kd.R_alloc | apply Kd.R_drewN | apply Kd.R_drew)); exact HO_291002.out⟩, ⟨by (with_reducible repeat (first | apply Kd.R_alloc | apply Kd.R_drewN | apply Kd.R_drew)); exact HO_291004.out⟩, ⟨by (with_reducible repeat (first | refine blk_drewN ?_ _ | refine blk_drew ?_ | refine blk_alloc ?_ _)); exact BK290.out⟩, ⟨by repeat (first | (with_reducible first | exact HB.out | apply below_alloc | apply pw_below_drewN | apply below_drew1 | refine below_set ?_ GE290.out) | exact HB.out)⟩⟩
                              · rw [if_neg c106] at H
                                have c106b0 : ((rd t298 x19_3) == t325) = false := beq_eq_false_iff_ne.mpr c106
                                have c106b1 : ((rd t298 x19_3) != t325) = true := bne_iff_ne.mpr c106
                                exact absurd ((Option.some.inj H).trans hrt.out) (by decide)
                            · rw [if_neg c104] at H
                              exact absurd H (by simp)
                          · rw [if_neg c103] at H
                            exact absurd H (by simp)
                        · rw [if_neg c102] at H
                          have c102b0 : decide (x19_3 < (t298.length : Int)) = false := decide_eq_false c102
                          clear c102
                          replace H := Option.bind_eq_some_iff.mp H
                          obtain ⟨t326, A1130, H⟩ := H
                          replace H : (some t326) = some r := H
                          have A113 := Aside0.mk A1130
                          clear A1130
                          obtain rfl := Option.some.inj H
                          obtain ⟨Ao114, co114, eo114⟩ := Kd.R_slice HO_6.out
                          subst eo114
                          go_wp2_with (first | ((with_reducible refine gate_callee (f := 16) rfl ?_); refine goesL_ (some 188) rfl rfl Try.func16 (by kernel_rfl) rfl #[] rfl (by (try simp only [List.map_toArray, List.map_cons, List.map_nil]); first | done | rfl | (simp only [List.length_drop, List.length_take]; rfl)) ?_; (with_reducible refine (swarflaw04_awake.calls k3  t326 _ A113.out).mono ?_); rintro e w115 ⟨rfl, hb⟩; refine ⟨_, rfl, ?_⟩; have n0_ := Aside0.mk (Kd.R_below (by (with_reducible repeat (first | apply Kd.R_alloc | apply Kd.R_drewN | apply Kd.R_drew)); exact HO_6.out) hb); have n1_ := Aside0.mk (Kd.R_below (by (with_reducible repeat (first | apply Kd.R_alloc | apply Kd.R_drewN | apply Kd.R_drew)); exact HO_10.out) hb); have n2_ := Aside0.mk (Kd.S_below (by (with_reducible repeat (first | apply Kd.S_alloc | apply Kd.S_drewN | apply Kd.S_drew)); exact HO_291000.out) hb); have n3_ := Aside0.mk (Kd.R_below (by (with_reducible repeat (first | apply Kd.R_alloc | apply Kd.R_drewN | apply Kd.R_drew)); exact HO_291002.out) hb); have n4_ := Aside0.mk (Kd.R_below (by (with_reducible repeat (first | apply Kd.R_alloc | apply Kd.R_drewN | apply Kd.R_drew)); exact HO_291004.out) hb); have n5_ := Aside0.mk (blk_below (g := gb290) (o := .cells #[.slice Ao13 t275.length co13, .int .i64 t278, .slice Ao16 t279.length co16, .int .i64 t296, .slice Ao17 t283.length co17] 26 (0, 0)) (by (with_reducible repeat (first | refine blk_drewN ?_ _ | refine blk_drew ?_ | refine blk_alloc ?_ _)); exact BK290.out) hb); have n6_ := Aside0.mk (below_step (by repeat (first | (with_reducible first | exact HB.out | apply below_alloc | apply pw_below_drewN | apply below_drew1 | refine below_set ?_ GE290.out) | exact HB.out)) hb); clear HO_6; clear HO_10; clear HO_291000; clear HO_291002; clear HO_291004; clear BK290; clear HB; have HO_6 := n0_; have HO_10 := n1_; have HO_291000 := n2_; have HO_291002 := n3_; have HO_291004 := n4_; have BK290 := n5_; have HB := n6_; clear n0_ n1_ n2_ n3_ n4_ n5_ n6_; (try clear hb); (try clear hb2); (try clear hk); (try clear hi)))
                          go_ret
                          exact ⟨by first | rfl | (simp [errW_none, errW_some] <;> rfl) | (simp only [← hji33]; first | rfl | (simp [errW_none, errW_some] <;> rfl)) | (simp [*, errW_none, errW_some] <;> rfl), by repeat (first | (with_reducible first | exact HB.out | apply below_alloc | apply pw_below_drewN | apply below_drew1 | refine below_set ?_ GE290.out) | exact HB.out)⟩
    · rw [if_neg c9] at H
      exact absurd H (by simp)
  · rw [if_neg c8] at H
    exact absurd H (by simp)
def swarflaw04_StripAll.Pure : Prop := ∀ (l0 : List Int), l0.length ≤ maxLen → l0.length * 8 ≤ 140737488351232 → (∀ x ∈ l0, (Lit.int .i64 x).wf = true) → ∃ k, swarflaw04_StripAll.f k l0 = some true
theorem swarflaw04_StripAll.walk (P : swarflaw04_StripAll.Pure) (a0 : Option Addr) (len0 cap0 : Nat) (z0 : List Int) (w : World) (w0 : (a0 = none ∧ len0 = 0 ∧ cap0 = 0 ∧ z0 = []) ∨ ∃ x, a0 = some x ∧ len0 ≤ cap0 ∧ cap0 ≤ maxLen ∧ z0.length = cap0 ∧ (∀ i, i < z0.length → w.cell? (x.add i) = some (.int .i64 (z0.getD i 0))) ∧ ∀ n ∈ z0, (Lit.int .i64 n).wf = true) (y0 : len0 * 8 ≤ 140737488351232) :
    Calls Try.prog 4 #[.slice a0 len0 cap0] w fun e w' => e = .returned (.bool true) ∧ Below w.heap.size w w' := by
  obtain ⟨l0, rfl, hr0, hm0, hw0, hc0⟩ := ReadsInt.ofRowC w0
  obtain ⟨k, h⟩ := P l0 hm0 y0 hw0
  refine (swarflaw04_StripAll.calls k _ _ l0 true ⟨rfl⟩ w (Kd.C_of_reads (d := (0 : Int)) (h1 := fun _ => rfl) hr0) hc0 h).mono ?_
  rintro e w' ⟨rfl, hd⟩
  exact ⟨rfl, hd⟩
end Go.Proofs.Ytkkmfcdikkiodaa.PC4
namespace Go.Proofs.Ytkkmfcdikkiodaa.PC4
set_option linter.unusedVariables false
open Go.RowKit Go.Proofs.YtkkmfcdikkiodaaW.PrintWords Go.Proofs.YtkkmfcdikkiodaaW.PrintLast Go.Proofs.YtkkmfcdikkiodaaW.PrintMore
theorem badGo_bit (l : List S50) : ∀ i s k, (badGo i s l).testBit k = (s.testBit k || (decide (i ≤ k) && (l.getD (k - i) z50).f1)) := by
  induction l with
  | nil => intro i s k; simp [badGo, z50]
  | cons p l ih =>
    intro i s k
    rw [badGo, ih]
    by_cases h1 : i + 1 ≤ k
    · have h2 : i ≤ k := by omega
      have h3 : k - i = (k - (i + 1)) + 1 := by omega
      have hne : ¬ i = k := by omega
      rw [h3, List.getD_cons_succ]
      simp only [h1, h2, decide_true, Bool.true_and]
      cases hp : p.f1 with
      | false => simp
      | true => simp [Nat.testBit_or, Nat.testBit_two_pow, hne]
    · by_cases h2 : i = k
      · subst h2
        simp only [h1, decide_false, Bool.false_and, Bool.or_false, Nat.le_refl, decide_true, Bool.true_and, Nat.sub_self, List.getD_cons_zero]
        cases hp : p.f1 with
        | false => simp
        | true => simp [Nat.testBit_or, Nat.testBit_two_pow]
      · have h3 : ¬ i ≤ k := by omega
        simp only [h1, h3, decide_false, Bool.false_and, Bool.or_false]
        cases hp : p.f1 with
        | false => simp
        | true => simp [Nat.testBit_or, Nat.testBit_two_pow, h2]
theorem badMask_bit (parts : List S50) (k : Nat) : (badMask parts).testBit k = (parts.getD k z50).f1 := by
  unfold badMask
  rw [badGo_bit]
  simp
theorem bad_lt (parts : List S50) (h : parts.length ≤ 16) : badMask parts < 65536 := badGo_lt parts 0 0 (by omega) (by decide)
structure TruthSet (parts : List S50) (T : List Nat) : Prop where
  ne : T ≠ []
  few : parts.length ≤ 9
  pok : ∀ i, i < parts.length → PartOK i (parts.getD i z50)
  lt : ∀ s, s ∈ T → s < 65536
  ok : ∀ s, s ∈ T → ∀ i, i < parts.length → s.testBit i = true → ∀ x, x ∈ (parts.getD i z50).f0 → s.testBit x.toNat = true
def partV (T : List Nat) (i : Nat) : Int := verdictS (setsI T) (rawHas (i : Int))
def carV (parts : List S50) (T : List Nat) : Int := verdictS (setsI T) (rawAll (badMask parts : Nat))
theorem outL_getD (n : Nat) (T : List Nat) {i : Nat} (h : i < n) : (outL n T).getD i 0 = partV T i := by
  have hl : i < (outL n T).length := by rw [outL_len]; exact h
  rw [List.getD, List.getElem?_eq_getElem hl]
  simp [outL, partV]
theorem sub_bad {parts : List S50} (s : Nat) : subM (badMask parts) s = true ↔ ∀ i, i < parts.length → (parts.getD i z50).f1 = true → s.testBit i = true := by
  rw [subM_iff]
  constructor
  · intro h i _ hb
    exact h i (by rw [badMask_bit]; exact hb)
  · intro h i hb
    rw [badMask_bit] at hb
    refine h i ?_ hb
    rcases Nat.lt_or_ge i parts.length with h1 | h1
    · exact h1
    · rw [List.getD, List.getElem?_eq_none h1] at hb
      cases hb
theorem truthSet {parts : List S50} {looks : List S61} {wrong : Int} (h9 : parts.length ≤ 9) (hp : ∀ i, i < parts.length → PartOK i (parts.getD i z50)) (hne : truthsL parts looks wrong ≠ []) : TruthSet parts (truthsL parts looks wrong) :=
  ⟨hne, h9, hp, fun s hs => by have h1 := ((mem_truths s).1 hs).1; have h2 := pow_le_512 h9; omega, fun s hs => (okM_iff hp s).1 ((mem_truths s).1 hs).2.1⟩
theorem CarGood.set {a1 a2 : Int} {parts : List S50} {swap : Int} {looks : List S61} {wrong : Int} {needs : List Int} {st : List Bool} (h : CarGood a1 a2 parts swap looks wrong needs st) (h9 : a1 ≤ 9) : TruthSet parts (truthsL parts looks wrong) :=
  truthSet (by have := h.few; omega) h.p.ok (fun e => by have := h.truth; rw [e] at this; cases this)
theorem CarGood.out {a1 a2 : Int} {parts : List S50} {swap : Int} {looks : List S61} {wrong : Int} {needs : List Int} {st : List Bool} (h : CarGood a1 a2 parts swap looks wrong needs st) (h9 : a1 ≤ 9) (h12 : a2 ≤ 12) :
    strip_Out.f parts swap looks wrong needs = some (outL parts.length (truthsL parts looks wrong), 0) := by
  unfold strip_Out.f outE
  rw [if_pos (h.fits h9 h12), if_pos (h.check h9 h12), if_neg (h.set h9).ne]
end Go.Proofs.Ytkkmfcdikkiodaa.PC4
namespace Go.Proofs.Ytkkmfcdikkiodaa.PC4
open Go.RowKit Go.Proofs.YtkkmfcdikkiodaaW.PrintWords Go.Proofs.YtkkmfcdikkiodaaW.PrintLast Go.Proofs.YtkkmfcdikkiodaaW.PrintMore
attribute [local go_sem] max2_int min2_int max_two min_two max_three min_three max_four min_four
set_option linter.unusedVariables false
set_option linter.unusedSimpArgs false
def swarfkit_Ints.f (l0 : List Int) : Option (List Int) := (some (([] : List Int) : List Int)).bind fun y463 => (if y463.length + l0.length < 17592186044416 then (some (y463 ++ l0)) else (none))
set_option maxHeartbeats 8000000 in
set_option maxRecDepth 100000 in
theorem swarfkit_Ints.calls (A0 : Option Addr) (c0 : Nat) (l0 : List Int) (r : List Int) (w : World) (hr0 : Kd.C (Kd.int .i64) w A0 l0.length l0) (hc0 : l0.length ≤ c0) (h : swarfkit_Ints.f l0 = some r) :
    Calls Try.prog 43 #[.slice A0 l0.length c0] w fun e w' => ∃ v0_ : Value, e = .returned (v0_) ∧ Kd.R (Kd.int .i64) 3 w' w.heap.size (fun _ => True) v0_ r ∧ Below w.heap.size w w' := by
  have HR0 := Aside0.mk hr0
  have HC0 := Aside0.mk hc0
  clear hr0 hc0
  have HB := Aside0.mk (Below.refl w.heap.size w)
  have H : ((some (([] : List Int) : List Int)).bind fun y463 => (if y463.length + l0.length < 17592186044416 then (some (y463 ++ l0)) else (none))) = some r := h
  clear h
  obtain ⟨y463, hy463⟩ : ∃ y_ : List Int, y_ = (([] : List Int)) := ⟨_, rfl⟩
  replace H : (if y463.length + l0.length < 17592186044416 then (some (y463 ++ l0)) else (none)) = some r := by first | (rw [hy463]; with_reducible exact H) | (have H2_ := (Option.bind_some _ _).symm.trans H; rw [hy463]; with_reducible exact H2_) | (have H2_ := (Option.bind_some _ _).symm.trans H; with_reducible exact H2_) | with_reducible exact H | (rw [hy463]; exact H) | exact H
  have Ny463 := Aside0.mk hy463
  clear hy463
  by_cases c2 : y463.length + l0.length < 17592186044416
  · rw [if_pos c2] at H
    have LMc2 := Aside0.mk c2
    clear c2
    obtain ⟨y466, hy466⟩ : ∃ y_ : List Int, y_ = (y463 ++ l0) := ⟨_, rfl⟩
    replace H : (some y466) = some r := by first | (rw [hy466]; with_reducible exact H) | (have H2_ := (Option.bind_some _ _).symm.trans H; rw [hy466]; with_reducible exact H2_) | (have H2_ := (Option.bind_some _ _).symm.trans H; with_reducible exact H2_) | with_reducible exact H | (rw [hy466]; exact H) | exact H
    have Ny466 := Aside0.mk hy466
    clear hy466
    obtain rfl := Option.some.inj H
    go_enter Try.func43, Try.ntmps43
    go_wp2_with (first | ((with_reducible refine gate_dst (N := 3) rfl ?_); refine Kd.R_lit (Kd.int .i64) _ 3 ?hg (N := 3) ?hd (xs := ([] : List Int)) (inner := []) (ok := fun _ => True) (okp := fun _ => True) ?hr ?hp (fun _ hk => hk) trivial (Below.refl _ _) (Nat.le_refl _) (by simp) ?_; (case hd => rfl); (case hg => rfl); (case hr => first | (go_simp; done) | (go_simp; rfl)); (case hp => exact (Reps.none _ _)); intro v464 w3 ho4 hb hg_ hnew_; clear hg_ hnew_; (first | rw [← Ny463.out] at ho4 | (simp only [Int.reduceToNat] at ho4; rw [← Ny463.out] at ho4)); have n0_ := Aside0.mk (Kd.R_lower ho4 (below_size (by repeat (first | (with_reducible first | exact HB.out | apply below_alloc | apply pw_below_drewN | apply below_drew1) | exact HB.out)))); have n1_ := Aside0.mk (below_step (by repeat (first | (with_reducible first | exact HB.out | apply below_alloc | apply pw_below_drewN | apply below_drew1) | exact HB.out)) hb); clear HB; have HO465 := n0_; have HB := n1_; clear n0_ n1_; clear hb ho4) | ((with_reducible refine gate_builtin (b := .append) (xs := #[.tmp 3, .tmp 4]) rfl ?_); at_builtin; refine Kd.R_append_rows (Kd.int .i64) (w0 := w) w.heap.size rfl (.tmp 3) (.tmp 4) 24 3 (.int .i64 0) 8 rfl Try.underlying24 info3 rfl (by decide) (by omega) v464 y463 l0 _ _ _ (fun _ => True) (fun _ => False) rfl rfl ?aO ?aR (fun _ _ h => h) (fun _ h => h.elim) ?aF ?aB ?aS ?aL ?_; (case aR => repeat (first | exact (Kd.C_below HR0.out HB.out) | (with_reducible refine Kd.C_alloc ?_ _) | (with_reducible refine Kd.C_drewN ?_ _) | (with_reducible refine Kd.C_drew ?_))); (case aB => exact (by repeat (first | (with_reducible first | exact HB.out | apply below_alloc | apply pw_below_drewN | apply below_drew1) | exact HB.out))); (case aF => exact (fun _ _ => trivial)); (case aO => exact (by (with_reducible repeat (first | apply Kd.R_alloc | apply Kd.R_drewN | apply Kd.R_drew)); exact HO465.out)); (case aS => exact (below_size (by repeat (first | (with_reducible first | exact HB.out | apply below_alloc | apply pw_below_drewN | apply below_drew1) | exact HB.out)))); (case aL => have := LMc2.out; omega); intro v467 w5 ho hb hg hat; rw [← Ny466.out] at ho; have n0_ := Aside0.mk (hb); have n1_ := Aside0.mk (ho); clear HB; clear HO465; have HB := n0_; have HO468 := n1_; clear n0_ n1_; clear ho hb hg hat))
    go_ret
    exact ⟨_, by first | rfl | (simp [errW_none, errW_some] <;> rfl) | (simp [*, errW_none, errW_some] <;> rfl), by (with_reducible repeat (first | apply Kd.R_alloc | apply Kd.R_drewN | apply Kd.R_drew)); exact HO468.out, by repeat (first | (with_reducible first | exact HB.out | apply below_alloc | apply pw_below_drewN | apply below_drew1) | exact HB.out)⟩
  · rw [if_neg c2] at H
    exact absurd H (by simp)
end Go.Proofs.Ytkkmfcdikkiodaa.PC4
