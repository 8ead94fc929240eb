/- Lemmas on the way to this: No car that Crush lets go is not clean, in any truth, and none goes without its papers: for every list of numbers of the size that Go can hold. -/
import Derived.Test.YtkkmfcdikkiodaaCStripSafe1
import Derived.Test.YtkkmfcdikkiodaaCStripSafe2
import Derived.Test.YtkkmfcdikkiodaaCStripSafe5
import Derived.Test.YtkkmfcdikkiodaaCStripSafe4
import Derived.Test.YtkkmfcdikkiodaaCStripSafe3
namespace Go.Proofs.Ytkkmfcdikkiodaa.PC4
open Go.RowKit Go.Proofs.YtkkmfcdikkiodaaW.PrintWords Go.Proofs.YtkkmfcdikkiodaaW.PrintLast Go.Proofs.YtkkmfcdikkiodaaW.PrintMore
attribute [local go_sem] max2_int min2_int max_two min_two max_three min_three max_four min_four
set_option linter.unusedVariables false
set_option linter.unusedSimpArgs false
mutual
def swarflaw04_StripSafe.l0 : Nat → List Bool → Int → Int → List (S50) → Int → List (S61) → Int → List Int → Option (Bool)
  | 0, _, _, _, _, _, _, _, _ => none
  | k + 1, x5, x6, x653000, x669000, x669001, x669002, x669003, x669004 => if x6 < (x669000.length : Int) then (if 0 ≤ x6 then (if (rd_T50 x669000 x6).f1 = true then ((swarfkit_Feed_Often.f x653000 2 3).bind fun bt670 => (swarflaw04_StripSafe.l0 k x5 (wrap64 (x6 + 1)) bt670.2 (x669000.set (x6 : Int).toNat (⟨(rd_T50 x669000 x6).f0, bt670.1, (rd_T50 x669000 x6).f2, (rd_T50 x669000 x6).f3⟩ : S50)) x669001 x669002 x669003 x669004)) else (swarflaw04_StripSafe.l0 k x5 (wrap64 (x6 + 1)) x653000 (x669000.set (x6 : Int).toNat (⟨(rd_T50 x669000 x6).f0, false, (rd_T50 x669000 x6).f2, (rd_T50 x669000 x6).f3⟩ : S50)) x669001 x669002 x669003 x669004)) else (none)) else ((swarfkit_Feed_Order.f k x653000 9).bind fun bt674 => ((swarfkit_Feed_Between.f bt674.2 0 9).bind fun bt678 => (if 0 ≤ bt678.1 then (if bt678.1 ≤ (bt674.1.length : Int) then ((some (bt674.1.take (bt678.1 : Int).toNat : List Int)).bind fun y680 => ((strip_Crush.f x669000 x669001 x669002 x669003 x669004 y680).bind fun t685 => (swarflaw04_StripSafe.l1 k x5 y680 t685 true 0 x669000 x669001 x669002 x669003 x669004))) else (none)) else (none))))
def swarflaw04_StripSafe.l1 : Nat → List Bool → List Int → Int → Bool → Int → List (S50) → Int → List (S61) → Int → List Int → Option (Bool)
  | 0, _, _, _, _, _, _, _, _, _, _ => none
  | k + 1, x5, x7, x8, x9, x10, x669000, x669001, x669002, x669003, x669004 => if x10 < (x669004.length : Int) then (if x9 = true then (if 0 ≤ x10 then ((swarfkit_Among.f k x7 (rd x669004 x10)).bind fun t687 => (swarflaw04_StripSafe.l1 k x5 x7 x8 t687 (wrap64 (x10 + 1)) x669000 x669001 x669002 x669003 x669004)) else (none)) else (swarflaw04_StripSafe.l1 k x5 x7 x8 false (wrap64 (x10 + 1)) x669000 x669001 x669002 x669003 x669004)) else ((swarfref04_Truths.f k x669000 x669001 x669002 x669003 x669004).bind fun t688 => (swarflaw04_StripSafe.l2 k x5 x8 x9 true t688 0 x669000 x669001 x669002 x669003 x669004))
def swarflaw04_StripSafe.l2 : Nat → List Bool → Int → Bool → Bool → List (List Bool) → Int → List (S50) → Int → List (S61) → Int → List Int → Option (Bool)
  | 0, _, _, _, _, _, _, _, _, _, _, _ => none
  | k + 1, x5, x8, x9, x11, x12, x13, x669000, x669001, x669002, x669003, x669004 => if x13 < (x12.length : Int) then (if x11 = true then (if 0 ≤ x13 then ((swarfref04_IsClean.f k x669000 x669001 x669002 x669003 x669004 (rd_L5 x12 x13)).bind fun t692 => (swarflaw04_StripSafe.l2 k x5 x8 x9 t692 x12 (wrap64 (x13 + 1)) x669000 x669001 x669002 x669003 x669004)) else (none)) else (swarflaw04_StripSafe.l2 k x5 x8 x9 false x12 (wrap64 (x13 + 1)) x669000 x669001 x669002 x669003 x669004)) else (if x9 = true then (if x11 = true then (if x8 = 0 then ((swarfref04_IsClean.f k x669000 x669001 x669002 x669003 x669004 x5).bind fun t693 => (if t693 = true then ((swarflaw04_awake.f k).bind fun t694 => (some t694)) else (some false))) else (some false)) else (if x8 = 15 then ((swarflaw04_awake.f k).bind fun t695 => (some t695)) else (some false))) else (if x8 = 14 then ((swarflaw04_awake.f k).bind fun t696 => (some t696)) else (some false)))
end
def swarflaw04_StripSafe.f (k : Nat) (l0 : List Int) : Option (Bool) := (swarfkit_FeedOf.f l0).bind fun t651 => ((swarfkit_CarOf.f k t651 5 12).bind fun bt653 => (swarflaw04_StripSafe.l0 k bt653.2.2.2.2.2.1 0 bt653.2.2.2.2.2.2 bt653.1 bt653.2.1 bt653.2.2.1 bt653.2.2.2.1 bt653.2.2.2.2.1))
theorem swarflaw04_StripSafe.mono_l : ∀ k, (∀ y0 y1 y2 y3 y4 y5 y6 y7, LeO (swarflaw04_StripSafe.l0 k y0 y1 y2 y3 y4 y5 y6 y7) (swarflaw04_StripSafe.l0 (k + 1) y0 y1 y2 y3 y4 y5 y6 y7)) ∧ (∀ y0 y1 y2 y3 y4 y5 y6 y7 y8 y9, LeO (swarflaw04_StripSafe.l1 k y0 y1 y2 y3 y4 y5 y6 y7 y8 y9) (swarflaw04_StripSafe.l1 (k + 1) y0 y1 y2 y3 y4 y5 y6 y7 y8 y9)) ∧ (∀ y0 y1 y2 y3 y4 y5 y6 y7 y8 y9 y10, LeO (swarflaw04_StripSafe.l2 k y0 y1 y2 y3 y4 y5 y6 y7 y8 y9 y10) (swarflaw04_StripSafe.l2 (k + 1) y0 y1 y2 y3 y4 y5 y6 y7 y8 y9 y10))
  | 0 => ⟨fun _ _ _ _ _ _ _ _ r h => by simp [swarflaw04_StripSafe.l0] at h, fun _ _ _ _ _ _ _ _ _ _ r h => by simp [swarflaw04_StripSafe.l1] at h, fun _ _ _ _ _ _ _ _ _ _ _ r h => by simp [swarflaw04_StripSafe.l2] at h⟩
  | k + 1 => by
    obtain ⟨ih0, ih1, ih2⟩ := swarflaw04_StripSafe.mono_l k
    refine ⟨?_, ?_, ?_⟩
    · intro y0 y1 y2 y3 y4 y5 y6 y7
      unfold swarflaw04_StripSafe.l0
      repeat' first
      | (with_reducible exact ih0 _ _ _ _ _ _ _ _)
      | (with_reducible exact ih1 _ _ _ _ _ _ _ _ _ _)
      | (with_reducible exact ih2 _ _ _ _ _ _ _ _ _ _ _)
      | (with_reducible exact swarfkit_Among.mono _ _ _)
      | (with_reducible exact swarfkit_CarOf.mono _ _ _ _)
      | (with_reducible exact swarfkit_Feed_Order.mono _ _ _)
      | (with_reducible exact swarflaw04_awake.mono _)
      | (with_reducible exact swarfref04_IsClean.mono _ _ _ _ _ _ _)
      | (with_reducible exact swarfref04_Truths.mono _ _ _ _ _ _)
      | (with_reducible exact LeO.refl _)
      | (with_reducible exact LeO.none _)
      | (with_reducible refine LeO.ite ?_ ?_)
      | (with_reducible refine LeO.bind ?_ (fun _ => ?_))
      | exact ih0 _ _ _ _ _ _ _ _
      | exact ih1 _ _ _ _ _ _ _ _ _ _
      | exact ih2 _ _ _ _ _ _ _ _ _ _ _
      | exact swarfkit_Among.mono _ _ _
      | exact swarfkit_CarOf.mono _ _ _ _
      | exact swarfkit_Feed_Order.mono _ _ _
      | exact swarflaw04_awake.mono _
      | exact swarfref04_IsClean.mono _ _ _ _ _ _ _
      | exact swarfref04_Truths.mono _ _ _ _ _ _
      | exact LeO.none _
      | refine LeO.ite ?_ ?_
      | refine LeO.bind ?_ (fun _ => ?_)
    · intro y0 y1 y2 y3 y4 y5 y6 y7 y8 y9
      unfold swarflaw04_StripSafe.l1
      repeat' first
      | (with_reducible exact ih0 _ _ _ _ _ _ _ _)
      | (with_reducible exact ih1 _ _ _ _ _ _ _ _ _ _)
      | (with_reducible exact ih2 _ _ _ _ _ _ _ _ _ _ _)
      | (with_reducible exact swarfkit_Among.mono _ _ _)
      | (with_reducible exact swarfkit_CarOf.mono _ _ _ _)
      | (with_reducible exact swarfkit_Feed_Order.mono _ _ _)
      | (with_reducible exact swarflaw04_awake.mono _)
      | (with_reducible exact swarfref04_IsClean.mono _ _ _ _ _ _ _)
      | (with_reducible exact swarfref04_Truths.mono _ _ _ _ _ _)
      | (with_reducible exact LeO.refl _)
      | (with_reducible exact LeO.none _)
      | (with_reducible refine LeO.ite ?_ ?_)
      | (with_reducible refine LeO.bind ?_ (fun _ => ?_))
      | exact ih0 _ _ _ _ _ _ _ _
      | exact ih1 _ _ _ _ _ _ _ _ _ _
      | exact ih2 _ _ _ _ _ _ _ _ _ _ _
      | exact swarfkit_Among.mono _ _ _
      | exact swarfkit_CarOf.mono _ _ _ _
      | exact swarfkit_Feed_Order.mono _ _ _
      | exact swarflaw04_awake.mono _
      | exact swarfref04_IsClean.mono _ _ _ _ _ _ _
      | exact swarfref04_Truths.mono _ _ _ _ _ _
      | exact LeO.none _
      | refine LeO.ite ?_ ?_
      | refine LeO.bind ?_ (fun _ => ?_)
    · intro y0 y1 y2 y3 y4 y5 y6 y7 y8 y9 y10
      unfold swarflaw04_StripSafe.l2
      repeat' first
      | (with_reducible exact ih0 _ _ _ _ _ _ _ _)
      | (with_reducible exact ih1 _ _ _ _ _ _ _ _ _ _)
      | (with_reducible exact ih2 _ _ _ _ _ _ _ _ _ _ _)
      | (with_reducible exact swarfkit_Among.mono _ _ _)
      | (with_reducible exact swarfkit_CarOf.mono _ _ _ _)
      | (with_reducible exact swarfkit_Feed_Order.mono _ _ _)
      | (with_reducible exact swarflaw04_awake.mono _)
      | (with_reducible exact swarfref04_IsClean.mono _ _ _ _ _ _ _)
      | (with_reducible exact swarfref04_Truths.mono _ _ _ _ _ _)
      | (with_reducible exact LeO.refl _)
      | (with_reducible exact LeO.none _)
      | (with_reducible refine LeO.ite ?_ ?_)
      | (with_reducible refine LeO.bind ?_ (fun _ => ?_))
      | exact ih0 _ _ _ _ _ _ _ _
      | exact ih1 _ _ _ _ _ _ _ _ _ _
      | exact ih2 _ _ _ _ _ _ _ _ _ _ _
      | exact swarfkit_Among.mono _ _ _
      | exact swarfkit_CarOf.mono _ _ _ _
      | exact swarfkit_Feed_Order.mono _ _ _
      | exact swarflaw04_awake.mono _
      | exact swarfref04_IsClean.mono _ _ _ _ _ _ _
      | exact swarfref04_Truths.mono _ _ _ _ _ _
      | exact LeO.none _
      | refine LeO.ite ?_ ?_
      | refine LeO.bind ?_ (fun _ => ?_)
theorem swarflaw04_StripSafe.mono : ∀ a0 k, LeO (swarflaw04_StripSafe.f k a0) (swarflaw04_StripSafe.f (k + 1) a0) := by
  intro a0 k
  obtain ⟨ih0, ih1, ih2⟩ := swarflaw04_StripSafe.mono_l k
  unfold swarflaw04_StripSafe.f
  repeat' first
      | (with_reducible exact ih0 _ _ _ _ _ _ _ _)
      | (with_reducible exact ih1 _ _ _ _ _ _ _ _ _ _)
      | (with_reducible exact ih2 _ _ _ _ _ _ _ _ _ _ _)
      | (with_reducible exact swarfkit_Among.mono _ _ _)
      | (with_reducible exact swarfkit_CarOf.mono _ _ _ _)
      | (with_reducible exact swarfkit_Feed_Order.mono _ _ _)
      | (with_reducible exact swarflaw04_awake.mono _)
      | (with_reducible exact swarfref04_IsClean.mono _ _ _ _ _ _ _)
      | (with_reducible exact swarfref04_Truths.mono _ _ _ _ _ _)
      | (with_reducible exact LeO.refl _)
      | (with_reducible exact LeO.none _)
      | (with_reducible refine LeO.ite ?_ ?_)
      | (with_reducible refine LeO.bind ?_ (fun _ => ?_))
      | exact ih0 _ _ _ _ _ _ _ _
      | exact ih1 _ _ _ _ _ _ _ _ _ _
      | exact ih2 _ _ _ _ _ _ _ _ _ _ _
      | exact swarfkit_Among.mono _ _ _
      | exact swarfkit_CarOf.mono _ _ _ _
      | exact swarfkit_Feed_Order.mono _ _ _
      | exact swarflaw04_awake.mono _
      | exact swarfref04_IsClean.mono _ _ _ _ _ _ _
      | exact swarfref04_Truths.mono _ _ _ _ _ _
      | exact LeO.none _
      | refine LeO.ite ?_ ?_
      | refine LeO.bind ?_ (fun _ => ?_)
def swarflaw04_StripSafe.T6 : Bool × List (List Nat × List Nat) := (true, [([], []), ([0], [0]), ([], []), ([], []), ([3], [3]), ([], []), ([4, 5], [4, 5]), ([6], [6]), ([7], [7]), ([8], [8]), ([9], [9]), ([10, 9, 9], [9, 10]), ([9, 11], [9, 11]), ([1, 2, 0, 1, 2, 3, 4, 5, 6, 7, 8, 9, 10, 11, 12], [1, 2]), ([13, 0, 1, 2, 3, 4, 5, 6, 7, 8, 9, 10, 11, 12], [13]), ([14, 12, 11, 0, 1, 2, 3, 4, 5, 6, 7, 8, 9, 10, 11, 12], [12, 14])])
def swarflaw04_StripSafe.B6 : List Nat := [0, 1, 0, 0, 8, 0, 56, 120, 248, 504, 1016, 2040, 4088, 8191, 16383, 32767]
theorem swarflaw04_StripSafe.tab6 : rtab .any (opsOf Try.f11 6) = swarflaw04_StripSafe.T6 := by kernel_rfl
theorem swarflaw04_StripSafe.bits6 : waitsOk swarflaw04_StripSafe.T6.2 swarflaw04_StripSafe.B6 = true := by kernel_rfl
def swarflaw04_StripSafe.T19 : Bool × List (List Nat × List Nat) := (true, [([], []), ([0], [0]), ([1], [1]), ([1], [1]), ([1], [1]), ([3, 4, 1], [1, 3, 4]), ([5, 1], [1, 5]), ([2, 6, 1, 1], [1, 2, 6]), ([1, 7], [1, 7]), ([8, 7, 0, 1, 2, 3, 4, 5, 6, 7, 8], [0, 8])])
def swarflaw04_StripSafe.B19 : List Nat := [0, 1, 3, 3, 3, 27, 59, 127, 255, 511]
theorem swarflaw04_StripSafe.tab19 : rtab .any (opsOf Try.f11 19) = swarflaw04_StripSafe.T19 := by kernel_rfl
theorem swarflaw04_StripSafe.bits19 : waitsOk swarflaw04_StripSafe.T19.2 swarflaw04_StripSafe.B19 = true := by kernel_rfl
set_option maxHeartbeats 8000000 in
set_option maxRecDepth 100000 in
theorem swarflaw04_StripSafe.calls (k : Nat) (A0 : Option Addr) (c0 : Nat) (l0 : List Int) (r : Bool) (hrt : Aside0 (r = true)) (w : World) (hr0 : Kd.C (Kd.int .i64) w A0 l0.length l0) (hc0 : l0.length ≤ c0) (h : swarflaw04_StripSafe.f k l0 = some r) :
    Calls Try.prog 11 #[.slice A0 l0.length c0] w fun e w' => e = .returned (.bool r) ∧ Below w.heap.size w w' := by
  have hu26 := Try.underlying26
  have HR0 := Aside0.mk hr0
  have HC0 := Aside0.mk hc0
  clear hr0 hc0
  have HB := Aside0.mk (Below.refl w.heap.size w)
  have H : ((swarfkit_FeedOf.f l0).bind fun t651 => ((swarfkit_CarOf.f k t651 5 12).bind fun bt653 => (swarflaw04_StripSafe.l0 k bt653.2.2.2.2.2.1 0 bt653.2.2.2.2.2.2 bt653.1 bt653.2.1 bt653.2.2.1 bt653.2.2.2.1 bt653.2.2.2.2.1))) = some r := h
  clear h
  replace H := Option.bind_eq_some_iff.mp H
  obtain ⟨t651, A20, H⟩ := H
  replace H : ((swarfkit_CarOf.f k t651 5 12).bind fun bt653 => (swarflaw04_StripSafe.l0 k bt653.2.2.2.2.2.1 0 bt653.2.2.2.2.2.2 bt653.1 bt653.2.1 bt653.2.2.1 bt653.2.2.2.1 bt653.2.2.2.2.1)) = some r := H
  have A2 := Aside0.mk A20
  clear A20
  replace H := Option.bind_eq_some_iff.mp H
  obtain ⟨⟨t653, t656, t657, t660, t661, t664, t667⟩, A30, H⟩ := H
  replace H : (swarflaw04_StripSafe.l0 k t664 0 t667 t653 t656 t657 t660 t661) = some r := H
  have A3 := Aside0.mk A30
  clear A30
  have H' := Aside0.mk H
  clear H
  go_enter Try.func11, Try.ntmps11
  go_wp2_with (first | ((with_reducible refine gate_callee (f := 18) rfl ?_); refine goesL_ (some 15) rfl rfl Try.func18 (by kernel_rfl) rfl #[.slice A0 l0.length c0] rfl (by (try simp only [List.map_toArray, List.map_cons, List.map_nil]); first | done | rfl | (simp only [List.length_drop, List.length_take]; rfl)) ?_; (with_reducible refine (swarfkit_FeedOf.calls _ _ l0 t651 w _ ?side1 ?side2 ?side3 A2.out).mono ?_); (case side1 => repeat (first | (with_reducible first | exact HB.out | apply below_alloc | apply pw_below_drewN | apply below_drew1) | exact HB.out)); (case side2 => exact HR0.out); (case side3 => exact HC0.out); rintro e w4 ⟨g652, rfl, hi, hb, hb2⟩; refine ⟨_, rfl, ?_⟩; have n0_ := Aside0.mk (hb); have n1_ := Aside0.mk (hi); clear HB; have HB := n0_; have HI652 := n1_; clear n0_ n1_; (try clear hb); (try clear hb2); (try clear hk); (try clear hi)) | ((with_reducible refine gate_callee (f := 17) rfl ?_); refine goesL_ (some 18) rfl rfl Try.func17 (by kernel_rfl) rfl #[.pointer (some ⟨g652, 0, none⟩), .int .i64 5, .int .i64 12] rfl (by (try simp only [List.map_toArray, List.map_cons, List.map_nil]); first | done | rfl | (simp only [List.length_drop, List.length_take]; rfl)) ?_; (with_reducible refine (swarfkit_CarOf.calls k g652 t651 5 12 t653 t656 t657 t660 t661 t664 t667 w _ ?side1 ?side2 A3.out).mono ?_); (case side1 => repeat (first | (with_reducible first | exact HI652.out | apply IsS79.alloc | apply IsS79.drewN | apply IsS79.drew | apply IsS79.set_0) | exact HI652.out)); (case side2 => repeat (first | (with_reducible first | exact HB.out | apply below_alloc | apply pw_below_drewN | apply below_drew1 | refine below_set ?_ (IsS79.ge HI652.out)) | exact HB.out)); rintro e w5 ⟨v654, v658, v662, v665, rfl, ho0, ho1, ho2, ho3, hi, hb, hk⟩; refine ⟨_, rfl, ?_⟩; have n0_ := Aside0.mk (Kd.N_lower (Kd.N_mono (ok' := fun k_ => some k_ ≠ (v658 : Value).ownBlock ∧ some k_ ≠ (v662 : Value).ownBlock ∧ some k_ ≠ (v665 : Value).ownBlock ∧ k_ ≠ g652) (Kd.S_N (Kd.S_bound (Kd.S_apart' (Kd.S_apart' ho0 (Kd.R_typed ho1) (by decide)) (Kd.R_typed ho3) (by decide)))) (fun k_ hk_ => ⟨hk_.1.1.2, hk_.1.1.1, hk_.1.2, (IsS79.fresh (by repeat (first | (with_reducible first | exact HI652.out | apply IsS79.alloc | apply IsS79.drewN | apply IsS79.drew | apply IsS79.set_0) | exact HI652.out)) k_ hk_.2.1)⟩)) (below_size (by repeat (first | (with_reducible first | exact HB.out | apply below_alloc | apply pw_below_drewN | apply below_drew1 | refine below_set ?_ (IsS79.ge HI652.out)) | exact HB.out)))); have n1_ := Aside0.mk (Kd.R_lower ho1 (below_size (by repeat (first | (with_reducible first | exact HB.out | apply below_alloc | apply pw_below_drewN | apply below_drew1 | refine below_set ?_ (IsS79.ge HI652.out)) | exact HB.out)))); have n2_ := Aside0.mk (Kd.R_lower ho2 (below_size (by repeat (first | (with_reducible first | exact HB.out | apply below_alloc | apply pw_below_drewN | apply below_drew1 | refine below_set ?_ (IsS79.ge HI652.out)) | exact HB.out)))); have n3_ := Aside0.mk (Kd.R_lower ho3 (below_size (by repeat (first | (with_reducible first | exact HB.out | apply below_alloc | apply pw_below_drewN | apply below_drew1 | refine below_set ?_ (IsS79.ge HI652.out)) | exact HB.out)))); have n4_ := Aside0.mk (hb); have n5_ := Aside0.mk (hi); clear HB; clear HI652; have HO655 := n0_; have HO659 := n1_; have HO663 := n2_; have HO666 := n3_; have HB := n4_; have HI652 := n5_; clear n0_ n1_ n2_ n3_ n4_ n5_; (try clear hb); (try clear hb2); (try clear hk); (try clear hi); (try clear ho0); (try clear ho1); (try clear ho2); (try clear ho3)) | ((with_reducible refine gate_dst (N := 4) rfl ?_); refine box_event ?hg (N := 4) ?hd (cs := #[.slice none 0 0, .int .i64 0, .slice none 0 0, .int .i64 0, .slice none 0 0]) (t := 26) ?hr ?_; (case hd => rfl); (case hg => rfl); (case hr => first | (go_simp; done) | (go_simp; rfl)); intro gb668 hg w6 hbox hb; have n0_ := Aside0.mk (Kd.N_below (Kd.N_elderB (by (with_reducible repeat (first | apply Kd.N_alloc | apply Kd.N_drewN | apply Kd.N_drew)); exact HO655.out) gb668 (Nat.le_of_eq hg.symm)) hb); have n1_ := Aside0.mk (Kd.R_below (by (with_reducible repeat (first | apply Kd.R_alloc | apply Kd.R_drewN | apply Kd.R_drew)); exact HO659.out) hb); have n2_ := Aside0.mk (Kd.R_below (by (with_reducible repeat (first | apply Kd.R_alloc | apply Kd.R_drewN | apply Kd.R_drew)); exact HO663.out) hb); have n3_ := Aside0.mk (Kd.R_below (by (with_reducible repeat (first | apply Kd.R_alloc | apply Kd.R_drewN | apply Kd.R_drew)); exact HO666.out) hb); have n4_ := Aside0.mk (IsS79.below (by repeat (first | (with_reducible first | exact HI652.out | apply IsS79.alloc | apply IsS79.drewN | apply IsS79.drew | apply IsS79.set_0) | exact HI652.out)) hb); have n5_ := Aside0.mk (below_step (by repeat (first | (with_reducible first | exact HB.out | apply below_alloc | apply pw_below_drewN | apply below_drew1 | refine below_set ?_ (IsS79.ge HI652.out)) | exact HB.out)) hb); have n6_ := Aside0.mk (hbox); have n7_ := Aside0.mk ((by rw [hg]; exact (below_size (by repeat (first | (with_reducible first | exact HB.out | apply below_alloc | apply pw_below_drewN | apply below_drew1 | refine below_set ?_ (IsS79.ge HI652.out)) | exact HB.out))) : w.heap.size ≤ gb668)); have n8_ := Aside0.mk ((by rw [hg]; exact (below_size (by repeat (first | (with_reducible first | exact HB.out | apply below_alloc | apply pw_below_drewN | apply below_drew1 | refine below_set ?_ (IsS79.ge HI652.out)) | exact HB.out))) : w.heap.size ≤ gb668)); have n9_ := Aside0.mk ((by rw [hg]; exact Nat.ne_of_lt (IsS79.lt (show IsS79 w _ g652 t667 from by repeat (first | (with_reducible first | exact HI652.out | apply IsS79.alloc | apply IsS79.drewN | apply IsS79.drew | apply IsS79.set_0) | exact HI652.out))) : g652 ≠ gb668)); have n10_ := Aside0.mk ((by rw [hg]; exact Nat.ne_of_gt (IsS79.lt (show IsS79 w _ g652 t667 from by repeat (first | (with_reducible first | exact HI652.out | apply IsS79.alloc | apply IsS79.drewN | apply IsS79.drew | apply IsS79.set_0) | exact HI652.out))) : gb668 ≠ g652)); clear HO655; clear HO659; clear HO663; clear HO666; clear HI652; clear HB; have HO655 := n0_; have HO659 := n1_; have HO663 := n2_; have HO666 := n3_; have HI652 := n4_; have HB := n5_; have BK668 := n6_; have GW668 := n7_; have GE668 := n8_; have NB652_668 := n9_; have NB668_652 := n10_; clear n0_ n1_ n2_ n3_ n4_ n5_ n6_ n7_ n8_ n9_ n10_; clear hb hbox hg; obtain ⟨Ao7, co7, eo7⟩ := Kd.N_slice HO655.out; subst eo7; have hnb8 := NB668_652.out; have hnc8 := NB652_668.out; have hcz9_0 : w6.cell? ⟨gb668, 0, none⟩ = some (.slice none 0 0) := (blk_cell BK668.out 0).trans rfl; have hcz9_1 : w6.cell? ⟨gb668, 1, none⟩ = some (.int .i64 0) := (blk_cell BK668.out 1).trans rfl; have hcz9_2 : w6.cell? ⟨gb668, 2, none⟩ = some (.slice none 0 0) := (blk_cell BK668.out 2).trans rfl; have hcz9_3 : w6.cell? ⟨gb668, 3, none⟩ = some (.int .i64 0) := (blk_cell BK668.out 3).trans rfl; have hcz9_4 : w6.cell? ⟨gb668, 4, none⟩ = some (.slice none 0 0) := (blk_cell BK668.out 4).trans rfl; have hfz9_0 := blk_frozen BK668.out 0; have hfz9_1 := blk_frozen BK668.out 1; have hfz9_2 := blk_frozen BK668.out 2; have hfz9_3 := blk_frozen BK668.out 3; have hfz9_4 := blk_frozen BK668.out 4; obtain ⟨Ao10, co10, eo10⟩ := Kd.R_slice HO659.out; subst eo10; obtain ⟨Ao11, co11, eo11⟩ := Kd.R_slice HO663.out; subst eo11))
  go_loopg [6] k (fun kq v6 w' => ∃ (x6_1 : Int) (x653000_1 : Int) (x669000_1 : List (S50)) (u669000 : Value), v6 = .int .i64 x6_1 ∧ Aside0 (swarflaw04_StripSafe.l0 kq t664 x6_1 x653000_1 x669000_1 t656 t657 t660 t661 = some r) ∧ Aside0 (kq ≤ k) ∧ Aside0 (Kd.R Kd.bool 4 w' w.heap.size (fun _ => True) v665 t664) ∧ Aside0 (Kd.N k50 50 w' w.heap.size (fun k_ => some k_ ≠ (v665 : Value).ownBlock ∧ some k_ ≠ ((.slice Ao10 t657.length co10) : Value).ownBlock ∧ some k_ ≠ ((.slice Ao11 t661.length co11) : Value).ownBlock ∧ k_ ≠ gb668 ∧ k_ ≠ g652) u669000 x669000_1) ∧ Aside0 (Kd.R k61 61 w' w.heap.size (fun _ => True) (.slice Ao10 t657.length co10) t657) ∧ Aside0 (Kd.R (Kd.int .i64) 3 w' w.heap.size (fun _ => True) (.slice Ao11 t661.length co11) t661) ∧ Aside0 (w'.heap[gb668]? = some (.cells #[u669000, .int .i64 t656, (.slice Ao10 t657.length co10), .int .i64 t660, (.slice Ao11 t661.length co11)] 26 (0, 0))) ∧ Aside0 (IsS79 w w' g652 x653000_1) ∧ Aside0 (Below w.heap.size w w'))
  case atStart => exact ⟨(0), (t667), (t653), (.slice Ao7 t653.length co7), (by first | rfl | (simp; done) | (simp [*]; done)), H', ⟨Nat.le_refl _⟩, ⟨by (with_reducible repeat (first | apply Kd.R_alloc | apply Kd.R_drewN | apply Kd.R_drew)); exact Kd.R_mono (Kd.R_far (p := ⟨gb668, 4, none⟩) (Kd.R_far (p := ⟨gb668, 3, none⟩) (Kd.R_far (p := ⟨gb668, 2, none⟩) (Kd.R_far (p := ⟨gb668, 1, none⟩) (Kd.R_far (p := ⟨gb668, 0, none⟩) (Kd.R_types HO666.out BK668.out (by decide)) (fun _ hk => hk.2) (.slice Ao7 t653.length co7)) (fun _ hk => hk.2) (.int .i64 t656)) (fun _ hk => hk.2) (.slice Ao10 t657.length co10)) (fun _ hk => hk.2) (.int .i64 t660)) (fun _ hk => hk.2) (.slice Ao11 t661.length co11)) (fun _ hk => trivial)⟩, ⟨by (with_reducible repeat (first | apply Kd.N_alloc | apply Kd.N_drewN | apply Kd.N_drew)); exact Kd.N_mono (Kd.N_far (p := ⟨gb668, 4, none⟩) (Kd.N_far (p := ⟨gb668, 3, none⟩) (Kd.N_far (p := ⟨gb668, 2, none⟩) (Kd.N_far (p := ⟨gb668, 1, none⟩) (Kd.N_far (p := ⟨gb668, 0, none⟩) (Kd.N_mono HO655.out (fun k_ hk => (⟨hk, hk.2⟩ : _ ∧ k_ ≠ gb668))) (fun _ hk => hk.2) (.slice Ao7 t653.length co7)) (fun _ hk => hk.2) (.int .i64 t656)) (fun _ hk => hk.2) (.slice Ao10 t657.length co10)) (fun _ hk => hk.2) (.int .i64 t660)) (fun _ hk => hk.2) (.slice Ao11 t661.length co11)) (fun _ hk => ⟨hk.1.1.2.2.1, ⟨hk.1.1.1, ⟨hk.1.1.2.1, ⟨hk.1.2, hk.1.1.2.2.2⟩⟩⟩⟩)⟩, ⟨by (with_reducible repeat (first | apply Kd.R_alloc | apply Kd.R_drewN | apply Kd.R_drew)); exact Kd.R_mono (Kd.R_far (p := ⟨gb668, 4, none⟩) (Kd.R_far (p := ⟨gb668, 3, none⟩) (Kd.R_far (p := ⟨gb668, 2, none⟩) (Kd.R_far (p := ⟨gb668, 1, none⟩) (Kd.R_far (p := ⟨gb668, 0, none⟩) (Kd.R_types HO659.out BK668.out (by decide)) (fun _ hk => hk.2) (.slice Ao7 t653.length co7)) (fun _ hk => hk.2) (.int .i64 t656)) (fun _ hk => hk.2) (.slice Ao10 t657.length co10)) (fun _ hk => hk.2) (.int .i64 t660)) (fun _ hk => hk.2) (.slice Ao11 t661.length co11)) (fun _ hk => trivial)⟩, ⟨by (with_reducible repeat (first | apply Kd.R_alloc | apply Kd.R_drewN | apply Kd.R_drew)); exact Kd.R_mono (Kd.R_far (p := ⟨gb668, 4, none⟩) (Kd.R_far (p := ⟨gb668, 3, none⟩) (Kd.R_far (p := ⟨gb668, 2, none⟩) (Kd.R_far (p := ⟨gb668, 1, none⟩) (Kd.R_far (p := ⟨gb668, 0, none⟩) (Kd.R_types HO663.out BK668.out (by decide)) (fun _ hk => hk.2) (.slice Ao7 t653.length co7)) (fun _ hk => hk.2) (.int .i64 t656)) (fun _ hk => hk.2) (.slice Ao10 t657.length co10)) (fun _ hk => hk.2) (.int .i64 t660)) (fun _ hk => hk.2) (.slice Ao11 t661.length co11)) (fun _ hk => trivial)⟩, ⟨by (with_reducible repeat (first | refine blk_drewN ?_ _ | refine blk_drew ?_ | refine blk_alloc ?_ _)); refine blk_put (cs := #[.slice Ao7 t653.length co7, .int .i64 t656, .slice Ao10 t657.length co10, .int .i64 t660, .slice none 0 0]) ?_ 4 _ rfl; (with_reducible repeat (first | refine blk_drewN ?_ _ | refine blk_drew ?_ | refine blk_alloc ?_ _)); refine blk_put (cs := #[.slice Ao7 t653.length co7, .int .i64 t656, .slice Ao10 t657.length co10, .int .i64 0, .slice none 0 0]) ?_ 3 _ rfl; (with_reducible repeat (first | refine blk_drewN ?_ _ | refine blk_drew ?_ | refine blk_alloc ?_ _)); refine blk_put (cs := #[.slice Ao7 t653.length co7, .int .i64 t656, .slice none 0 0, .int .i64 0, .slice none 0 0]) ?_ 2 _ rfl; (with_reducible repeat (first | refine blk_drewN ?_ _ | refine blk_drew ?_ | refine blk_alloc ?_ _)); refine blk_put (cs := #[.slice Ao7 t653.length co7, .int .i64 0, .slice none 0 0, .int .i64 0, .slice none 0 0]) ?_ 1 _ rfl; (with_reducible repeat (first | refine blk_drewN ?_ _ | refine blk_drew ?_ | refine blk_alloc ?_ _)); refine blk_put (cs := #[.slice none 0 0, .int .i64 0, .slice none 0 0, .int .i64 0, .slice none 0 0]) ?_ 0 _ rfl; (with_reducible repeat (first | refine blk_drewN ?_ _ | refine blk_drew ?_ | refine blk_alloc ?_ _)); exact BK668.out⟩, ⟨by repeat (first | (with_reducible first | exact HI652.out | apply IsS79.alloc | apply IsS79.drewN | apply IsS79.drew | apply IsS79.set_0 | refine IsS79.far ?_ NB652_668.out _) | exact HI652.out)⟩, ⟨by repeat (first | (with_reducible first | exact HB.out | apply below_alloc | apply pw_below_drewN | apply below_drew1 | refine below_set ?_ (IsS79.ge HI652.out) | refine below_set ?_ GE668.out) | exact HB.out)⟩⟩
  case round =>
    clear H'
    try clear c1
    try clear p2
    try clear c8
    try clear c11
    try clear hcz9_0
    try clear hcz9_1
    try clear hcz9_2
    try clear hcz9_3
    try clear hcz9_4
    try clear hfz9_0
    try clear hfz9_1
    try clear hfz9_2
    try clear hfz9_3
    try clear hfz9_4
    obtain ⟨x6_1, x653000_1, x669000_1, u669000, rfl, HA, HK1, HO_5, HO_669000, HO_669002, HO_669004, BK668, HI652, HB⟩ := hrel
    cases gk with
    | zero => exact absurd HA.out (by simp [swarflaw04_StripSafe.l0])
    | succ k1 =>
      have H := HA.out
      clear HA
      simp only [swarflaw04_StripSafe.l0] at H
      by_cases c12 : x6_1 < (x669000_1.length : Int)
      · rw [if_pos c12] at H
        have c12b0 : decide (x6_1 < (x669000_1.length : Int)) = true := decide_eq_true c12
        clear c12
        by_cases c13 : 0 ≤ x6_1
        · rw [if_pos c13] at H
          have c13b0 : decide (0 ≤ x6_1) = true := decide_eq_true c13
          clear c13
          obtain ⟨bq14, hbq14⟩ : ∃ b_ : Bool, b_ = ((rd_T50 x669000_1 x6_1).f1) := ⟨_, rfl⟩
          replace H : (if bq14 = true then ((swarfkit_Feed_Often.f x653000_1 2 3).bind fun bt670 => (swarflaw04_StripSafe.l0 k1 t664 (wrap64 (x6_1 + 1)) bt670.2 (x669000_1.set (x6_1 : Int).toNat (⟨(rd_T50 x669000_1 x6_1).f0, bt670.1, (rd_T50 x669000_1 x6_1).f2, (rd_T50 x669000_1 x6_1).f3⟩ : S50)) t656 t657 t660 t661)) else (swarflaw04_StripSafe.l0 k1 t664 (wrap64 (x6_1 + 1)) x653000_1 (x669000_1.set (x6_1 : Int).toNat (⟨(rd_T50 x669000_1 x6_1).f0, false, (rd_T50 x669000_1 x6_1).f2, (rd_T50 x669000_1 x6_1).f3⟩ : S50)) t656 t657 t660 t661)) = some r := by rw [← hbq14] at H; exact H
          have Nbq14 := Aside0.mk hbq14
          clear hbq14
          by_cases c15 : bq14 = true
          · subst c15
            have H1 : ((swarfkit_Feed_Often.f x653000_1 2 3).bind fun bt670 => (swarflaw04_StripSafe.l0 k1 t664 (wrap64 (x6_1 + 1)) bt670.2 (x669000_1.set (x6_1 : Int).toNat (⟨(rd_T50 x669000_1 x6_1).f0, bt670.1, (rd_T50 x669000_1 x6_1).f2, (rd_T50 x669000_1 x6_1).f3⟩ : S50)) t656 t657 t660 t661)) = some r := by rw [if_pos rfl] at H; exact H
            clear H
            have H := H1
            clear H1
            replace H := Option.bind_eq_some_iff.mp H
            obtain ⟨⟨t670, t671⟩, A160, H⟩ := H
            replace H : (swarflaw04_StripSafe.l0 k1 t664 (wrap64 (x6_1 + 1)) t671 (x669000_1.set (x6_1 : Int).toNat (⟨(rd_T50 x669000_1 x6_1).f0, t670, (rd_T50 x669000_1 x6_1).f2, (rd_T50 x669000_1 x6_1).f3⟩ : S50)) t656 t657 t660 t661) = some r := H
            have A16 := Aside0.mk A160
            clear A160
            obtain ⟨y672, hy672⟩ : ∃ y_ : List (S50), y_ = (x669000_1.set (x6_1 : Int).toNat (⟨(rd_T50 x669000_1 x6_1).f0, t670, (rd_T50 x669000_1 x6_1).f2, (rd_T50 x669000_1 x6_1).f3⟩ : S50)) := ⟨_, rfl⟩
            replace H : (swarflaw04_StripSafe.l0 k1 t664 (wrap64 (x6_1 + 1)) t671 y672 t656 t657 t660 t661) = some r := by first | (rw [hy672]; with_reducible exact H) | (have H2_ := (Option.bind_some _ _).symm.trans H; rw [hy672]; with_reducible exact H2_) | (have H2_ := (Option.bind_some _ _).symm.trans H; with_reducible exact H2_) | with_reducible exact H | (rw [hy672]; exact H) | exact H
            have Ny672 := Aside0.mk hy672
            clear hy672
            have H' := Aside0.mk H
            clear H
            have hnb18 := NB668_652.out
            have hnc18 := NB652_668.out
            have hcz19_0 : wr.cell? ⟨gb668, 0, none⟩ = some (u669000) := (blk_cell BK668.out 0).trans rfl
            have hcz19_1 : wr.cell? ⟨gb668, 1, none⟩ = some (.int .i64 t656) := (blk_cell BK668.out 1).trans rfl
            have hcz19_2 : wr.cell? ⟨gb668, 2, none⟩ = some (.slice Ao10 t657.length co10) := (blk_cell BK668.out 2).trans rfl
            have hcz19_3 : wr.cell? ⟨gb668, 3, none⟩ = some (.int .i64 t660) := (blk_cell BK668.out 3).trans rfl
            have hcz19_4 : wr.cell? ⟨gb668, 4, none⟩ = some (.slice Ao11 t661.length co11) := (blk_cell BK668.out 4).trans rfl
            have hfz19_0 := blk_frozen BK668.out 0
            have hfz19_1 := blk_frozen BK668.out 1
            have hfz19_2 := blk_frozen BK668.out 2
            have hfz19_3 := blk_frozen BK668.out 3
            have hfz19_4 := blk_frozen BK668.out 4
            obtain ⟨Ao20, co20, eo20⟩ := Kd.N_slice HO_669000.out
            subst eo20
            try go_wp2
            have n0_ := Aside0.mk (Kd.R_drew HO_5.out)
            have n1_ := Aside0.mk (Kd.N_drew HO_669000.out)
            have n2_ := Aside0.mk (Kd.R_drew HO_669002.out)
            have n3_ := Aside0.mk (Kd.R_drew HO_669004.out)
            have n4_ := Aside0.mk (blk_drew BK668.out)
            have n5_ := Aside0.mk (IsS79.drew HI652.out)
            have n6_ := Aside0.mk (below_drew1 HB.out)
            clear HO_5
            clear HO_669000
            clear HO_669002
            clear HO_669004
            clear BK668
            clear HI652
            clear HB
            have HO_5 := n0_
            have HO_669000 := n1_
            have HO_669002 := n2_
            have HO_669004 := n3_
            have BK668 := n4_
            have HI652 := n5_
            have HB := n6_
            clear n0_ n1_ n2_ n3_ n4_ n5_ n6_
            have p669 : 0 ≤ (x6_1 : Int) := of_decide_eq_true (by first | (with_reducible assumption) | assumption)
            have q669 : x6_1 < (x669000_1.length : Int) := of_decide_eq_true (by first | (with_reducible assumption) | assumption)
            obtain ⟨ad669, A669_0, c669_0, e669, hx669_0, hx669_1, hx669_2, hx669_3, hl669_0, hi669_0⟩ := at_T50 (Kd.N_reads' HO_669000.out).2.2 x6_1 p669 q669
            (try rw [← Nbq14.out] at hx669_1)
            cases e669
            obtain ⟨ce669, hce669, hMe669, hcc669⟩ := Kd.N_get HO_669000.out z50 x6_1 p669 (by first | exact q669 | exact of_decide_eq_true (by first | (with_reducible assumption) | assumption) | (have e_ := (Kd.N_reads' HO_669000.out).1; omega))
            obtain ⟨ua669_0, uc669_0, rfl, ul669_0, ge669_0⟩ := k50_openF hMe669
            have hv669_0 := hcc669 0 _ rfl
            rw [Nat.add_zero] at hv669_0
            replace hv669_0 := Option.some.inj (hv669_0.symm.trans hx669_0)
            injection hv669_0 with hva_ hvn_ hvc_
            rw [hva_] at ge669_0
            rw [hvc_] at ul669_0
            have HL669_0 := Aside0.mk (show Kd.V (Kd.int .i64) 3 _ w.heap.size _ _ ((rd_T50 x669000_1 x6_1).f0) from Kd.V_mk ul669_0 ge669_0)
            clear hva_ hvn_ hvc_ ge669_0 ul669_0
            clear hcc669 hce669
            have HR669_0 := Aside0.mk hi669_0
            have HC669_0 := Aside0.mk hl669_0
            clear hi669_0 hl669_0
            replace p669 := eq_true p669
            replace q669 := eq_true q669
            refine start_ (n := 16) (S := fun w' => w'.cell? ⟨gb668, 0, none⟩ = some (.slice (some ad669) x669000_1.length co20) ∧ w'.cell? ⟨gb668, 1, none⟩ = some (.int .i64 t656) ∧ w'.cell? ⟨gb668, 2, none⟩ = some (.slice Ao10 t657.length co10) ∧ w'.cell? ⟨gb668, 3, none⟩ = some (.int .i64 t660) ∧ w'.cell? ⟨gb668, 4, none⟩ = some (.slice Ao11 t661.length co11) ∧ w'.cell? (ad669.add ((x6_1).toNat * 4)) = some (.slice A669_0 ((rd_T50 x669000_1 x6_1).f0).length c669_0) ∧ w'.cell? ⟨(ad669.add ((x6_1).toNat * 4)).block, (ad669.add ((x6_1).toNat * 4)).off + 1, none⟩ = some (.bool true) ∧ w'.cell? ⟨(ad669.add ((x6_1).toNat * 4)).block, (ad669.add ((x6_1).toNat * 4)).off + 2, none⟩ = some (.int .i64 ((rd_T50 x669000_1 x6_1).f2)) ∧ w'.cell? ⟨(ad669.add ((x6_1).toNat * 4)).block, (ad669.add ((x6_1).toNat * 4)).off + 3, none⟩ = some (.int .i64 ((rd_T50 x669000_1 x6_1).f3))) (ds := [15]) #[false, false, false, false, false, false, false, false, false, false, false, false, false, false, false, false] (by kernel_rfl) rfl rfl ⟨(blk_cell BK668.out 0).trans rfl, (blk_cell BK668.out 1).trans rfl, (blk_cell BK668.out 2).trans rfl, (blk_cell BK668.out 3).trans rfl, (blk_cell BK668.out 4).trans rfl, hx669_0, hx669_1, hx669_2, hx669_3⟩ (fun hHeld => ?_); refine with_tabW swarflaw04_StripSafe.tab6 swarflaw04_StripSafe.bits6 (fun HT_ HW_ => ?_)
            generalize wr.drew = w21 at HO_5 HO_669000 HO_669002 HO_669004 BK668 HI652 HB HL669_0 HR669_0 hx669_0 hx669_1 hx669_2 hx669_3 hHeld ⊢
            refine pure_ (i := 0) (N := some 28) (v := ?_) (a' := ?_) #[true, false, false, false, false, false, false, false, false, false, false, false, false, false, false, false] rfl rfl (any_of HT_.out (by kernel_rfl)) (fun _ _ _ h => h) (Or.inl ⟨by rfl, ?_⟩) ?_ ?_
            rotate_left
            · intro w'
              go_simp
              with_reducible rfl
            rotate_left
            · simp only [Act.put, List.setIfInBounds_toArray, List.set_cons_zero, List.set_cons_succ, i64_w, i32_w]
              rfl
            refine pure_ (i := 2) (N := some 30) (v := ?_) (a' := ?_) #[true, false, true, false, false, false, false, false, false, false, false, false, false, false, false, false] rfl rfl (any_of HT_.out (by kernel_rfl)) (fun _ _ _ h => h) (Or.inl ⟨by rfl, ?_⟩) ?_ ?_
            rotate_left
            · intro w'
              go_simp
              with_reducible rfl
            rotate_left
            · simp only [Act.put, List.setIfInBounds_toArray, List.set_cons_zero, List.set_cons_succ, i64_w, i32_w]
              rfl
            refine pure_ (i := 3) (N := some 31) (v := ?_) (a' := ?_) #[true, false, true, true, false, false, false, false, false, false, false, false, false, false, false, false] rfl rfl (any_of HT_.out (by kernel_rfl)) (fun _ _ _ h => h) (Or.inl ⟨by rfl, ?_⟩) ?_ ?_
            rotate_left
            · intro w'
              go_simp
              with_reducible rfl
            rotate_left
            · simp only [Act.put, List.setIfInBounds_toArray, List.set_cons_zero, List.set_cons_succ, i64_w, i32_w]
              rfl
            refine pure_ (i := 5) (N := some 33) (v := ?_) (a' := ?_) #[true, false, true, true, false, true, false, false, false, false, false, false, false, false, false, false] rfl rfl (any_of HT_.out (by kernel_rfl)) (fun _ _ _ h => h) (Or.inl ⟨by rfl, ?_⟩) ?_ ?_
            rotate_left
            · intro w'
              go_simp
              with_reducible rfl
            rotate_left
            · simp only [Act.put, List.setIfInBounds_toArray, List.set_cons_zero, List.set_cons_succ, i64_w, i32_w]
              rfl
            refine take_ (i := 1) (N := some 29) (v := ?_) (a' := ?_) #[true, true, true, true, false, true, false, false, false, false, false, false, false, false, false, false] rfl rfl (take_ofW HT_.out HW_.out (by kernel_rfl)) (fun _ _ _ h => h) (Or.inl ⟨by rfl, ?_⟩) hHeld ?_ ?_
            rotate_left
            · rintro w' ⟨s0, s1, s2, s3, s4, s5, s6, s7, s8⟩
              go_simp
              with_reducible rfl
            rotate_left
            · simp only [Act.put, List.setIfInBounds_toArray, List.set_cons_zero, List.set_cons_succ, i64_w, i32_w]
              rfl
            refine take_ (i := 4) (N := some 32) (v := ?_) (a' := ?_) #[true, true, true, true, true, true, false, false, false, false, false, false, false, false, false, false] rfl rfl (take_ofW HT_.out HW_.out (by kernel_rfl)) (fun _ _ _ h => h) (Or.inl ⟨by rfl, ?_⟩) hHeld ?_ ?_
            rotate_left
            · rintro w' ⟨s0, s1, s2, s3, s4, s5, s6, s7, s8⟩
              go_simp
              with_reducible rfl
            rotate_left
            · simp only [Act.put, List.setIfInBounds_toArray, List.set_cons_zero, List.set_cons_succ, i64_w, i32_w]
              rfl
            refine pure_ (i := 6) (N := some 34) (v := ?_) (a' := ?_) #[true, true, true, true, true, true, true, false, false, false, false, false, false, false, false, false] rfl rfl (any_of HT_.out (by kernel_rfl)) (fun _ _ _ h => h) (Or.inl ⟨by rfl, ?_⟩) ?_ ?_
            rotate_left
            · intro w'
              go_simp
              with_reducible rfl
            rotate_left
            · simp only [Act.put, List.setIfInBounds_toArray, List.set_cons_zero, List.set_cons_succ, i64_w, i32_w]
              rfl
            refine pure_ (i := 7) (N := some 35) (v := ?_) (a' := ?_) #[true, true, true, true, true, true, true, true, false, false, false, false, false, false, false, false] rfl rfl (any_of HT_.out (by kernel_rfl)) (fun _ _ _ h => h) (Or.inl ⟨by rfl, ?_⟩) ?_ ?_
            rotate_left
            · intro w'
              go_simp
              with_reducible rfl
            rotate_left
            · simp only [Act.put, List.setIfInBounds_toArray, List.set_cons_zero, List.set_cons_succ, i64_w, i32_w]
              rfl
            refine take_ (i := 8) (N := some 36) (v := ?_) (a' := ?_) #[true, true, true, true, true, true, true, true, true, false, false, false, false, false, false, false] rfl rfl (take_ofW HT_.out HW_.out (by kernel_rfl)) (fun _ _ _ h => h) (Or.inl ⟨by rfl, ?_⟩) hHeld ?_ ?_
            rotate_left
            · rintro w' ⟨s0, s1, s2, s3, s4, s5, s6, s7, s8⟩
              go_simp
              with_reducible rfl
            rotate_left
            · simp only [Act.put, List.setIfInBounds_toArray, List.set_cons_zero, List.set_cons_succ, i64_w, i32_w]
              rfl
            refine pure_ (i := 9) (N := some 37) (v := ?_) (a' := ?_) #[true, true, true, true, true, true, true, true, true, true, false, false, false, false, false, false] rfl rfl (any_of HT_.out (by kernel_rfl)) (fun _ _ _ h => h) (Or.inl ⟨by rfl, ?_⟩) ?_ ?_
            rotate_left
            · intro w'
              go_simp
              with_reducible rfl
            rotate_left
            · simp only [Act.put, List.setIfInBounds_toArray, List.set_cons_zero, List.set_cons_succ, i64_w, i32_w]
              rfl
            refine pure_ (i := 10) (N := some 38) (v := ?_) (a' := ?_) #[true, true, true, true, true, true, true, true, true, true, true, false, false, false, false, false] rfl rfl (any_of HT_.out (by kernel_rfl)) (fun _ _ _ h => h) (Or.inl ⟨by rfl, ?_⟩) ?_ ?_
            rotate_left
            · intro w'
              go_simp
              with_reducible rfl
            rotate_left
            · simp only [Act.put, List.setIfInBounds_toArray, List.set_cons_zero, List.set_cons_succ, i64_w, i32_w]
              rfl
            refine one_ (i := 11) (N := some 39) #[true, true, true, true, true, true, true, true, true, true, true, true, false, false, false, false] rfl rfl (one_of HT_.out (by kernel_rfl)) (by decide) (fun K hK => ?_)
            refine goes_ Try.func35 (by kernel_rfl) rfl #[.pointer (some ⟨g652, 0, none⟩), .int .i64 2, .int .i64 3] (by rfl) rfl rfl (by (try simp only [List.map_toArray, List.map_cons, List.map_nil]); first | done | rfl | (simp only [List.length_drop, List.length_take]; rfl)) ?_
            with_reducible refine (swarfkit_Feed_Often.calls g652 x653000_1 2 3 t670 t671 w _ ?side1 ?side2 A16.out).mono ?_
            (case side1 => repeat (first | (with_reducible first | exact HI652.out | apply IsS79.alloc | apply IsS79.drewN | apply IsS79.drew | apply IsS79.set_0 | refine IsS79.far ?_ NB652_668.out _) | exact HI652.out))
            (case side2 => repeat (first | (with_reducible first | exact HB.out | apply below_alloc | apply pw_below_drewN | apply below_drew1 | refine below_set ?_ (IsS79.ge HI652.out) | refine below_set ?_ GE668.out) | exact HB.out))
            rintro e w22 ⟨rfl, hi, hb, hk⟩
            have HS5_ := keep_cell hk (hHeld.2.2.2.2.2.1) (by first | (rw [add_block]; exact Kd.own_blk (IsS79.own_neN HI652.out HO_669000.out (by decide))) | (show (Addr.add _ _).block ≠ _; rw [add_block]; exact Kd.own_blk (IsS79.own_neN HI652.out HO_669000.out (by decide))) | exact Kd.own_blk (IsS79.own_neN HI652.out HO_669000.out (by decide)))
            have HS6_ := keep_cell hk (hHeld.2.2.2.2.2.2.1) (by first | (rw [add_block]; exact Kd.own_blk (IsS79.own_neN HI652.out HO_669000.out (by decide))) | (show (Addr.add _ _).block ≠ _; rw [add_block]; exact Kd.own_blk (IsS79.own_neN HI652.out HO_669000.out (by decide))) | exact Kd.own_blk (IsS79.own_neN HI652.out HO_669000.out (by decide)))
            have HS7_ := keep_cell hk (hHeld.2.2.2.2.2.2.2.1) (by first | (rw [add_block]; exact Kd.own_blk (IsS79.own_neN HI652.out HO_669000.out (by decide))) | (show (Addr.add _ _).block ≠ _; rw [add_block]; exact Kd.own_blk (IsS79.own_neN HI652.out HO_669000.out (by decide))) | exact Kd.own_blk (IsS79.own_neN HI652.out HO_669000.out (by decide)))
            have HS8_ := keep_cell hk (hHeld.2.2.2.2.2.2.2.2) (by first | (rw [add_block]; exact Kd.own_blk (IsS79.own_neN HI652.out HO_669000.out (by decide))) | (show (Addr.add _ _).block ≠ _; rw [add_block]; exact Kd.own_blk (IsS79.own_neN HI652.out HO_669000.out (by decide))) | exact Kd.own_blk (IsS79.own_neN HI652.out HO_669000.out (by decide)))
            refine ⟨_, rfl, ?_⟩
            have n0_ := Aside0.mk (Kd.R_mono (Kd.R_keep (IsS79.apart (show IsS79 w _ g652 x653000_1 from by repeat (first | (with_reducible first | exact HI652.out | apply IsS79.alloc | apply IsS79.drewN | apply IsS79.drew | apply IsS79.set_0 | refine IsS79.far ?_ NB652_668.out _) | exact HI652.out)) (by (with_reducible repeat (first | apply Kd.R_alloc | apply Kd.R_drewN | apply Kd.R_drew)); exact HO_5.out) (by decide)) hk (fun _ h => h.2)) (fun _ h => h.1))
            have n1_ := Aside0.mk (Kd.N_mono (Kd.N_keep (Kd.N_mono (ok := fun k_ => (some k_ ≠ (v665 : Value).ownBlock ∧ (some k_ ≠ (.slice Ao10 t657.length co10 : Value).ownBlock ∧ (some k_ ≠ (.slice Ao11 t661.length co11 : Value).ownBlock ∧ (k_ ≠ gb668 ∧ k_ ≠ g652))))) (by (with_reducible repeat (first | apply Kd.N_alloc | apply Kd.N_drewN | apply Kd.N_drew)); exact HO_669000.out) (fun k_ hk_ => (⟨hk_, hk_.2.2.2.2⟩ : _ ∧ k_ ≠ g652))) hk (fun _ h => h.2)) (fun _ h => h.1))
            have n2_ := Aside0.mk (Kd.R_mono (Kd.R_keep (IsS79.apart (show IsS79 w _ g652 x653000_1 from by repeat (first | (with_reducible first | exact HI652.out | apply IsS79.alloc | apply IsS79.drewN | apply IsS79.drew | apply IsS79.set_0 | refine IsS79.far ?_ NB652_668.out _) | exact HI652.out)) (by (with_reducible repeat (first | apply Kd.R_alloc | apply Kd.R_drewN | apply Kd.R_drew)); exact HO_669002.out) (by decide)) hk (fun _ h => h.2)) (fun _ h => h.1))
            have n3_ := Aside0.mk (Kd.R_mono (Kd.R_keep (IsS79.apart (show IsS79 w _ g652 x653000_1 from by repeat (first | (with_reducible first | exact HI652.out | apply IsS79.alloc | apply IsS79.drewN | apply IsS79.drew | apply IsS79.set_0 | refine IsS79.far ?_ NB652_668.out _) | exact HI652.out)) (by (with_reducible repeat (first | apply Kd.R_alloc | apply Kd.R_drewN | apply Kd.R_drew)); exact HO_669004.out) (by decide)) hk (fun _ h => h.2)) (fun _ h => h.1))
            have n4_ := Aside0.mk (KeepBut.blk hk (g' := gb668) (o := .cells #[.slice (some ad669) x669000_1.length co20, .int .i64 t656, .slice Ao10 t657.length co10, .int .i64 t660, .slice Ao11 t661.length co11] 26 (0, 0)) (by (with_reducible repeat (first | refine blk_drewN ?_ _ | refine blk_drew ?_ | refine blk_alloc ?_ _)); exact BK668.out) NB668_652.out (by simp))
            have n5_ := Aside0.mk (Kd.V_mono (Kd.V_keep (Kd.V_mono (ok := fun k_ => ((some k_ ≠ (v665 : Value).ownBlock ∧ (some k_ ≠ (.slice Ao10 t657.length co10 : Value).ownBlock ∧ (some k_ ≠ (.slice Ao11 t661.length co11 : Value).ownBlock ∧ (k_ ≠ gb668 ∧ k_ ≠ g652)))) ∧ some k_ ≠ (.slice (some ad669) x669000_1.length co20 : Value).ownBlock)) (by (with_reducible repeat (first | apply Kd.V_alloc | apply Kd.V_drewN | apply Kd.V_drew)); exact HL669_0.out) (fun k_ hk_ => (⟨hk_, hk_.1.2.2.2.2⟩ : _ ∧ k_ ≠ g652))) hk (fun _ h => h.2)) (fun _ h => h.1))
            have n6_ := Aside0.mk (hb)
            have n7_ := Aside0.mk (hi)
            clear HO_5
            clear HO_669000
            clear HO_669002
            clear HO_669004
            clear BK668
            clear HL669_0
            clear HB
            clear HI652
            have HO_5 := n0_
            have HO_669000 := n1_
            have HO_669002 := n2_
            have HO_669004 := n3_
            have BK668 := n4_
            have HL669_0 := n5_
            have HB := n6_
            have HI652 := n7_
            clear n0_ n1_ n2_ n3_ n4_ n5_ n6_ n7_
            (try clear hb)
            (try clear hb2)
            (try clear hk)
            (try clear hi)
            have p17 : 0 ≤ (x6_1 : Int) := of_decide_eq_true (by first | (with_reducible assumption) | assumption)
            have q17 : (x6_1 : Int) < ((x669000_1.length : Int) : Int) := of_decide_eq_true (by first | (with_reducible assumption) | assumption)
            obtain ⟨go17, co17, eo17, gb17, gl17, cl17, HG17⟩ := Kd.N_form HO_669000.out (by omega)
            (first | cases eo17 | (injection eo17 with ea_ en_ ec_; (first | subst ea_ | (injection ea_ with ea_; subst ea_)); subst ec_; clear en_))
            have GB17 := Aside0.mk gb17
            have GG17 := Aside0.mk HG17
            clear gb17 gl17 HG17
            (first | simp only [add_plain] at hx669_0 | skip)
            (first | simp only [add_plain] at hx669_1 | skip)
            (first | simp only [add_plain] at hx669_2 | skip)
            (first | simp only [add_plain] at hx669_3 | skip)
            obtain ⟨ce17, hcl17, hM17, hcc17, hfr17⟩ := Kd.N_elem HO_669000.out z50 (x6_1 : Int) p17 q17
            obtain ⟨ua17_0, uc17_0, rfl, ul17_0, ge17_0⟩ := k50_openF hM17
            have hx17_0 : World.cell? _ ⟨go17, (x6_1 : Int).toNat * 4, none⟩ = some (.slice ua17_0 ((rd_T50 x669000_1 x6_1).f0).length uc17_0) := hcc17 0 _ rfl
            have hx17_1 : World.cell? _ ⟨go17, (x6_1 : Int).toNat * 4 + 1, none⟩ = some (.bool ((rd_T50 x669000_1 x6_1).f1)) := hcc17 1 _ rfl
            have hx17_2 : World.cell? _ ⟨go17, (x6_1 : Int).toNat * 4 + 2, none⟩ = some (.int .i64 ((rd_T50 x669000_1 x6_1).f2)) := hcc17 2 _ rfl
            have hx17_3 : World.cell? _ ⟨go17, (x6_1 : Int).toNat * 4 + 3, none⟩ = some (.int .i64 ((rd_T50 x669000_1 x6_1).f3)) := hcc17 3 _ rfl
            have hf17_0 : World.frozen? _ ⟨go17, (x6_1 : Int).toNat * 4, none⟩ = false := hfr17 0
            have hf17_1 : World.frozen? _ ⟨go17, (x6_1 : Int).toNat * 4 + 1, none⟩ = false := hfr17 1
            have hf17_2 : World.frozen? _ ⟨go17, (x6_1 : Int).toNat * 4 + 2, none⟩ = false := hfr17 2
            have hf17_3 : World.frozen? _ ⟨go17, (x6_1 : Int).toNat * 4 + 3, none⟩ = false := hfr17 3
            clear hcl17 hcc17 hfr17 hM17
            replace p17 := eq_true p17
            replace q17 := eq_true q17
            have HN652_go17 := Aside0.mk (show g652 ≠ go17 from by have h_ := IsS79.own_neN HI652.out HO_669000.out (by decide); intro e_; exact h_ (by rw [e_]; rfl))
            have HX23 := Aside0.mk (show Kd.N k50 50 _ w.heap.size (fun k_ => some k_ ≠ (v665 : Value).ownBlock ∧ some k_ ≠ (.slice Ao10 t657.length co10 : Value).ownBlock ∧ some k_ ≠ (.slice Ao11 t661.length co11 : Value).ownBlock ∧ k_ ≠ gb668 ∧ k_ ≠ g652) (.slice (some ⟨go17, 0, none⟩) x669000_1.length co20) x669000_1 from (Kd.N_mono (HO_669000.out) (fun k_ hk => ⟨hk.1, ⟨hk.2.1, ⟨hk.2.2.1, ⟨hk.2.2.2.1, hk.2.2.2.2⟩⟩⟩⟩)))
            obtain ⟨ce23, hcl23, hM23, hcc23, hfr23⟩ := Kd.N_elem HX23.out z50 (x6_1 : Int) (of_decide_eq_true (by first | (with_reducible assumption) | assumption)) (by have h_ : (x6_1 : Int) < ((x669000_1.length : Int) : Int) := of_decide_eq_true (by first | (with_reducible assumption) | assumption); first | exact h_ | (have e_ := (Kd.N_reads' HO_669000.out).1; omega) | simpa using h_)
            obtain ⟨ua23_0, uc23_0, rfl, ul23_0, ge23_0⟩ := k50_openF hM23
            have HP23 := (Kd.N_seg HX23.out (x6_1 : Int) (of_decide_eq_true (by first | (with_reducible assumption) | assumption)) (by have h_ : (x6_1 : Int) < ((x669000_1.length : Int) : Int) := of_decide_eq_true (by first | (with_reducible assumption) | assumption); first | exact h_ | (have e_ := (Kd.N_reads' HO_669000.out).1; omega) | simpa using h_) (seg := [.bool t670]) (j := 1) hcl23 hcc23 (show 2 ≤ 4 from by decide) (x' := (⟨(rd_T50 x669000_1 x6_1).f0, t670, (rd_T50 x669000_1 x6_1).f2, (rd_T50 x669000_1 x6_1).f3⟩ : S50)) (k50_mkF _ _ (⟨(rd_T50 x669000_1 x6_1).f0, t670, (rd_T50 x669000_1 x6_1).f2, (rd_T50 x669000_1 x6_1).f3⟩ : S50) ul23_0 ge23_0) (fun _ hk => hk)).1
            rw [← Ny672.out] at HP23
            have HQ23 := Aside0.mk HP23
            clear hcl23 hcc23 hfr23 hM23 HP23
            refine hK.out _ _ ⟨(blk_cell BK668.out 0).trans rfl, (blk_cell BK668.out 1).trans rfl, (blk_cell BK668.out 2).trans rfl, (blk_cell BK668.out 3).trans rfl, (blk_cell BK668.out 4).trans rfl, HS5_, HS6_, HS7_, HS8_⟩ (fun hHeld => ?_)
            clear hK K
            refine norm_ (a' := ?_) ?_ ?_
            rotate_left
            · show Act.put _ (some 39) _ = _
              simp only [Act.put, List.setIfInBounds_toArray, List.set_cons_zero, List.set_cons_succ, i64_w, i32_w]
              rfl
            refine pure_ (i := 12) (N := some 40) (v := ?_) (a' := ?_) #[true, true, true, true, true, true, true, true, true, true, true, true, true, false, false, false] rfl rfl (any_of HT_.out (by kernel_rfl)) (fun _ _ _ h => h) (Or.inl ⟨by rfl, ?_⟩) ?_ ?_
            rotate_left
            · intro w'
              go_simp
              with_reducible rfl
            rotate_left
            · simp only [Act.put, List.setIfInBounds_toArray, List.set_cons_zero, List.set_cons_succ, i64_w, i32_w]
              rfl
            refine pure_ (i := 13) (N := some 41) (v := ?_) (a' := ?_) #[true, true, true, true, true, true, true, true, true, true, true, true, true, true, false, false] rfl rfl (any_of HT_.out (by kernel_rfl)) (fun _ _ _ h => h) (Or.inl ⟨by rfl, ?_⟩) ?_ ?_
            rotate_left
            · intro w'
              go_simp
              with_reducible rfl
            rotate_left
            · simp only [Act.put, List.setIfInBounds_toArray, List.set_cons_zero, List.set_cons_succ, i64_w, i32_w]
              rfl
            refine pure_ (i := 14) (N := some 42) (v := ?_) (a' := ?_) #[true, true, true, true, true, true, true, true, true, true, true, true, true, true, true, false] rfl rfl (any_of HT_.out (by kernel_rfl)) (fun _ _ _ h => h) (Or.inl ⟨by rfl, ?_⟩) ?_ ?_
            rotate_left
            · intro w'
              go_simp
              with_reducible rfl
            rotate_left
            · simp only [Act.put, List.setIfInBounds_toArray, List.set_cons_zero, List.set_cons_succ, i64_w, i32_w]
              rfl
            refine last_ (i := 15) (N := none) #[true, true, true, true, true, true, true, true, true, true, true, true, true, true, true, true] rfl rfl (one_of HT_.out (by kernel_rfl)) (by decide) (fun K hK => ?_)
            refine skip_ (w1 := ?_) (by rfl) rfl ?_ ?_
            rotate_left
            · go_simp
              rfl
            refine hK.out _ _ ?_
            clear hK K
            refine done_ (done_of HT_.out (by kernel_rfl)) ?_
            try go_wp2
            go_roundg k1
            case measure => have := HK1.out; omega
            case rel => exact ⟨(wrap64 (x6_1 + 1)), (t671), (y672), (.slice (some ⟨go17, 0, none⟩) x669000_1.length co20), (by first | rfl | (simp; done) | (simp [*]; done)), H', ⟨by have := HK1.out; omega⟩, ⟨by (with_reducible repeat (first | apply Kd.R_alloc | apply Kd.R_drewN | apply Kd.R_drew)); exact Kd.R_mono (Kd.R_far (p := ⟨go17, (x6_1 : Int).toNat * 4 + 1, none⟩) (Kd.R_types HO_5.out GG17.out (by decide)) (fun _ hk => hk.2) (.bool t670)) (fun _ hk => trivial)⟩, ⟨by (with_reducible repeat (first | apply Kd.N_alloc | apply Kd.N_drewN | apply Kd.N_drew)); exact HQ23.out⟩, ⟨by (with_reducible repeat (first | apply Kd.R_alloc | apply Kd.R_drewN | apply Kd.R_drew)); exact Kd.R_mono (Kd.R_far (p := ⟨go17, (x6_1 : Int).toNat * 4 + 1, none⟩) (Kd.R_types HO_669002.out GG17.out (by decide)) (fun _ hk => hk.2) (.bool t670)) (fun _ hk => trivial)⟩, ⟨by (with_reducible repeat (first | apply Kd.R_alloc | apply Kd.R_drewN | apply Kd.R_drew)); exact Kd.R_mono (Kd.R_far (p := ⟨go17, (x6_1 : Int).toNat * 4 + 1, none⟩) (Kd.R_types HO_669004.out GG17.out (by decide)) (fun _ hk => hk.2) (.bool t670)) (fun _ hk => trivial)⟩, ⟨by (with_reducible repeat (first | refine blk_drewN ?_ _ | refine blk_drew ?_ | refine blk_alloc ?_ _)); refine blk_far ?_ (by have h_ := Kd.N_away HO_669000.out (fun _ hk => hk.2.2.2.1); intro e_; exact h_ (by rw [e_]; rfl)) _; (with_reducible repeat (first | refine blk_drewN ?_ _ | refine blk_drew ?_ | refine blk_alloc ?_ _)); exact BK668.out⟩, ⟨by repeat (first | (with_reducible first | exact HI652.out | apply IsS79.alloc | apply IsS79.drewN | apply IsS79.drew | apply IsS79.set_0 | refine IsS79.far ?_ HN652_go17.out _ | refine IsS79.far ?_ NB652_668.out _) | exact HI652.out)⟩, ⟨by repeat (first | (with_reducible first | exact HB.out | apply below_alloc | apply pw_below_drewN | apply below_drew1 | refine below_set ?_ GB17.out | refine below_set ?_ (IsS79.ge HI652.out) | refine below_set ?_ GE668.out) | exact HB.out)⟩⟩
          · replace c15 := Bool.eq_false_iff.mpr c15
            subst c15
            have H1 : (swarflaw04_StripSafe.l0 k1 t664 (wrap64 (x6_1 + 1)) x653000_1 (x669000_1.set (x6_1 : Int).toNat (⟨(rd_T50 x669000_1 x6_1).f0, false, (rd_T50 x669000_1 x6_1).f2, (rd_T50 x669000_1 x6_1).f3⟩ : S50)) t656 t657 t660 t661) = some r := by rw [if_neg (show ¬ (false = true) by decide)] at H; exact H
            clear H
            have H := H1
            clear H1
            obtain ⟨y673, hy673⟩ : ∃ y_ : List (S50), y_ = (x669000_1.set (x6_1 : Int).toNat (⟨(rd_T50 x669000_1 x6_1).f0, false, (rd_T50 x669000_1 x6_1).f2, (rd_T50 x669000_1 x6_1).f3⟩ : S50)) := ⟨_, rfl⟩
            replace H : (swarflaw04_StripSafe.l0 k1 t664 (wrap64 (x6_1 + 1)) x653000_1 y673 t656 t657 t660 t661) = some r := by first | (rw [hy673]; with_reducible exact H) | (have H2_ := (Option.bind_some _ _).symm.trans H; rw [hy673]; with_reducible exact H2_) | (have H2_ := (Option.bind_some _ _).symm.trans H; with_reducible exact H2_) | with_reducible exact H | (rw [hy673]; exact H) | exact H
            have Ny673 := Aside0.mk hy673
            clear hy673
            have H' := Aside0.mk H
            clear H
            have hnb25 := NB668_652.out
            have hnc25 := NB652_668.out
            have hcz26_0 : wr.cell? ⟨gb668, 0, none⟩ = some (u669000) := (blk_cell BK668.out 0).trans rfl
            have hcz26_1 : wr.cell? ⟨gb668, 1, none⟩ = some (.int .i64 t656) := (blk_cell BK668.out 1).trans rfl
            have hcz26_2 : wr.cell? ⟨gb668, 2, none⟩ = some (.slice Ao10 t657.length co10) := (blk_cell BK668.out 2).trans rfl
            have hcz26_3 : wr.cell? ⟨gb668, 3, none⟩ = some (.int .i64 t660) := (blk_cell BK668.out 3).trans rfl
            have hcz26_4 : wr.cell? ⟨gb668, 4, none⟩ = some (.slice Ao11 t661.length co11) := (blk_cell BK668.out 4).trans rfl
            have hfz26_0 := blk_frozen BK668.out 0
            have hfz26_1 := blk_frozen BK668.out 1
            have hfz26_2 := blk_frozen BK668.out 2
            have hfz26_3 := blk_frozen BK668.out 3
            have hfz26_4 := blk_frozen BK668.out 4
            obtain ⟨Ao27, co27, eo27⟩ := Kd.N_slice HO_669000.out
            subst eo27
            try go_wp2
            have n0_ := Aside0.mk (Kd.R_drew HO_5.out)
            have n1_ := Aside0.mk (Kd.N_drew HO_669000.out)
            have n2_ := Aside0.mk (Kd.R_drew HO_669002.out)
            have n3_ := Aside0.mk (Kd.R_drew HO_669004.out)
            have n4_ := Aside0.mk (blk_drew BK668.out)
            have n5_ := Aside0.mk (IsS79.drew HI652.out)
            have n6_ := Aside0.mk (below_drew1 HB.out)
            clear HO_5
            clear HO_669000
            clear HO_669002
            clear HO_669004
            clear BK668
            clear HI652
            clear HB
            have HO_5 := n0_
            have HO_669000 := n1_
            have HO_669002 := n2_
            have HO_669004 := n3_
            have BK668 := n4_
            have HI652 := n5_
            have HB := n6_
            clear n0_ n1_ n2_ n3_ n4_ n5_ n6_
            have p669 : 0 ≤ (x6_1 : Int) := of_decide_eq_true (by first | (with_reducible assumption) | assumption)
            have q669 : x6_1 < (x669000_1.length : Int) := of_decide_eq_true (by first | (with_reducible assumption) | assumption)
            obtain ⟨ad669, A669_0, c669_0, e669, hx669_0, hx669_1, hx669_2, hx669_3, hl669_0, hi669_0⟩ := at_T50 (Kd.N_reads' HO_669000.out).2.2 x6_1 p669 q669
            (try rw [← Nbq14.out] at hx669_1)
            cases e669
            obtain ⟨ce669, hce669, hMe669, hcc669⟩ := Kd.N_get HO_669000.out z50 x6_1 p669 (by first | exact q669 | exact of_decide_eq_true (by first | (with_reducible assumption) | assumption) | (have e_ := (Kd.N_reads' HO_669000.out).1; omega))
            obtain ⟨ua669_0, uc669_0, rfl, ul669_0, ge669_0⟩ := k50_openF hMe669
            have hv669_0 := hcc669 0 _ rfl
            rw [Nat.add_zero] at hv669_0
            replace hv669_0 := Option.some.inj (hv669_0.symm.trans hx669_0)
            injection hv669_0 with hva_ hvn_ hvc_
            rw [hva_] at ge669_0
            rw [hvc_] at ul669_0
            have HL669_0 := Aside0.mk (show Kd.V (Kd.int .i64) 3 _ w.heap.size _ _ ((rd_T50 x669000_1 x6_1).f0) from Kd.V_mk ul669_0 ge669_0)
            clear hva_ hvn_ hvc_ ge669_0 ul669_0
            clear hcc669 hce669
            have HR669_0 := Aside0.mk hi669_0
            have HC669_0 := Aside0.mk hl669_0
            clear hi669_0 hl669_0
            replace p669 := eq_true p669
            replace q669 := eq_true q669
            have p24 : 0 ≤ (x6_1 : Int) := of_decide_eq_true (by first | (with_reducible assumption) | assumption)
            have q24 : (x6_1 : Int) < ((x669000_1.length : Int) : Int) := of_decide_eq_true (by first | (with_reducible assumption) | assumption)
            obtain ⟨go24, co24, eo24, gb24, gl24, cl24, HG24⟩ := Kd.N_form HO_669000.out (by omega)
            (first | cases eo24 | (injection eo24 with ea_ en_ ec_; (first | subst ea_ | (injection ea_ with ea_; subst ea_)); subst ec_; clear en_))
            have GB24 := Aside0.mk gb24
            have GG24 := Aside0.mk HG24
            clear gb24 gl24 HG24
            (first | simp only [add_plain] at hx669_0 | skip)
            (first | simp only [add_plain] at hx669_1 | skip)
            (first | simp only [add_plain] at hx669_2 | skip)
            (first | simp only [add_plain] at hx669_3 | skip)
            obtain ⟨ce24, hcl24, hM24, hcc24, hfr24⟩ := Kd.N_elem HO_669000.out z50 (x6_1 : Int) p24 q24
            obtain ⟨ua24_0, uc24_0, rfl, ul24_0, ge24_0⟩ := k50_openF hM24
            have hx24_0 : World.cell? _ ⟨go24, (x6_1 : Int).toNat * 4, none⟩ = some (.slice ua24_0 ((rd_T50 x669000_1 x6_1).f0).length uc24_0) := hcc24 0 _ rfl
            have hx24_1 : World.cell? _ ⟨go24, (x6_1 : Int).toNat * 4 + 1, none⟩ = some (.bool ((rd_T50 x669000_1 x6_1).f1)) := hcc24 1 _ rfl
            have hx24_2 : World.cell? _ ⟨go24, (x6_1 : Int).toNat * 4 + 2, none⟩ = some (.int .i64 ((rd_T50 x669000_1 x6_1).f2)) := hcc24 2 _ rfl
            have hx24_3 : World.cell? _ ⟨go24, (x6_1 : Int).toNat * 4 + 3, none⟩ = some (.int .i64 ((rd_T50 x669000_1 x6_1).f3)) := hcc24 3 _ rfl
            have hf24_0 : World.frozen? _ ⟨go24, (x6_1 : Int).toNat * 4, none⟩ = false := hfr24 0
            have hf24_1 : World.frozen? _ ⟨go24, (x6_1 : Int).toNat * 4 + 1, none⟩ = false := hfr24 1
            have hf24_2 : World.frozen? _ ⟨go24, (x6_1 : Int).toNat * 4 + 2, none⟩ = false := hfr24 2
            have hf24_3 : World.frozen? _ ⟨go24, (x6_1 : Int).toNat * 4 + 3, none⟩ = false := hfr24 3
            clear hcl24 hcc24 hfr24 hM24
            replace p24 := eq_true p24
            replace q24 := eq_true q24
            have HN652_go24 := Aside0.mk (show g652 ≠ go24 from by have h_ := IsS79.own_neN HI652.out HO_669000.out (by decide); intro e_; exact h_ (by rw [e_]; rfl))
            have HX29 := Aside0.mk (show Kd.N k50 50 _ w.heap.size (fun k_ => some k_ ≠ (v665 : Value).ownBlock ∧ some k_ ≠ (.slice Ao10 t657.length co10 : Value).ownBlock ∧ some k_ ≠ (.slice Ao11 t661.length co11 : Value).ownBlock ∧ k_ ≠ gb668 ∧ k_ ≠ g652) (.slice (some ⟨go24, 0, none⟩) x669000_1.length co27) x669000_1 from (Kd.N_mono (HO_669000.out) (fun k_ hk => ⟨hk.1, ⟨hk.2.1, ⟨hk.2.2.1, ⟨hk.2.2.2.1, hk.2.2.2.2⟩⟩⟩⟩)))
            obtain ⟨ce29, hcl29, hM29, hcc29, hfr29⟩ := Kd.N_elem HX29.out z50 (x6_1 : Int) (of_decide_eq_true (by first | (with_reducible assumption) | assumption)) (by have h_ : (x6_1 : Int) < ((x669000_1.length : Int) : Int) := of_decide_eq_true (by first | (with_reducible assumption) | assumption); first | exact h_ | (have e_ := (Kd.N_reads' HO_669000.out).1; omega) | simpa using h_)
            obtain ⟨ua29_0, uc29_0, rfl, ul29_0, ge29_0⟩ := k50_openF hM29
            have HP29 := (Kd.N_seg HX29.out (x6_1 : Int) (of_decide_eq_true (by first | (with_reducible assumption) | assumption)) (by have h_ : (x6_1 : Int) < ((x669000_1.length : Int) : Int) := of_decide_eq_true (by first | (with_reducible assumption) | assumption); first | exact h_ | (have e_ := (Kd.N_reads' HO_669000.out).1; omega) | simpa using h_) (seg := [.bool false]) (j := 1) hcl29 hcc29 (show 2 ≤ 4 from by decide) (x' := (⟨(rd_T50 x669000_1 x6_1).f0, false, (rd_T50 x669000_1 x6_1).f2, (rd_T50 x669000_1 x6_1).f3⟩ : S50)) (k50_mkF _ _ (⟨(rd_T50 x669000_1 x6_1).f0, false, (rd_T50 x669000_1 x6_1).f2, (rd_T50 x669000_1 x6_1).f3⟩ : S50) ul29_0 ge29_0) (fun _ hk => hk)).1
            rw [← Ny673.out] at HP29
            have HQ29 := Aside0.mk HP29
            clear hcl29 hcc29 hfr29 hM29 HP29
            refine start_ (n := 16) (S := fun w' => w'.cell? ⟨gb668, 0, none⟩ = some (.slice (some ⟨go24, 0, none⟩) x669000_1.length co27) ∧ w'.cell? ⟨gb668, 1, none⟩ = some (.int .i64 t656) ∧ w'.cell? ⟨gb668, 2, none⟩ = some (.slice Ao10 t657.length co10) ∧ w'.cell? ⟨gb668, 3, none⟩ = some (.int .i64 t660) ∧ w'.cell? ⟨gb668, 4, none⟩ = some (.slice Ao11 t661.length co11) ∧ w'.cell? ⟨go24, ((x6_1).toNat * 4), none⟩ = some (.slice A669_0 ((rd_T50 x669000_1 x6_1).f0).length c669_0) ∧ w'.cell? ⟨go24, ((x6_1).toNat * 4) + 1, none⟩ = some (.bool false) ∧ w'.cell? ⟨go24, ((x6_1).toNat * 4) + 2, none⟩ = some (.int .i64 ((rd_T50 x669000_1 x6_1).f2)) ∧ w'.cell? ⟨go24, ((x6_1).toNat * 4) + 3, none⟩ = some (.int .i64 ((rd_T50 x669000_1 x6_1).f3))) (ds := [15]) #[false, false, false, false, false, false, false, false, false, false, false, false, false, false, false, false] (by kernel_rfl) rfl rfl ⟨(blk_cell BK668.out 0).trans rfl, (blk_cell BK668.out 1).trans rfl, (blk_cell BK668.out 2).trans rfl, (blk_cell BK668.out 3).trans rfl, (blk_cell BK668.out 4).trans rfl, hx669_0, hx669_1, hx669_2, hx669_3⟩ (fun hHeld => ?_); refine with_tabW swarflaw04_StripSafe.tab6 swarflaw04_StripSafe.bits6 (fun HT_ HW_ => ?_)
            generalize wr.drew = w28 at HO_5 HO_669000 HO_669002 HO_669004 BK668 HI652 HB GG24 HL669_0 HQ29 HR669_0 hf24_0 hf24_1 hf24_2 hf24_3 hx24_0 hx24_1 hx24_2 hx24_3 hx669_0 hx669_1 hx669_2 hx669_3 hHeld ⊢
            refine pure_ (i := 0) (N := some 28) (v := ?_) (a' := ?_) #[true, false, false, false, false, false, false, false, false, false, false, false, false, false, false, false] rfl rfl (any_of HT_.out (by kernel_rfl)) (fun _ _ _ h => h) (Or.inl ⟨by rfl, ?_⟩) ?_ ?_
            rotate_left
            · intro w'
              go_simp
              with_reducible rfl
            rotate_left
            · simp only [Act.put, List.setIfInBounds_toArray, List.set_cons_zero, List.set_cons_succ, i64_w, i32_w]
              rfl
            refine pure_ (i := 2) (N := some 30) (v := ?_) (a' := ?_) #[true, false, true, false, false, false, false, false, false, false, false, false, false, false, false, false] rfl rfl (any_of HT_.out (by kernel_rfl)) (fun _ _ _ h => h) (Or.inl ⟨by rfl, ?_⟩) ?_ ?_
            rotate_left
            · intro w'
              go_simp
              with_reducible rfl
            rotate_left
            · simp only [Act.put, List.setIfInBounds_toArray, List.set_cons_zero, List.set_cons_succ, i64_w, i32_w]
              rfl
            refine pure_ (i := 3) (N := some 31) (v := ?_) (a' := ?_) #[true, false, true, true, false, false, false, false, false, false, false, false, false, false, false, false] rfl rfl (any_of HT_.out (by kernel_rfl)) (fun _ _ _ h => h) (Or.inl ⟨by rfl, ?_⟩) ?_ ?_
            rotate_left
            · intro w'
              go_simp
              with_reducible rfl
            rotate_left
            · simp only [Act.put, List.setIfInBounds_toArray, List.set_cons_zero, List.set_cons_succ, i64_w, i32_w]
              rfl
            refine pure_ (i := 5) (N := some 33) (v := ?_) (a' := ?_) #[true, false, true, true, false, true, false, false, false, false, false, false, false, false, false, false] rfl rfl (any_of HT_.out (by kernel_rfl)) (fun _ _ _ h => h) (Or.inl ⟨by rfl, ?_⟩) ?_ ?_
            rotate_left
            · intro w'
              go_simp
              with_reducible rfl
            rotate_left
            · simp only [Act.put, List.setIfInBounds_toArray, List.set_cons_zero, List.set_cons_succ, i64_w, i32_w]
              rfl
            refine take_ (i := 1) (N := some 29) (v := ?_) (a' := ?_) #[true, true, true, true, false, true, false, false, false, false, false, false, false, false, false, false] rfl rfl (take_ofW HT_.out HW_.out (by kernel_rfl)) (fun _ _ _ h => h) (Or.inl ⟨by rfl, ?_⟩) hHeld ?_ ?_
            rotate_left
            · rintro w' ⟨s0, s1, s2, s3, s4, s5, s6, s7, s8⟩
              go_simp
              with_reducible rfl
            rotate_left
            · simp only [Act.put, List.setIfInBounds_toArray, List.set_cons_zero, List.set_cons_succ, i64_w, i32_w]
              rfl
            refine take_ (i := 4) (N := some 32) (v := ?_) (a' := ?_) #[true, true, true, true, true, true, false, false, false, false, false, false, false, false, false, false] rfl rfl (take_ofW HT_.out HW_.out (by kernel_rfl)) (fun _ _ _ h => h) (Or.inl ⟨by rfl, ?_⟩) hHeld ?_ ?_
            rotate_left
            · rintro w' ⟨s0, s1, s2, s3, s4, s5, s6, s7, s8⟩
              go_simp
              with_reducible rfl
            rotate_left
            · simp only [Act.put, List.setIfInBounds_toArray, List.set_cons_zero, List.set_cons_succ, i64_w, i32_w]
              rfl
            refine pure_ (i := 6) (N := some 34) (v := ?_) (a' := ?_) #[true, true, true, true, true, true, true, false, false, false, false, false, false, false, false, false] rfl rfl (any_of HT_.out (by kernel_rfl)) (fun _ _ _ h => h) (Or.inl ⟨by rfl, ?_⟩) ?_ ?_
            rotate_left
            · intro w'
              go_simp
              with_reducible rfl
            rotate_left
            · simp only [Act.put, List.setIfInBounds_toArray, List.set_cons_zero, List.set_cons_succ, i64_w, i32_w]
              rfl
            refine pure_ (i := 7) (N := some 35) (v := ?_) (a' := ?_) #[true, true, true, true, true, true, true, true, false, false, false, false, false, false, false, false] rfl rfl (any_of HT_.out (by kernel_rfl)) (fun _ _ _ h => h) (Or.inl ⟨by rfl, ?_⟩) ?_ ?_
            rotate_left
            · intro w'
              go_simp
              with_reducible rfl
            rotate_left
            · simp only [Act.put, List.setIfInBounds_toArray, List.set_cons_zero, List.set_cons_succ, i64_w, i32_w]
              rfl
            refine take_ (i := 8) (N := some 36) (v := ?_) (a' := ?_) #[true, true, true, true, true, true, true, true, true, false, false, false, false, false, false, false] rfl rfl (take_ofW HT_.out HW_.out (by kernel_rfl)) (fun _ _ _ h => h) (Or.inl ⟨by rfl, ?_⟩) hHeld ?_ ?_
            rotate_left
            · rintro w' ⟨s0, s1, s2, s3, s4, s5, s6, s7, s8⟩
              go_simp
              with_reducible rfl
            rotate_left
            · simp only [Act.put, List.setIfInBounds_toArray, List.set_cons_zero, List.set_cons_succ, i64_w, i32_w]
              rfl
            refine pure_ (i := 9) (N := some 37) (v := ?_) (a' := ?_) #[true, true, true, true, true, true, true, true, true, true, false, false, false, false, false, false] rfl rfl (any_of HT_.out (by kernel_rfl)) (fun _ _ _ h => h) (Or.inl ⟨by rfl, ?_⟩) ?_ ?_
            rotate_left
            · intro w'
              go_simp
              with_reducible rfl
            rotate_left
            · simp only [Act.put, List.setIfInBounds_toArray, List.set_cons_zero, List.set_cons_succ, i64_w, i32_w]
              rfl
            refine pure_ (i := 10) (N := some 38) (v := undef) (a' := ?_) #[true, true, true, true, true, true, true, true, true, true, true, false, false, false, false, false] rfl rfl (any_of HT_.out (by kernel_rfl)) (fun _ _ _ h => h) (Or.inr ⟨by rfl, rfl⟩) ?_ ?_
            rotate_left
            · simp only [Act.put, List.setIfInBounds_toArray, List.set_cons_zero, List.set_cons_succ, i64_w, i32_w]
              rfl
            refine pure_ (i := 11) (N := some 39) (v := undef) (a' := ?_) #[true, true, true, true, true, true, true, true, true, true, true, true, false, false, false, false] rfl rfl (any_of HT_.out (by kernel_rfl)) (fun _ _ _ h => h) (Or.inr ⟨by rfl, rfl⟩) ?_ ?_
            rotate_left
            · simp only [Act.put, List.setIfInBounds_toArray, List.set_cons_zero, List.set_cons_succ, i64_w, i32_w]
              rfl
            refine pure_ (i := 12) (N := some 40) (v := ?_) (a' := ?_) #[true, true, true, true, true, true, true, true, true, true, true, true, true, false, false, false] rfl rfl (any_of HT_.out (by kernel_rfl)) (fun _ _ _ h => h) (Or.inl ⟨by rfl, ?_⟩) ?_ ?_
            rotate_left
            · intro w'
              go_simp
              with_reducible rfl
            rotate_left
            · simp only [Act.put, List.setIfInBounds_toArray, List.set_cons_zero, List.set_cons_succ, i64_w, i32_w]
              rfl
            refine pure_ (i := 13) (N := some 41) (v := ?_) (a' := ?_) #[true, true, true, true, true, true, true, true, true, true, true, true, true, true, false, false] rfl rfl (any_of HT_.out (by kernel_rfl)) (fun _ _ _ h => h) (Or.inl ⟨by rfl, ?_⟩) ?_ ?_
            rotate_left
            · intro w'
              go_simp
              with_reducible rfl
            rotate_left
            · simp only [Act.put, List.setIfInBounds_toArray, List.set_cons_zero, List.set_cons_succ, i64_w, i32_w]
              rfl
            refine pure_ (i := 14) (N := some 42) (v := ?_) (a' := ?_) #[true, true, true, true, true, true, true, true, true, true, true, true, true, true, true, false] rfl rfl (any_of HT_.out (by kernel_rfl)) (fun _ _ _ h => h) (Or.inl ⟨by rfl, ?_⟩) ?_ ?_
            rotate_left
            · intro w'
              go_simp
              with_reducible rfl
            rotate_left
            · simp only [Act.put, List.setIfInBounds_toArray, List.set_cons_zero, List.set_cons_succ, i64_w, i32_w]
              rfl
            refine last_ (i := 15) (N := none) #[true, true, true, true, true, true, true, true, true, true, true, true, true, true, true, true] rfl rfl (one_of HT_.out (by kernel_rfl)) (by decide) (fun K hK => ?_)
            refine skip_ (w1 := ?_) (by rfl) rfl ?_ ?_
            rotate_left
            · go_simp
              rfl
            refine hK.out _ _ ?_
            clear hK K
            refine done_ (done_of HT_.out (by kernel_rfl)) ?_
            try go_wp2
            go_roundg k1
            case measure => have := HK1.out; omega
            case rel => exact ⟨(wrap64 (x6_1 + 1)), (x653000_1), (y673), (.slice (some ⟨go24, 0, none⟩) x669000_1.length co27), (by first | rfl | (simp; done) | (simp [*]; done)), H', ⟨by have := HK1.out; omega⟩, ⟨by (with_reducible repeat (first | apply Kd.R_alloc | apply Kd.R_drewN | apply Kd.R_drew)); exact Kd.R_mono (Kd.R_far (p := ⟨go24, (x6_1 : Int).toNat * 4 + 1, none⟩) (Kd.R_types HO_5.out GG24.out (by decide)) (fun _ hk => hk.2) (.bool false)) (fun _ hk => trivial)⟩, ⟨by (with_reducible repeat (first | apply Kd.N_alloc | apply Kd.N_drewN | apply Kd.N_drew)); exact HQ29.out⟩, ⟨by (with_reducible repeat (first | apply Kd.R_alloc | apply Kd.R_drewN | apply Kd.R_drew)); exact Kd.R_mono (Kd.R_far (p := ⟨go24, (x6_1 : Int).toNat * 4 + 1, none⟩) (Kd.R_types HO_669002.out GG24.out (by decide)) (fun _ hk => hk.2) (.bool false)) (fun _ hk => trivial)⟩, ⟨by (with_reducible repeat (first | apply Kd.R_alloc | apply Kd.R_drewN | apply Kd.R_drew)); exact Kd.R_mono (Kd.R_far (p := ⟨go24, (x6_1 : Int).toNat * 4 + 1, none⟩) (Kd.R_types HO_669004.out GG24.out (by decide)) (fun _ hk => hk.2) (.bool false)) (fun _ hk => trivial)⟩, ⟨by (with_reducible repeat (first | refine blk_drewN ?_ _ | refine blk_drew ?_ | refine blk_alloc ?_ _)); refine blk_far ?_ (by have h_ := Kd.N_away HO_669000.out (fun _ hk => hk.2.2.2.1); intro e_; exact h_ (by rw [e_]; rfl)) _; (with_reducible repeat (first | refine blk_drewN ?_ _ | refine blk_drew ?_ | refine blk_alloc ?_ _)); exact BK668.out⟩, ⟨by repeat (first | (with_reducible first | exact HI652.out | apply IsS79.alloc | apply IsS79.drewN | apply IsS79.drew | apply IsS79.set_0 | refine IsS79.far ?_ HN652_go24.out _ | refine IsS79.far ?_ NB652_668.out _) | exact HI652.out)⟩, ⟨by repeat (first | (with_reducible first | exact HB.out | apply below_alloc | apply pw_below_drewN | apply below_drew1 | refine below_set ?_ GB24.out | refine below_set ?_ (IsS79.ge HI652.out) | refine below_set ?_ GE668.out) | exact HB.out)⟩⟩
        · rw [if_neg c13] at H
          exact absurd H (by simp)
      · rw [if_neg c12] at H
        have c12b0 : decide (x6_1 < (x669000_1.length : Int)) = false := decide_eq_false c12
        clear c12
        replace H := Option.bind_eq_some_iff.mp H
        obtain ⟨⟨t674, t677⟩, A300, H⟩ := H
        replace H : ((swarfkit_Feed_Between.f t677 0 9).bind fun bt678 => (if 0 ≤ bt678.1 then (if bt678.1 ≤ (t674.length : Int) then ((some (t674.take (bt678.1 : Int).toNat : List Int)).bind fun y680 => ((strip_Crush.f x669000_1 t656 t657 t660 t661 y680).bind fun t685 => (swarflaw04_StripSafe.l1 k1 t664 y680 t685 true 0 x669000_1 t656 t657 t660 t661))) else (none)) else (none))) = some r := H
        have A30 := Aside0.mk A300
        clear A300
        replace H := Option.bind_eq_some_iff.mp H
        obtain ⟨⟨t678, t679⟩, A310, H⟩ := H
        replace H : (if 0 ≤ t678 then (if t678 ≤ (t674.length : Int) then ((some (t674.take (t678 : Int).toNat : List Int)).bind fun y680 => ((strip_Crush.f x669000_1 t656 t657 t660 t661 y680).bind fun t685 => (swarflaw04_StripSafe.l1 k1 t664 y680 t685 true 0 x669000_1 t656 t657 t660 t661))) else (none)) else (none)) = some r := H
        have A31 := Aside0.mk A310
        clear A310
        by_cases c32 : 0 ≤ t678
        · rw [if_pos c32] at H
          have c32b0 := eq_true c32
          have c32b1 : decide (0 ≤ t678) = true := decide_eq_true c32
          clear c32
          by_cases c33 : t678 ≤ (t674.length : Int)
          · rw [if_pos c33] at H
            have c33b0 := eq_true c33
            have c33b1 : decide (t678 ≤ (t674.length : Int)) = true := decide_eq_true c33
            clear c33
            obtain ⟨y680, hy680⟩ : ∃ y_ : List Int, y_ = (t674.take (t678 : Int).toNat) := ⟨_, rfl⟩
            replace H : ((strip_Crush.f x669000_1 t656 t657 t660 t661 y680).bind fun t685 => (swarflaw04_StripSafe.l1 k1 t664 y680 t685 true 0 x669000_1 t656 t657 t660 t661)) = some r := by first | (rw [hy680]; with_reducible exact H) | (have H2_ := (Option.bind_some _ _).symm.trans H; rw [hy680]; with_reducible exact H2_) | (have H2_ := (Option.bind_some _ _).symm.trans H; with_reducible exact H2_) | with_reducible exact H | (rw [hy680]; exact H) | exact H
            have Ny680 := Aside0.mk hy680
            clear hy680
            replace H := Option.bind_eq_some_iff.mp H
            obtain ⟨t685, A340, H⟩ := H
            replace H : (swarflaw04_StripSafe.l1 k1 t664 y680 t685 true 0 x669000_1 t656 t657 t660 t661) = some r := H
            have A34 := Aside0.mk A340
            clear A340
            have H' := Aside0.mk H
            clear H
            have hnb35 := NB668_652.out
            have hnc35 := NB652_668.out
            have hcz36_0 : wr.cell? ⟨gb668, 0, none⟩ = some (u669000) := (blk_cell BK668.out 0).trans rfl
            have hcz36_1 : wr.cell? ⟨gb668, 1, none⟩ = some (.int .i64 t656) := (blk_cell BK668.out 1).trans rfl
            have hcz36_2 : wr.cell? ⟨gb668, 2, none⟩ = some (.slice Ao10 t657.length co10) := (blk_cell BK668.out 2).trans rfl
            have hcz36_3 : wr.cell? ⟨gb668, 3, none⟩ = some (.int .i64 t660) := (blk_cell BK668.out 3).trans rfl
            have hcz36_4 : wr.cell? ⟨gb668, 4, none⟩ = some (.slice Ao11 t661.length co11) := (blk_cell BK668.out 4).trans rfl
            have hfz36_0 := blk_frozen BK668.out 0
            have hfz36_1 := blk_frozen BK668.out 1
            have hfz36_2 := blk_frozen BK668.out 2
            have hfz36_3 := blk_frozen BK668.out 3
            have hfz36_4 := blk_frozen BK668.out 4
            obtain ⟨Ao37, co37, eo37⟩ := Kd.N_slice HO_669000.out
            subst eo37
            go_wp2_with (first | ((with_reducible refine gate_callee (f := 42) rfl ?_); refine goesL_ (some 44) rfl rfl Try.func42 (by kernel_rfl) rfl #[.pointer (some ⟨g652, 0, none⟩), .int .i64 9] rfl (by (try simp only [List.map_toArray, List.map_cons, List.map_nil]); first | done | rfl | (simp only [List.length_drop, List.length_take]; rfl)) ?_; (with_reducible refine (swarfkit_Feed_Order.calls k1 g652 x653000_1 9 t674 t677 w _ ?side1 ?side2 A30.out).mono ?_); (case side1 => repeat (first | (with_reducible first | exact HI652.out | apply IsS79.alloc | apply IsS79.drewN | apply IsS79.drew | apply IsS79.set_0 | refine IsS79.far ?_ NB652_668.out _) | exact HI652.out)); (case side2 => repeat (first | (with_reducible first | exact HB.out | apply below_alloc | apply pw_below_drewN | apply below_drew1 | refine below_set ?_ (IsS79.ge HI652.out) | refine below_set ?_ GE668.out) | exact HB.out)); rintro e w38 ⟨v675, rfl, ho0, hi, hb, hk⟩; refine ⟨_, rfl, ?_⟩; have n0_ := Aside0.mk (Kd.R_mono (Kd.R_keep (IsS79.apart (show IsS79 w _ g652 x653000_1 from by repeat (first | (with_reducible first | exact HI652.out | apply IsS79.alloc | apply IsS79.drewN | apply IsS79.drew | apply IsS79.set_0 | refine IsS79.far ?_ NB652_668.out _) | exact HI652.out)) (by (with_reducible repeat (first | apply Kd.R_alloc | apply Kd.R_drewN | apply Kd.R_drew)); exact HO_5.out) (by decide)) hk (fun _ h => h.2)) (fun _ h => h.1)); have n1_ := Aside0.mk (Kd.N_mono (Kd.N_told (Kd.N_oldK (Kd.N_mono (ok := fun k_ => (some k_ ≠ (v665 : Value).ownBlock ∧ (some k_ ≠ (.slice Ao10 t657.length co10 : Value).ownBlock ∧ (some k_ ≠ (.slice Ao11 t661.length co11 : Value).ownBlock ∧ (k_ ≠ gb668 ∧ k_ ≠ g652))))) (by (with_reducible repeat (first | apply Kd.N_alloc | apply Kd.N_drewN | apply Kd.N_drew)); exact HO_669000.out) (fun k_ hk_ => (⟨hk_, hk_.2.2.2.2⟩ : _ ∧ k_ ≠ g652))) hk) (Kd.R_base ho0)) (fun _ h_ => h_.1)); have n2_ := Aside0.mk (Kd.R_mono (Kd.R_keep (IsS79.apart (show IsS79 w _ g652 x653000_1 from by repeat (first | (with_reducible first | exact HI652.out | apply IsS79.alloc | apply IsS79.drewN | apply IsS79.drew | apply IsS79.set_0 | refine IsS79.far ?_ NB652_668.out _) | exact HI652.out)) (by (with_reducible repeat (first | apply Kd.R_alloc | apply Kd.R_drewN | apply Kd.R_drew)); exact HO_669002.out) (by decide)) hk (fun _ h => h.2)) (fun _ h => h.1)); have n3_ := Aside0.mk (Kd.R_mono (Kd.R_told (Kd.R_oldK (IsS79.apart (show IsS79 w _ g652 x653000_1 from by repeat (first | (with_reducible first | exact HI652.out | apply IsS79.alloc | apply IsS79.drewN | apply IsS79.drew | apply IsS79.set_0 | refine IsS79.far ?_ NB652_668.out _) | exact HI652.out)) (by (with_reducible repeat (first | apply Kd.R_alloc | apply Kd.R_drewN | apply Kd.R_drew)); exact HO_669004.out) (by decide)) hk) (Kd.R_base ho0)) (fun _ h_ => h_.1)); have n4_ := Aside0.mk (KeepBut.blk hk (g' := gb668) (o := .cells #[.slice Ao37 x669000_1.length co37, .int .i64 t656, .slice Ao10 t657.length co10, .int .i64 t660, .slice Ao11 t661.length co11] 26 (0, 0)) (by (with_reducible repeat (first | refine blk_drewN ?_ _ | refine blk_drew ?_ | refine blk_alloc ?_ _)); exact BK668.out) NB668_652.out (by simp)); have n5_ := Aside0.mk (Kd.R_lower (Kd.R_new' ho0 (Kd.R_lt (by (with_reducible repeat (first | apply Kd.R_alloc | apply Kd.R_drewN | apply Kd.R_drew)); exact HO_669004.out))) (below_size (by repeat (first | (with_reducible first | exact HB.out | apply below_alloc | apply pw_below_drewN | apply below_drew1 | refine below_set ?_ (IsS79.ge HI652.out) | refine below_set ?_ GE668.out) | exact HB.out)))); have n6_ := Aside0.mk (hb); have n7_ := Aside0.mk (hi); clear HO_5; clear HO_669000; clear HO_669002; clear HO_669004; clear BK668; clear HB; clear HI652; have HO_5 := n0_; have HO_669000 := n1_; have HO_669002 := n2_; have HO_669004 := n3_; have BK668 := n4_; have HO676 := n5_; have HB := n6_; have HI652 := n7_; clear n0_ n1_ n2_ n3_ n4_ n5_ n6_ n7_; (try clear hb); (try clear hb2); (try clear hk); (try clear hi); (try clear ho0)) | ((with_reducible refine gate_callee (f := 46) rfl ?_); refine goesL_ (some 46) rfl rfl Try.func46 (by kernel_rfl) rfl #[.pointer (some ⟨g652, 0, none⟩), .int .i64 0, .int .i64 9] rfl (by (try simp only [List.map_toArray, List.map_cons, List.map_nil]); first | done | rfl | (simp only [List.length_drop, List.length_take]; rfl)) ?_; (with_reducible refine (swarfkit_Feed_Between.calls g652 t677 0 9 t678 t679 w _ ?side1 ?side2 A31.out).mono ?_); (case side1 => repeat (first | (with_reducible first | exact HI652.out | apply IsS79.alloc | apply IsS79.drewN | apply IsS79.drew | apply IsS79.set_0 | refine IsS79.far ?_ NB652_668.out _) | exact HI652.out)); (case side2 => repeat (first | (with_reducible first | exact HB.out | apply below_alloc | apply pw_below_drewN | apply below_drew1 | refine below_set ?_ (IsS79.ge HI652.out) | refine below_set ?_ GE668.out) | exact HB.out)); rintro e w39 ⟨rfl, hi, hb, hk⟩; refine ⟨_, rfl, ?_⟩; have n0_ := Aside0.mk (Kd.R_mono (Kd.R_keep (IsS79.apart (show IsS79 w _ g652 t677 from by repeat (first | (with_reducible first | exact HI652.out | apply IsS79.alloc | apply IsS79.drewN | apply IsS79.drew | apply IsS79.set_0 | refine IsS79.far ?_ NB652_668.out _) | exact HI652.out)) (by (with_reducible repeat (first | apply Kd.R_alloc | apply Kd.R_drewN | apply Kd.R_drew)); exact HO_5.out) (by decide)) hk (fun _ h => h.2)) (fun _ h => h.1)); have n1_ := Aside0.mk (Kd.N_mono (Kd.N_keep (Kd.N_mono (ok := fun k_ => ((some k_ ≠ (v665 : Value).ownBlock ∧ (some k_ ≠ (.slice Ao10 t657.length co10 : Value).ownBlock ∧ (some k_ ≠ (.slice Ao11 t661.length co11 : Value).ownBlock ∧ (k_ ≠ gb668 ∧ k_ ≠ g652)))) ∧ some k_ ≠ (v675 : Value).ownBlock)) (by (with_reducible repeat (first | apply Kd.N_alloc | apply Kd.N_drewN | apply Kd.N_drew)); exact HO_669000.out) (fun k_ hk_ => (⟨hk_, hk_.1.2.2.2.2⟩ : _ ∧ k_ ≠ g652))) hk (fun _ h => h.2)) (fun _ h => h.1)); have n2_ := Aside0.mk (Kd.R_mono (Kd.R_keep (IsS79.apart (show IsS79 w _ g652 t677 from by repeat (first | (with_reducible first | exact HI652.out | apply IsS79.alloc | apply IsS79.drewN | apply IsS79.drew | apply IsS79.set_0 | refine IsS79.far ?_ NB652_668.out _) | exact HI652.out)) (by (with_reducible repeat (first | apply Kd.R_alloc | apply Kd.R_drewN | apply Kd.R_drew)); exact HO_669002.out) (by decide)) hk (fun _ h => h.2)) (fun _ h => h.1)); have n3_ := Aside0.mk (Kd.R_mono (Kd.R_keep (IsS79.apart (show IsS79 w _ g652 t677 from by repeat (first | (with_reducible first | exact HI652.out | apply IsS79.alloc | apply IsS79.drewN | apply IsS79.drew | apply IsS79.set_0 | refine IsS79.far ?_ NB652_668.out _) | exact HI652.out)) (by (with_reducible repeat (first | apply Kd.R_alloc | apply Kd.R_drewN | apply Kd.R_drew)); exact HO_669004.out) (by decide)) hk (fun _ h => h.2)) (fun _ h => h.1)); have n4_ := Aside0.mk (KeepBut.blk hk (g' := gb668) (o := .cells #[.slice Ao37 x669000_1.length co37, .int .i64 t656, .slice Ao10 t657.length co10, .int .i64 t660, .slice Ao11 t661.length co11] 26 (0, 0)) (by (with_reducible repeat (first | refine blk_drewN ?_ _ | refine blk_drew ?_ | refine blk_alloc ?_ _)); exact BK668.out) NB668_652.out (by simp)); have n5_ := Aside0.mk (Kd.R_mono (Kd.R_keep (IsS79.apart (show IsS79 w _ g652 t677 from by repeat (first | (with_reducible first | exact HI652.out | apply IsS79.alloc | apply IsS79.drewN | apply IsS79.drew | apply IsS79.set_0 | refine IsS79.far ?_ NB652_668.out _) | exact HI652.out)) (by (with_reducible repeat (first | apply Kd.R_alloc | apply Kd.R_drewN | apply Kd.R_drew)); exact HO676.out) (by decide)) hk (fun _ h => h.2)) (fun _ h => h.1)); have n6_ := Aside0.mk (hb); have n7_ := Aside0.mk (hi); clear HO_5; clear HO_669000; clear HO_669002; clear HO_669004; clear BK668; clear HO676; clear HB; clear HI652; have HO_5 := n0_; have HO_669000 := n1_; have HO_669002 := n2_; have HO_669004 := n3_; have BK668 := n4_; have HO676 := n5_; have HB := n6_; have HI652 := n7_; clear n0_ n1_ n2_ n3_ n4_ n5_ n6_ n7_; (try clear hb); (try clear hb2); (try clear hk); (try clear hi); obtain ⟨Ao41, co41, eo41⟩ := Kd.R_slice HO676.out; subst eo41; have q40 : (t678 : Int) ≤ ((t674.length : Int) : Int) := of_decide_eq_true (by first | (with_reducible assumption) | assumption); obtain ⟨i040, hi040, _, hsz40, _⟩ := info_parts info3; have hroom40 : t674.length ≤ co41 := (Kd.R_reads' HO676.out).2.1; have hC40 : Kd.F (Kd.int .i64) _ _ Ao41 t674.length t674 := (Kd.V_at (base := w.heap.size) (Kd.R_V (IsS79.apart HI652.out (Kd.R_types (Kd.R_apart' (Kd.R_apart' (Kd.R_apart' (HO676.out) (Kd.R_typed HO_5.out) (by decide)) (Kd.N_typed HO_669000.out) (by decide)) (Kd.R_typed HO_669002.out) (by decide)) BK668.out (by decide)) (by decide)))).2.2; have hcut40 := cut_to (P := Try.prog) 24 3 .i64 Try.underlying24 hi040 Ao41 t674.length co41 t678 (of_decide_eq_true (by first | (with_reducible assumption) | assumption)) q40 hroom40; have hr40 := Kd.F_take (m := (t678 : Int).toNat) hC40 (by omega); have hy40 : y680.length = (t678 : Int).toNat := (by rw [Ny680.out, List.length_take]; omega); rw [← Ny680.out] at hr40; rw [← hy40] at hcut40; have HO684 := Aside0.mk (show Kd.V (Kd.int .i64) 3 _ w.heap.size _ (.slice Ao41 y680.length co41) y680 from Kd.V_mk (by omega) hr40); have HC684 := Aside0.mk (show y680.length ≤ co41 from by omega); clear hr40 hC40 hroom40 hi040 hsz40; have KY40 := Aside0.mk hy40; clear hy40; replace q40 := eq_true q40; have hcz42_0 : w39.cell? ⟨gb668, 0, none⟩ = some (.slice Ao37 x669000_1.length co37) := (blk_cell BK668.out 0).trans rfl; have hcz42_1 : w39.cell? ⟨gb668, 1, none⟩ = some (.int .i64 t656) := (blk_cell BK668.out 1).trans rfl; have hcz42_2 : w39.cell? ⟨gb668, 2, none⟩ = some (.slice Ao10 t657.length co10) := (blk_cell BK668.out 2).trans rfl; have hcz42_3 : w39.cell? ⟨gb668, 3, none⟩ = some (.int .i64 t660) := (blk_cell BK668.out 3).trans rfl; have hcz42_4 : w39.cell? ⟨gb668, 4, none⟩ = some (.slice Ao11 t661.length co11) := (blk_cell BK668.out 4).trans rfl; have hfz42_0 := blk_frozen BK668.out 0; have hfz42_1 := blk_frozen BK668.out 1; have hfz42_2 := blk_frozen BK668.out 2; have hfz42_3 := blk_frozen BK668.out 3; have hfz42_4 := blk_frozen BK668.out 4) | ((with_reducible refine gate_callee (f := 44) rfl ?_); refine goesL_ (some 50) rfl rfl Try.func44 (by kernel_rfl) rfl #[.agg #[.slice Ao37 x669000_1.length co37, .int .i64 t656, .slice Ao10 t657.length co10, .int .i64 t660, .slice Ao11 t661.length co11], .slice Ao41 y680.length co41] rfl (by (try simp only [List.map_toArray, List.map_cons, List.map_nil]); first | done | rfl | (simp only [List.length_drop, List.length_take]; rfl)) ?_; (with_reducible refine (strip_Crush.calls _ _ x669000_1 t656 _ _ t657 t660 _ _ t661 _ _ y680 t685 _ ?side1 ?side2 ?side3 ?side4 ?side5 ?side6 ?side7 ?side8 A34.out).mono ?_); (case side1 => repeat (first | exact (Kd.N_reads' HO_669000.out).2.2 | (with_reducible refine Kd.C_alloc ?_ _) | (with_reducible refine Kd.C_drewN ?_ _) | (with_reducible refine Kd.C_drew ?_))); (case side2 => exact (Kd.N_reads' HO_669000.out).2.1); (case side3 => repeat (first | exact (Kd.R_reads' HO_669002.out).2.2 | (with_reducible refine Kd.C_alloc ?_ _) | (with_reducible refine Kd.C_drewN ?_ _) | (with_reducible refine Kd.C_drew ?_))); (case side4 => exact (Kd.R_reads' HO_669002.out).2.1); (case side5 => repeat (first | exact (Kd.R_reads' HO_669004.out).2.2 | (with_reducible refine Kd.C_alloc ?_ _) | (with_reducible refine Kd.C_drewN ?_ _) | (with_reducible refine Kd.C_drew ?_))); (case side6 => exact (Kd.R_reads' HO_669004.out).2.1); (case side7 => repeat (first | exact (Kd.V_reads' HO684.out).2.2 | (with_reducible refine Kd.C_alloc ?_ _) | (with_reducible refine Kd.C_drewN ?_ _) | (with_reducible refine Kd.C_drew ?_))); (case side8 => exact (Kd.V_reads' HO684.out).2.1); rintro e w43 ⟨rfl, hb⟩; refine ⟨_, rfl, ?_⟩; have n0_ := Aside0.mk (Kd.R_below (by (with_reducible repeat (first | apply Kd.R_alloc | apply Kd.R_drewN | apply Kd.R_drew)); exact HO_5.out) hb); have n1_ := Aside0.mk (Kd.N_below (by (with_reducible repeat (first | apply Kd.N_alloc | apply Kd.N_drewN | apply Kd.N_drew)); exact HO_669000.out) hb); have n2_ := Aside0.mk (Kd.R_below (by (with_reducible repeat (first | apply Kd.R_alloc | apply Kd.R_drewN | apply Kd.R_drew)); exact HO_669002.out) hb); have n3_ := Aside0.mk (Kd.R_below (by (with_reducible repeat (first | apply Kd.R_alloc | apply Kd.R_drewN | apply Kd.R_drew)); exact HO_669004.out) hb); have n4_ := Aside0.mk (Kd.R_below (by (with_reducible repeat (first | apply Kd.R_alloc | apply Kd.R_drewN | apply Kd.R_drew)); exact HO676.out) hb); have n5_ := Aside0.mk (Kd.V_below (by (with_reducible repeat (first | apply Kd.V_alloc | apply Kd.V_drewN | apply Kd.V_drew)); exact HO684.out) hb); have n6_ := Aside0.mk (blk_below (g := gb668) (o := .cells #[.slice Ao37 x669000_1.length co37, .int .i64 t656, .slice Ao10 t657.length co10, .int .i64 t660, .slice Ao11 t661.length co11] 26 (0, 0)) (by (with_reducible repeat (first | refine blk_drewN ?_ _ | refine blk_drew ?_ | refine blk_alloc ?_ _)); exact BK668.out) hb); have n7_ := Aside0.mk (IsS79.below (by repeat (first | (with_reducible first | exact HI652.out | apply IsS79.alloc | apply IsS79.drewN | apply IsS79.drew | apply IsS79.set_0 | refine IsS79.far ?_ NB652_668.out _) | exact HI652.out)) hb); have n8_ := Aside0.mk (below_step (by repeat (first | (with_reducible first | exact HB.out | apply below_alloc | apply pw_below_drewN | apply below_drew1 | refine below_set ?_ (IsS79.ge HI652.out) | refine below_set ?_ GE668.out) | exact HB.out)) hb); clear HO_5; clear HO_669000; clear HO_669002; clear HO_669004; clear HO676; clear HO684; clear BK668; clear HI652; clear HB; have HO_5 := n0_; have HO_669000 := n1_; have HO_669002 := n2_; have HO_669004 := n3_; have HO676 := n4_; have HO684 := n5_; have BK668 := n6_; have HI652 := n7_; have HB := n8_; clear n0_ n1_ n2_ n3_ n4_ n5_ n6_ n7_ n8_; (try clear hb); (try clear hb2); (try clear hk); (try clear hi)))
            go_loopg [9, 10] k1 (fun kq v9 v10 w' => ∃ (x9_2 : Bool) (x10_2 : Int), v9 = .bool x9_2 ∧ v10 = .int .i64 x10_2 ∧ Aside0 (swarflaw04_StripSafe.l1 kq t664 y680 t685 x9_2 x10_2 x669000_1 t656 t657 t660 t661 = some r) ∧ Aside0 (kq ≤ k1) ∧ Aside0 (Kd.R Kd.bool 4 w' w.heap.size (fun _ => True) v665 t664) ∧ Aside0 (Kd.V (Kd.int .i64) 3 w' w.heap.size (fun k_ => some k_ ≠ (v665 : Value).ownBlock ∧ some k_ ≠ ((.slice Ao37 x669000_1.length co37) : Value).ownBlock ∧ some k_ ≠ ((.slice Ao10 t657.length co10) : Value).ownBlock ∧ some k_ ≠ ((.slice Ao11 t661.length co11) : Value).ownBlock ∧ k_ ≠ gb668) (.slice Ao41 y680.length co41) y680) ∧ Aside0 (Kd.N k50 50 w' w.heap.size (fun k_ => some k_ ≠ (v665 : Value).ownBlock ∧ some k_ ≠ ((.slice Ao10 t657.length co10) : Value).ownBlock ∧ some k_ ≠ ((.slice Ao11 t661.length co11) : Value).ownBlock ∧ k_ ≠ gb668) (.slice Ao37 x669000_1.length co37) x669000_1) ∧ Aside0 (Kd.R k61 61 w' w.heap.size (fun _ => True) (.slice Ao10 t657.length co10) t657) ∧ Aside0 (Kd.R (Kd.int .i64) 3 w' w.heap.size (fun _ => True) (.slice Ao11 t661.length co11) t661) ∧ Aside0 (w'.heap[gb668]? = some (.cells #[(.slice Ao37 x669000_1.length co37), .int .i64 t656, (.slice Ao10 t657.length co10), .int .i64 t660, (.slice Ao11 t661.length co11)] 26 (0, 0))) ∧ Aside0 (Below w.heap.size w w'))
            case atStart => exact ⟨(true), (0), (by first | rfl | (simp; done) | (simp [*]; done)), (by first | rfl | (simp; done) | (simp [*]; done)), H', ⟨Nat.le_refl _⟩, ⟨by (with_reducible repeat (first | apply Kd.R_alloc | apply Kd.R_drewN | apply Kd.R_drew)); exact HO_5.out⟩, ⟨by (with_reducible repeat (first | apply Kd.V_alloc | apply Kd.V_drewN | apply Kd.V_drew)); exact Kd.V_mono HO684.out (fun _ hk => ⟨hk.1.1.1.1.2, ⟨hk.1.1.1.2, ⟨hk.1.1.2, ⟨hk.1.1.1.1.1.2, hk.1.2⟩⟩⟩⟩)⟩, ⟨by (with_reducible repeat (first | apply Kd.N_alloc | apply Kd.N_drewN | apply Kd.N_drew)); exact Kd.N_mono HO_669000.out (fun _ hk => ⟨hk.1.1, ⟨hk.1.2.1, ⟨hk.1.2.2.1, hk.1.2.2.2.1⟩⟩⟩)⟩, ⟨by (with_reducible repeat (first | apply Kd.R_alloc | apply Kd.R_drewN | apply Kd.R_drew)); exact HO_669002.out⟩, ⟨by (with_reducible repeat (first | apply Kd.R_alloc | apply Kd.R_drewN | apply Kd.R_drew)); exact Kd.R_mono HO_669004.out (fun _ hk => trivial)⟩, ⟨by (with_reducible repeat (first | refine blk_drewN ?_ _ | refine blk_drew ?_ | refine blk_alloc ?_ _)); exact BK668.out⟩, ⟨by repeat (first | (with_reducible first | exact HB.out | apply below_alloc | apply pw_below_drewN | apply below_drew1 | refine below_set ?_ (IsS79.ge HI652.out) | refine below_set ?_ GE668.out) | exact HB.out)⟩⟩
            case round =>
              clear H'
              try clear c1
              try clear p1
              try clear q1
              try clear hx1
              try clear hf1
              try clear c2
              try clear p2
              try clear q2
              try clear hx2
              try clear hf2
              try clear c3
              try clear c4
              try clear q4
              try clear c6
              try clear p6
              try clear q6
              try clear hx6
              try clear c8
              try clear c11
              try clear c12
              try clear c12b0
              try clear c13
              try clear c13b0
              try clear q14
              try clear c15
              try clear c17
              try clear p17
              try clear q17
              try clear hx17
              try clear hf17
              try clear c18
              try clear c23
              try clear c24
              try clear p24
              try clear q24
              try clear hx24
              try clear hf24
              try clear c25
              try clear c29
              try clear c32
              try clear c32b0
              try clear c32b1
              try clear c33
              try clear c33b0
              try clear c33b1
              try clear c35
              try clear q40
              try clear c42
              try clear hcz19_0
              try clear hcz19_1
              try clear hcz19_2
              try clear hcz19_3
              try clear hcz19_4
              try clear hcz26_0
              try clear hcz26_1
              try clear hcz26_2
              try clear hcz26_3
              try clear hcz26_4
              try clear hcz36_0
              try clear hcz36_1
              try clear hcz36_2
              try clear hcz36_3
              try clear hcz36_4
              try clear hcz42_0
              try clear hcz42_1
              try clear hcz42_2
              try clear hcz42_3
              try clear hcz42_4
              try clear hcz9_0
              try clear hcz9_1
              try clear hcz9_2
              try clear hcz9_3
              try clear hcz9_4
              try clear hfz19_0
              try clear hfz19_1
              try clear hfz19_2
              try clear hfz19_3
              try clear hfz19_4
              try clear hfz26_0
              try clear hfz26_1
              try clear hfz26_2
              try clear hfz26_3
              try clear hfz26_4
              try clear hfz36_0
              try clear hfz36_1
              try clear hfz36_2
              try clear hfz36_3
              try clear hfz36_4
              try clear hfz42_0
              try clear hfz42_1
              try clear hfz42_2
              try clear hfz42_3
              try clear hfz42_4
              try clear hfz9_0
              try clear hfz9_1
              try clear hfz9_2
              try clear hfz9_3
              try clear hfz9_4
              try clear hx17_0
              try clear hx17_1
              try clear hx17_2
              try clear hx17_3
              try clear hx24_0
              try clear hx24_1
              try clear hx24_2
              try clear hx24_3
              try clear hx669_0
              try clear hx669_1
              try clear hx669_2
              try clear hx669_3
              try clear p17
              try clear p2
              try clear p24
              try clear p669
              try clear q17
              try clear q24
              try clear q40
              try clear q669
              obtain ⟨x9_2, x10_2, rfl, rfl, HA, HK2, HO_5, HO_7, HO_669000, HO_669002, HO_669004, BK668, HB⟩ := hrel
              cases gk with
              | zero => exact absurd HA.out (by simp [swarflaw04_StripSafe.l1])
              | succ k2 =>
                have H := HA.out
                clear HA
                simp only [swarflaw04_StripSafe.l1] at H
                by_cases c44 : x10_2 < (t661.length : Int)
                · rw [if_pos c44] at H
                  have c44b0 : decide (x10_2 < (t661.length : Int)) = true := decide_eq_true c44
                  clear c44
                  by_cases c45 : x9_2 = true
                  · subst c45
                    have H1 : (if 0 ≤ x10_2 then ((swarfkit_Among.f k2 y680 (rd t661 x10_2)).bind fun t687 => (swarflaw04_StripSafe.l1 k2 t664 y680 t685 t687 (wrap64 (x10_2 + 1)) x669000_1 t656 t657 t660 t661)) else (none)) = some r := by rw [if_pos rfl] at H; exact H
                    clear H
                    have H := H1
                    clear H1
                    by_cases c46 : 0 ≤ x10_2
                    · rw [if_pos c46] at H
                      have c46b0 : decide (0 ≤ x10_2) = true := decide_eq_true c46
                      clear c46
                      replace H := Option.bind_eq_some_iff.mp H
                      obtain ⟨t687, A470, H⟩ := H
                      replace H : (swarflaw04_StripSafe.l1 k2 t664 y680 t685 t687 (wrap64 (x10_2 + 1)) x669000_1 t656 t657 t660 t661) = some r := H
                      have A47 := Aside0.mk A470
                      clear A470
                      have H' := Aside0.mk H
                      clear H
                      have hcz48_0 : wr.cell? ⟨gb668, 0, none⟩ = some (.slice Ao37 x669000_1.length co37) := (blk_cell BK668.out 0).trans rfl
                      have hcz48_1 : wr.cell? ⟨gb668, 1, none⟩ = some (.int .i64 t656) := (blk_cell BK668.out 1).trans rfl
                      have hcz48_2 : wr.cell? ⟨gb668, 2, none⟩ = some (.slice Ao10 t657.length co10) := (blk_cell BK668.out 2).trans rfl
                      have hcz48_3 : wr.cell? ⟨gb668, 3, none⟩ = some (.int .i64 t660) := (blk_cell BK668.out 3).trans rfl
                      have hcz48_4 : wr.cell? ⟨gb668, 4, none⟩ = some (.slice Ao11 t661.length co11) := (blk_cell BK668.out 4).trans rfl
                      have hfz48_0 := blk_frozen BK668.out 0
                      have hfz48_1 := blk_frozen BK668.out 1
                      have hfz48_2 := blk_frozen BK668.out 2
                      have hfz48_3 := blk_frozen BK668.out 3
                      have hfz48_4 := blk_frozen BK668.out 4
                      have p686 : 0 ≤ (x10_2 : Int) := of_decide_eq_true (by first | (with_reducible assumption) | assumption)
                      have q686 : x10_2 < (t661.length : Int) := of_decide_eq_true (by first | (with_reducible assumption) | assumption)
                      obtain ⟨ad686, e686, hx686_0⟩ := Kd.at_int (Kd.R_reads' HO_669004.out).2.2 x10_2 p686 q686
                      cases e686
                      replace p686 := eq_true p686
                      replace q686 := eq_true q686
                      go_wp2_with (first | (go_at_call 47; (with_reducible refine (swarfkit_Among.calls k2 _ _ y680 (rd t661 x10_2) t687 _ ?side1 ?side2 A47.out).mono ?_); (case side1 => repeat (first | exact (Kd.V_reads' HO_7.out).2.2 | (with_reducible refine Kd.C_alloc ?_ _) | (with_reducible refine Kd.C_drewN ?_ _) | (with_reducible refine Kd.C_drew ?_))); (case side2 => exact (Kd.V_reads' HO_7.out).2.1); rintro e w' ⟨rfl, ⟨nd, rfl⟩⟩))
                      go_roundg k2
                      case measure => have := HK1.out; have := HK2.out; omega
                      case rel => exact ⟨(t687), (wrap64 (x10_2 + 1)), (by first | rfl | (simp; done) | (simp [*]; done)), (by first | rfl | (simp; done) | (simp [*]; done)), H', ⟨by have := HK1.out; have := HK2.out; omega⟩, ⟨by (with_reducible repeat (first | apply Kd.R_alloc | apply Kd.R_drewN | apply Kd.R_drew)); exact HO_5.out⟩, ⟨by (with_reducible repeat (first | apply Kd.V_alloc | apply Kd.V_drewN | apply Kd.V_drew)); exact HO_7.out⟩, ⟨by (with_reducible repeat (first | apply Kd.N_alloc | apply Kd.N_drewN | apply Kd.N_drew)); exact HO_669000.out⟩, ⟨by (with_reducible repeat (first | apply Kd.R_alloc | apply Kd.R_drewN | apply Kd.R_drew)); exact HO_669002.out⟩, ⟨by (with_reducible repeat (first | apply Kd.R_alloc | apply Kd.R_drewN | apply Kd.R_drew)); exact HO_669004.out⟩, ⟨by (with_reducible repeat (first | refine blk_drewN ?_ _ | refine blk_drew ?_ | refine blk_alloc ?_ _)); exact BK668.out⟩, ⟨by repeat (first | (with_reducible first | exact HB.out | apply below_alloc | apply pw_below_drewN | apply below_drew1 | refine below_set ?_ GE668.out) | exact HB.out)⟩⟩
                    · rw [if_neg c46] at H
                      exact absurd H (by simp)
                  · replace c45 := Bool.eq_false_iff.mpr c45
                    subst c45
                    have H1 : (swarflaw04_StripSafe.l1 k2 t664 y680 t685 false (wrap64 (x10_2 + 1)) x669000_1 t656 t657 t660 t661) = some r := by rw [if_neg (show ¬ (false = true) by decide)] at H; exact H
                    clear H
                    have H := H1
                    clear H1
                    have H' := Aside0.mk H
                    clear H
                    have hcz49_0 : wr.cell? ⟨gb668, 0, none⟩ = some (.slice Ao37 x669000_1.length co37) := (blk_cell BK668.out 0).trans rfl
                    have hcz49_1 : wr.cell? ⟨gb668, 1, none⟩ = some (.int .i64 t656) := (blk_cell BK668.out 1).trans rfl
                    have hcz49_2 : wr.cell? ⟨gb668, 2, none⟩ = some (.slice Ao10 t657.length co10) := (blk_cell BK668.out 2).trans rfl
                    have hcz49_3 : wr.cell? ⟨gb668, 3, none⟩ = some (.int .i64 t660) := (blk_cell BK668.out 3).trans rfl
                    have hcz49_4 : wr.cell? ⟨gb668, 4, none⟩ = some (.slice Ao11 t661.length co11) := (blk_cell BK668.out 4).trans rfl
                    have hfz49_0 := blk_frozen BK668.out 0
                    have hfz49_1 := blk_frozen BK668.out 1
                    have hfz49_2 := blk_frozen BK668.out 2
                    have hfz49_3 := blk_frozen BK668.out 3
                    have hfz49_4 := blk_frozen BK668.out 4
                    go_wp2
                    go_roundg k2
                    case measure => have := HK1.out; have := HK2.out; omega
                    case rel => exact ⟨(false), (wrap64 (x10_2 + 1)), (by first | rfl | (simp; done) | (simp [*]; done)), (by first | rfl | (simp; done) | (simp [*]; done)), H', ⟨by have := HK1.out; have := HK2.out; omega⟩, ⟨by (with_reducible repeat (first | apply Kd.R_alloc | apply Kd.R_drewN | apply Kd.R_drew)); exact HO_5.out⟩, ⟨by (with_reducible repeat (first | apply Kd.V_alloc | apply Kd.V_drewN | apply Kd.V_drew)); exact HO_7.out⟩, ⟨by (with_reducible repeat (first | apply Kd.N_alloc | apply Kd.N_drewN | apply Kd.N_drew)); exact HO_669000.out⟩, ⟨by (with_reducible repeat (first | apply Kd.R_alloc | apply Kd.R_drewN | apply Kd.R_drew)); exact HO_669002.out⟩, ⟨by (with_reducible repeat (first | apply Kd.R_alloc | apply Kd.R_drewN | apply Kd.R_drew)); exact HO_669004.out⟩, ⟨by (with_reducible repeat (first | refine blk_drewN ?_ _ | refine blk_drew ?_ | refine blk_alloc ?_ _)); exact BK668.out⟩, ⟨by repeat (first | (with_reducible first | exact HB.out | apply below_alloc | apply pw_below_drewN | apply below_drew1 | refine below_set ?_ GE668.out) | exact HB.out)⟩⟩
                · rw [if_neg c44] at H
                  have c44b0 : decide (x10_2 < (t661.length : Int)) = false := decide_eq_false c44
                  clear c44
                  replace H := Option.bind_eq_some_iff.mp H
                  obtain ⟨t688, A500, H⟩ := H
                  replace H : (swarflaw04_StripSafe.l2 k2 t664 t685 x9_2 true t688 0 x669000_1 t656 t657 t660 t661) = some r := H
                  have A50 := Aside0.mk A500
                  clear A500
                  have H' := Aside0.mk H
                  clear H
                  have hcz51_0 : wr.cell? ⟨gb668, 0, none⟩ = some (.slice Ao37 x669000_1.length co37) := (blk_cell BK668.out 0).trans rfl
                  have hcz51_1 : wr.cell? ⟨gb668, 1, none⟩ = some (.int .i64 t656) := (blk_cell BK668.out 1).trans rfl
                  have hcz51_2 : wr.cell? ⟨gb668, 2, none⟩ = some (.slice Ao10 t657.length co10) := (blk_cell BK668.out 2).trans rfl
                  have hcz51_3 : wr.cell? ⟨gb668, 3, none⟩ = some (.int .i64 t660) := (blk_cell BK668.out 3).trans rfl
                  have hcz51_4 : wr.cell? ⟨gb668, 4, none⟩ = some (.slice Ao11 t661.length co11) := (blk_cell BK668.out 4).trans rfl
                  have hfz51_0 := blk_frozen BK668.out 0
                  have hfz51_1 := blk_frozen BK668.out 1
                  have hfz51_2 := blk_frozen BK668.out 2
                  have hfz51_3 := blk_frozen BK668.out 3
                  have hfz51_4 := blk_frozen BK668.out 4
                  go_wp2_with (first | ((with_reducible refine gate_callee (f := 48) rfl ?_); refine goesL_ (some 69) rfl rfl Try.func48 (by kernel_rfl) rfl #[.agg #[.slice Ao37 x669000_1.length co37, .int .i64 t656, .slice Ao10 t657.length co10, .int .i64 t660, .slice Ao11 t661.length co11]] rfl (by (try simp only [List.map_toArray, List.map_cons, List.map_nil]); first | done | rfl | (simp only [List.length_drop, List.length_take]; rfl)) ?_; (with_reducible refine (swarfref04_Truths.calls k2 _ _ x669000_1 t656 _ _ t657 t660 _ _ t661 t688 _ ?side1 ?side2 ?side3 ?side4 ?side5 ?side6 A50.out).mono ?_); (case side1 => repeat (first | exact (Kd.N_reads' HO_669000.out).2.2 | (with_reducible refine Kd.C_alloc ?_ _) | (with_reducible refine Kd.C_drewN ?_ _) | (with_reducible refine Kd.C_drew ?_))); (case side2 => exact (Kd.N_reads' HO_669000.out).2.1); (case side3 => repeat (first | exact (Kd.R_reads' HO_669002.out).2.2 | (with_reducible refine Kd.C_alloc ?_ _) | (with_reducible refine Kd.C_drewN ?_ _) | (with_reducible refine Kd.C_drew ?_))); (case side4 => exact (Kd.R_reads' HO_669002.out).2.1); (case side5 => repeat (first | exact (Kd.R_reads' HO_669004.out).2.2 | (with_reducible refine Kd.C_alloc ?_ _) | (with_reducible refine Kd.C_drewN ?_ _) | (with_reducible refine Kd.C_drew ?_))); (case side6 => exact (Kd.R_reads' HO_669004.out).2.1); rintro e w52 ⟨v689, rfl, ho0, hb⟩; refine ⟨_, rfl, ?_⟩; have n0_ := Aside0.mk (Kd.R_below (by (with_reducible repeat (first | apply Kd.R_alloc | apply Kd.R_drewN | apply Kd.R_drew)); exact HO_5.out) hb); have n1_ := Aside0.mk (Kd.V_elder' (by (with_reducible repeat (first | apply Kd.V_alloc | apply Kd.V_drewN | apply Kd.V_drew)); exact HO_7.out) (Kd.N_base ho0) hb); have n2_ := Aside0.mk (Kd.N_elder' (by (with_reducible repeat (first | apply Kd.N_alloc | apply Kd.N_drewN | apply Kd.N_drew)); exact HO_669000.out) (Kd.N_base ho0) hb); have n3_ := Aside0.mk (Kd.R_below (by (with_reducible repeat (first | apply Kd.R_alloc | apply Kd.R_drewN | apply Kd.R_drew)); exact HO_669002.out) hb); have n4_ := Aside0.mk (Kd.R_below (by (with_reducible repeat (first | apply Kd.R_alloc | apply Kd.R_drewN | apply Kd.R_drew)); exact HO_669004.out) hb); have n5_ := Aside0.mk (Kd.N_lower (Kd.N_mono (ok' := fun k_ => some k_ ≠ (v665 : Value).ownBlock ∧ some k_ ≠ (.slice Ao37 x669000_1.length co37 : Value).ownBlock ∧ some k_ ≠ (.slice Ao10 t657.length co10 : Value).ownBlock ∧ some k_ ≠ (.slice Ao11 t661.length co11 : Value).ownBlock ∧ k_ ≠ gb668) ho0 (fun k_ hk_ => ⟨(Kd.fresh' (Kd.R_lt (by (with_reducible repeat (first | apply Kd.R_alloc | apply Kd.R_drewN | apply Kd.R_drew)); exact HO_5.out)) k_ hk_), (Kd.fresh' (Kd.N_lt (by (with_reducible repeat (first | apply Kd.N_alloc | apply Kd.N_drewN | apply Kd.N_drew)); exact HO_669000.out)) k_ hk_), (Kd.fresh' (Kd.R_lt (by (with_reducible repeat (first | apply Kd.R_alloc | apply Kd.R_drewN | apply Kd.R_drew)); exact HO_669002.out)) k_ hk_), (Kd.fresh' (Kd.R_lt (by (with_reducible repeat (first | apply Kd.R_alloc | apply Kd.R_drewN | apply Kd.R_drew)); exact HO_669004.out)) k_ hk_), (Kd.freshB (g := gb668) (o := .cells #[.slice Ao37 x669000_1.length co37, .int .i64 t656, .slice Ao10 t657.length co10, .int .i64 t660, .slice Ao11 t661.length co11] 26 (0, 0)) (by (with_reducible repeat (first | refine blk_drewN ?_ _ | refine blk_drew ?_ | refine blk_alloc ?_ _)); exact BK668.out) k_ hk_)⟩)) (below_size (by repeat (first | (with_reducible first | exact HB.out | apply below_alloc | apply pw_below_drewN | apply below_drew1 | refine below_set ?_ GE668.out) | exact HB.out)))); have n6_ := Aside0.mk (blk_below (g := gb668) (o := .cells #[.slice Ao37 x669000_1.length co37, .int .i64 t656, .slice Ao10 t657.length co10, .int .i64 t660, .slice Ao11 t661.length co11] 26 (0, 0)) (by (with_reducible repeat (first | refine blk_drewN ?_ _ | refine blk_drew ?_ | refine blk_alloc ?_ _)); exact BK668.out) hb); have n7_ := Aside0.mk (below_step (by repeat (first | (with_reducible first | exact HB.out | apply below_alloc | apply pw_below_drewN | apply below_drew1 | refine below_set ?_ GE668.out) | exact HB.out)) hb); clear HO_5; clear HO_7; clear HO_669000; clear HO_669002; clear HO_669004; clear BK668; clear HB; have HO_5 := n0_; have HO_7 := n1_; have HO_669000 := n2_; have HO_669002 := n3_; have HO_669004 := n4_; have HO690 := n5_; have BK668 := n6_; have HB := n7_; clear n0_ n1_ n2_ n3_ n4_ n5_ n6_ n7_; (try clear hb); (try clear hb2); (try clear hk); (try clear hi); (try clear ho0)))
                  go_loopg [11, 13] k2 (fun kq v11 v13 w' => ∃ (x11_3 : Bool) (x13_3 : Int), v11 = .bool x11_3 ∧ v13 = .int .i64 x13_3 ∧ Aside0 (swarflaw04_StripSafe.l2 kq t664 t685 x9_2 x11_3 t688 x13_3 x669000_1 t656 t657 t660 t661 = some r) ∧ Aside0 (kq ≤ k2) ∧ Aside0 (Kd.R Kd.bool 4 w' w.heap.size (fun _ => True) v665 t664) ∧ Aside0 (Kd.N (Kd.slice 4 Kd.bool) 31 w' w.heap.size (fun k_ => some k_ ≠ (v665 : Value).ownBlock ∧ some k_ ≠ ((.slice Ao37 x669000_1.length co37) : Value).ownBlock ∧ some k_ ≠ ((.slice Ao10 t657.length co10) : Value).ownBlock ∧ some k_ ≠ ((.slice Ao11 t661.length co11) : Value).ownBlock ∧ k_ ≠ gb668) v689 t688) ∧ Aside0 (Kd.N k50 50 w' w.heap.size (fun k_ => some k_ ≠ (v665 : Value).ownBlock ∧ some k_ ≠ (v689 : Value).ownBlock ∧ some k_ ≠ ((.slice Ao10 t657.length co10) : Value).ownBlock ∧ some k_ ≠ ((.slice Ao11 t661.length co11) : Value).ownBlock ∧ k_ ≠ gb668) (.slice Ao37 x669000_1.length co37) x669000_1) ∧ Aside0 (Kd.R k61 61 w' w.heap.size (fun _ => True) (.slice Ao10 t657.length co10) t657) ∧ Aside0 (Kd.R (Kd.int .i64) 3 w' w.heap.size (fun _ => True) (.slice Ao11 t661.length co11) t661) ∧ Aside0 (w'.heap[gb668]? = some (.cells #[(.slice Ao37 x669000_1.length co37), .int .i64 t656, (.slice Ao10 t657.length co10), .int .i64 t660, (.slice Ao11 t661.length co11)] 26 (0, 0))) ∧ Aside0 (Below w.heap.size w w'))
                  case atStart => exact ⟨(true), (0), (by first | rfl | (simp; done) | (simp [*]; done)), (by first | rfl | (simp; done) | (simp [*]; done)), H', ⟨Nat.le_refl _⟩, ⟨by (with_reducible repeat (first | apply Kd.R_alloc | apply Kd.R_drewN | apply Kd.R_drew)); exact HO_5.out⟩, ⟨by (with_reducible repeat (first | apply Kd.N_alloc | apply Kd.N_drewN | apply Kd.N_drew)); exact HO690.out⟩, ⟨by (with_reducible repeat (first | apply Kd.N_alloc | apply Kd.N_drewN | apply Kd.N_drew)); exact Kd.N_mono HO_669000.out (fun _ hk => ⟨hk.1.1, ⟨hk.2, ⟨hk.1.2.1, ⟨hk.1.2.2.1, hk.1.2.2.2⟩⟩⟩⟩)⟩, ⟨by (with_reducible repeat (first | apply Kd.R_alloc | apply Kd.R_drewN | apply Kd.R_drew)); exact HO_669002.out⟩, ⟨by (with_reducible repeat (first | apply Kd.R_alloc | apply Kd.R_drewN | apply Kd.R_drew)); exact HO_669004.out⟩, ⟨by (with_reducible repeat (first | refine blk_drewN ?_ _ | refine blk_drew ?_ | refine blk_alloc ?_ _)); exact BK668.out⟩, ⟨by repeat (first | (with_reducible first | exact HB.out | apply below_alloc | apply pw_below_drewN | apply below_drew1 | refine below_set ?_ GE668.out) | exact HB.out)⟩⟩
                  case round =>
                    clear H'
                    try clear c1
                    try clear p1
                    try clear q1
                    try clear hx1
                    try clear hf1
                    try clear c2
                    try clear p2
                    try clear q2
                    try clear hx2
                    try clear hf2
                    try clear c3
                    try clear c4
                    try clear q4
                    try clear c6
                    try clear p6
                    try clear q6
                    try clear hx6
                    try clear c8
                    try clear c11
                    try clear c12
                    try clear c12b0
                    try clear c13
                    try clear c13b0
                    try clear q14
                    try clear c15
                    try clear c17
                    try clear p17
                    try clear q17
                    try clear hx17
                    try clear hf17
                    try clear c18
                    try clear c23
                    try clear c24
                    try clear p24
                    try clear q24
                    try clear hx24
                    try clear hf24
                    try clear c25
                    try clear c29
                    try clear c32
                    try clear c32b0
                    try clear c32b1
                    try clear c33
                    try clear c33b0
                    try clear c33b1
                    try clear c35
                    try clear q40
                    try clear c42
                    try clear c44
                    try clear c44b0
                    try clear c45
                    try clear c46
                    try clear c46b0
                    try clear c48
                    try clear hcz19_0
                    try clear hcz19_1
                    try clear hcz19_2
                    try clear hcz19_3
                    try clear hcz19_4
                    try clear hcz26_0
                    try clear hcz26_1
                    try clear hcz26_2
                    try clear hcz26_3
                    try clear hcz26_4
                    try clear hcz36_0
                    try clear hcz36_1
                    try clear hcz36_2
                    try clear hcz36_3
                    try clear hcz36_4
                    try clear hcz42_0
                    try clear hcz42_1
                    try clear hcz42_2
                    try clear hcz42_3
                    try clear hcz42_4
                    try clear hcz48_0
                    try clear hcz48_1
                    try clear hcz48_2
                    try clear hcz48_3
                    try clear hcz48_4
                    try clear hcz49_0
                    try clear hcz49_1
                    try clear hcz49_2
                    try clear hcz49_3
                    try clear hcz49_4
                    try clear hcz51_0
                    try clear hcz51_1
                    try clear hcz51_2
                    try clear hcz51_3
                    try clear hcz51_4
                    try clear hcz9_0
                    try clear hcz9_1
                    try clear hcz9_2
                    try clear hcz9_3
                    try clear hcz9_4
                    try clear hfz19_0
                    try clear hfz19_1
                    try clear hfz19_2
                    try clear hfz19_3
                    try clear hfz19_4
                    try clear hfz26_0
                    try clear hfz26_1
                    try clear hfz26_2
                    try clear hfz26_3
                    try clear hfz26_4
                    try clear hfz36_0
                    try clear hfz36_1
                    try clear hfz36_2
                    try clear hfz36_3
                    try clear hfz36_4
                    try clear hfz42_0
                    try clear hfz42_1
                    try clear hfz42_2
                    try clear hfz42_3
                    try clear hfz42_4
                    try clear hfz48_0
                    try clear hfz48_1
                    try clear hfz48_2
                    try clear hfz48_3
                    try clear hfz48_4
                    try clear hfz49_0
                    try clear hfz49_1
                    try clear hfz49_2
                    try clear hfz49_3
                    try clear hfz49_4
                    try clear hfz51_0
                    try clear hfz51_1
                    try clear hfz51_2
                    try clear hfz51_3
                    try clear hfz51_4
                    try clear hfz9_0
                    try clear hfz9_1
                    try clear hfz9_2
                    try clear hfz9_3
                    try clear hfz9_4
                    try clear hx17_0
                    try clear hx17_1
                    try clear hx17_2
                    try clear hx17_3
                    try clear hx24_0
                    try clear hx24_1
                    try clear hx24_2
                    try clear hx24_3
                    try clear hx669_0
                    try clear hx669_1
                    try clear hx669_2
                    try clear hx669_3
                    try clear hx686_0
                    try clear p1
                    try clear p17
                    try clear p2
                    try clear p24
                    try clear p6
                    try clear p669
                    try clear p686
                    try clear q1
                    try clear q14
                    try clear q17
                    try clear q2
                    try clear q24
                    try clear q4
                    try clear q40
                    try clear q6
                    try clear q669
                    try clear q686
                    obtain ⟨x11_3, x13_3, rfl, rfl, HA, HK3, HO_5, HO_12, HO_669000, HO_669002, HO_669004, BK668, HB⟩ := hrel
                    cases gk with
                    | zero => exact absurd HA.out (by simp [swarflaw04_StripSafe.l2])
                    | succ k3 =>
                      have H := HA.out
                      clear HA
                      simp only [swarflaw04_StripSafe.l2] at H
                      by_cases c53 : x13_3 < (t688.length : Int)
                      · rw [if_pos c53] at H
                        have c53b0 : decide (x13_3 < (t688.length : Int)) = true := decide_eq_true c53
                        clear c53
                        by_cases c54 : x11_3 = true
                        · subst c54
                          have H1 : (if 0 ≤ x13_3 then ((swarfref04_IsClean.f k3 x669000_1 t656 t657 t660 t661 (rd_L5 t688 x13_3)).bind fun t692 => (swarflaw04_StripSafe.l2 k3 t664 t685 x9_2 t692 t688 (wrap64 (x13_3 + 1)) x669000_1 t656 t657 t660 t661)) else (none)) = some r := by rw [if_pos rfl] at H; exact H
                          clear H
                          have H := H1
                          clear H1
                          by_cases c55 : 0 ≤ x13_3
                          · rw [if_pos c55] at H
                            have c55b0 : decide (0 ≤ x13_3) = true := decide_eq_true c55
                            clear c55
                            replace H := Option.bind_eq_some_iff.mp H
                            obtain ⟨t692, A560, H⟩ := H
                            replace H : (swarflaw04_StripSafe.l2 k3 t664 t685 x9_2 t692 t688 (wrap64 (x13_3 + 1)) x669000_1 t656 t657 t660 t661) = some r := H
                            have A56 := Aside0.mk A560
                            clear A560
                            have H' := Aside0.mk H
                            clear H
                            obtain ⟨Ao57, co57, eo57⟩ := Kd.N_slice HO_12.out
                            subst eo57
                            try go_wp2
                            have n0_ := Aside0.mk (Kd.R_drew HO_5.out)
                            have n1_ := Aside0.mk (Kd.N_drew HO_12.out)
                            have n2_ := Aside0.mk (Kd.N_drew HO_669000.out)
                            have n3_ := Aside0.mk (Kd.R_drew HO_669002.out)
                            have n4_ := Aside0.mk (Kd.R_drew HO_669004.out)
                            have n5_ := Aside0.mk (blk_drew BK668.out)
                            have n6_ := Aside0.mk (below_drew1 HB.out)
                            clear HO_5
                            clear HO_12
                            clear HO_669000
                            clear HO_669002
                            clear HO_669004
                            clear BK668
                            clear HB
                            have HO_5 := n0_
                            have HO_12 := n1_
                            have HO_669000 := n2_
                            have HO_669002 := n3_
                            have HO_669004 := n4_
                            have BK668 := n5_
                            have HB := n6_
                            clear n0_ n1_ n2_ n3_ n4_ n5_ n6_
                            have p691 : 0 ≤ (x13_3 : Int) := of_decide_eq_true (by first | (with_reducible assumption) | assumption)
                            have q691 : x13_3 < (t688.length : Int) := of_decide_eq_true (by first | (with_reducible assumption) | assumption)
                            obtain ⟨ad691, A691_0, c691_0, e691, hx691_0, hl691_0, hi691_0⟩ := at_L5 (Kd.N_reads' HO_12.out).2.2 x13_3 p691 q691
                            cases e691
                            obtain ⟨ce691, hce691, hMe691, hcc691⟩ := Kd.N_get HO_12.out [] x13_3 p691 (by first | exact q691 | exact of_decide_eq_true (by first | (with_reducible assumption) | assumption) | (have e_ := (Kd.N_reads' HO_12.out).1; omega))
                            obtain ⟨ua691_0, uc691_0, rfl, ul691_0, ge691_0⟩ := Kd.FK_slice_open hMe691
                            have hv691_0 := hcc691 0 _ rfl
                            rw [Nat.add_zero, show ((Kd.slice 4 Kd.bool)).sz = 1 from rfl, Nat.mul_one] at hv691_0
                            replace hv691_0 := Option.some.inj (hv691_0.symm.trans hx691_0)
                            injection hv691_0 with hva_ hvn_ hvc_
                            rw [hva_] at ge691_0
                            rw [hvc_] at ul691_0
                            have HL691_0 := Aside0.mk (show Kd.V Kd.bool 4 _ w.heap.size _ _ (rd_L5 t688 x13_3) from Kd.V_mk ul691_0 ge691_0)
                            clear hva_ hvn_ hvc_ ge691_0 ul691_0
                            clear hcc691 hce691
                            have HR691_0 := Aside0.mk hi691_0
                            have HC691_0 := Aside0.mk hl691_0
                            clear hi691_0 hl691_0
                            replace p691 := eq_true p691
                            replace q691 := eq_true q691
                            refine start_ (n := 10) (S := fun w' => w'.cell? ⟨gb668, 0, none⟩ = some (.slice Ao37 x669000_1.length co37) ∧ w'.cell? ⟨gb668, 1, none⟩ = some (.int .i64 t656) ∧ w'.cell? ⟨gb668, 2, none⟩ = some (.slice Ao10 t657.length co10) ∧ w'.cell? ⟨gb668, 3, none⟩ = some (.int .i64 t660) ∧ w'.cell? ⟨gb668, 4, none⟩ = some (.slice Ao11 t661.length co11) ∧ w'.cell? (ad691.add (x13_3).toNat) = some (.slice A691_0 (rd_L5 t688 x13_3).length c691_0)) (ds := []) #[false, false, false, false, false, false, false, false, false, false] (by kernel_rfl) rfl rfl ⟨(blk_cell BK668.out 0).trans rfl, (blk_cell BK668.out 1).trans rfl, (blk_cell BK668.out 2).trans rfl, (blk_cell BK668.out 3).trans rfl, (blk_cell BK668.out 4).trans rfl, hx691_0⟩ (fun hHeld => ?_); refine with_tabW swarflaw04_StripSafe.tab19 swarflaw04_StripSafe.bits19 (fun HT_ HW_ => ?_)
                            generalize wr.drew = w58 at HO_5 HO_12 HO_669000 HO_669002 HO_669004 BK668 HB HL691_0 HR691_0 hx691_0 hHeld ⊢
                            refine pure_ (i := 0) (N := some 76) (v := ?_) (a' := ?_) #[true, false, false, false, false, false, false, false, false, false] rfl rfl (any_of HT_.out (by kernel_rfl)) (fun _ _ _ h => h) (Or.inl ⟨by rfl, ?_⟩) ?_ ?_
                            rotate_left
                            · intro w'
                              go_simp
                              with_reducible rfl
                            rotate_left
                            · simp only [Act.put, List.setIfInBounds_toArray, List.set_cons_zero, List.set_cons_succ, i64_w, i32_w]
                              rfl
                            refine pure_ (i := 1) (N := some 77) (v := ?_) (a' := ?_) #[true, true, false, false, false, false, false, false, false, false] rfl rfl (any_of HT_.out (by kernel_rfl)) (fun _ _ _ h => h) (Or.inl ⟨by rfl, ?_⟩) ?_ ?_
                            rotate_left
                            · intro w'
                              go_simp
                              with_reducible rfl
                            rotate_left
                            · simp only [Act.put, List.setIfInBounds_toArray, List.set_cons_zero, List.set_cons_succ, i64_w, i32_w]
                              rfl
                            refine pure_ (i := 3) (N := some 79) (v := ?_) (a' := ?_) #[true, true, false, true, false, false, false, false, false, false] rfl rfl (any_of HT_.out (by kernel_rfl)) (fun _ _ _ h => h) (Or.inl ⟨by rfl, ?_⟩) ?_ ?_
                            rotate_left
                            · intro w'
                              go_simp
                              with_reducible rfl
                            rotate_left
                            · simp only [Act.put, List.setIfInBounds_toArray, List.set_cons_zero, List.set_cons_succ, i64_w, i32_w]
                              rfl
                            refine pure_ (i := 4) (N := some 80) (v := ?_) (a' := ?_) #[true, true, false, true, true, false, false, false, false, false] rfl rfl (any_of HT_.out (by kernel_rfl)) (fun _ _ _ h => h) (Or.inl ⟨by rfl, ?_⟩) ?_ ?_
                            rotate_left
                            · intro w'
                              go_simp
                              with_reducible rfl
                            rotate_left
                            · simp only [Act.put, List.setIfInBounds_toArray, List.set_cons_zero, List.set_cons_succ, i64_w, i32_w]
                              rfl
                            refine pure_ (i := 5) (N := some 81) (v := ?_) (a' := ?_) #[true, true, false, true, true, true, false, false, false, false] rfl rfl (any_of HT_.out (by kernel_rfl)) (fun _ _ _ h => h) (Or.inl ⟨by rfl, ?_⟩) ?_ ?_
                            rotate_left
                            · intro w'
                              go_simp
                              with_reducible rfl
                            rotate_left
                            · simp only [Act.put, List.setIfInBounds_toArray, List.set_cons_zero, List.set_cons_succ, i64_w, i32_w]
                              rfl
                            refine take_ (i := 2) (N := some 78) (v := ?_) (a' := ?_) #[true, true, true, true, true, true, false, false, false, false] rfl rfl (take_ofW HT_.out HW_.out (by kernel_rfl)) (fun _ _ _ h => h) (Or.inl ⟨by rfl, ?_⟩) hHeld ?_ ?_
                            rotate_left
                            · rintro w' ⟨s0, s1, s2, s3, s4, s5⟩
                              go_simp
                              with_reducible rfl
                            rotate_left
                            · simp only [Act.put, List.setIfInBounds_toArray, List.set_cons_zero, List.set_cons_succ, i64_w, i32_w]
                              rfl
                            refine take_ (i := 6) (N := some 82) (v := ?_) (a' := ?_) #[true, true, true, true, true, true, true, false, false, false] rfl rfl (take_ofW HT_.out HW_.out (by kernel_rfl)) (fun _ _ _ h => h) (Or.inl ⟨by rfl, ?_⟩) hHeld ?_ ?_
                            rotate_left
                            · rintro w' ⟨s0, s1, s2, s3, s4, s5⟩
                              go_simp
                              with_reducible rfl
                            rotate_left
                            · simp only [Act.put, List.setIfInBounds_toArray, List.set_cons_zero, List.set_cons_succ, i64_w, i32_w]
                              rfl
                            refine one_ (i := 7) (N := some 83) #[true, true, true, true, true, true, true, true, false, false] rfl rfl (one_of HT_.out (by kernel_rfl)) (by decide) (fun K hK => ?_)
                            refine goes_ Try.func29 (by kernel_rfl) rfl #[.agg #[.slice Ao37 x669000_1.length co37, .int .i64 t656, .slice Ao10 t657.length co10, .int .i64 t660, .slice Ao11 t661.length co11], .slice A691_0 (rd_L5 t688 x13_3).length c691_0] (by rfl) rfl rfl (by (try simp only [List.map_toArray, List.map_cons, List.map_nil]); first | done | rfl | (simp only [List.length_drop, List.length_take]; rfl)) ?_
                            with_reducible refine (swarfref04_IsClean.calls k3 _ _ x669000_1 t656 _ _ t657 t660 _ _ t661 _ _ (rd_L5 t688 x13_3) t692 _ ?side1 ?side2 ?side3 ?side4 ?side5 ?side6 ?side7 ?side8 A56.out).mono ?_
                            (case side1 => repeat (first | exact (Kd.N_reads' HO_669000.out).2.2 | (with_reducible refine Kd.C_alloc ?_ _) | (with_reducible refine Kd.C_drewN ?_ _) | (with_reducible refine Kd.C_drew ?_)))
                            (case side2 => exact (Kd.N_reads' HO_669000.out).2.1)
                            (case side3 => repeat (first | exact (Kd.R_reads' HO_669002.out).2.2 | (with_reducible refine Kd.C_alloc ?_ _) | (with_reducible refine Kd.C_drewN ?_ _) | (with_reducible refine Kd.C_drew ?_)))
                            (case side4 => exact (Kd.R_reads' HO_669002.out).2.1)
                            (case side5 => repeat (first | exact (Kd.R_reads' HO_669004.out).2.2 | (with_reducible refine Kd.C_alloc ?_ _) | (with_reducible refine Kd.C_drewN ?_ _) | (with_reducible refine Kd.C_drew ?_)))
                            (case side6 => exact (Kd.R_reads' HO_669004.out).2.1)
                            (case side7 => repeat (first | exact (by repeat (first | (with_reducible exact HR691_0.out) | (with_reducible refine Kd.C_alloc ?_ _) | (with_reducible refine Kd.C_drewN ?_ _) | (with_reducible refine Kd.C_drew ?_) | exact HR691_0.out)) | (with_reducible refine Kd.C_alloc ?_ _) | (with_reducible refine Kd.C_drewN ?_ _) | (with_reducible refine Kd.C_drew ?_)))
                            (case side8 => exact HC691_0.out)
                            rintro e w59 ⟨rfl, hb⟩
                            have HS5_ := (hb.cell (World.block_lt_of_cell? _ _ (hHeld.2.2.2.2.2))).trans (hHeld.2.2.2.2.2)
                            refine ⟨_, rfl, ?_⟩
                            have n0_ := Aside0.mk (Kd.R_below (by (with_reducible repeat (first | apply Kd.R_alloc | apply Kd.R_drewN | apply Kd.R_drew)); exact HO_5.out) hb)
                            have n1_ := Aside0.mk (Kd.N_below (by (with_reducible repeat (first | apply Kd.N_alloc | apply Kd.N_drewN | apply Kd.N_drew)); exact HO_12.out) hb)
                            have n2_ := Aside0.mk (Kd.N_below (by (with_reducible repeat (first | apply Kd.N_alloc | apply Kd.N_drewN | apply Kd.N_drew)); exact HO_669000.out) hb)
                            have n3_ := Aside0.mk (Kd.R_below (by (with_reducible repeat (first | apply Kd.R_alloc | apply Kd.R_drewN | apply Kd.R_drew)); exact HO_669002.out) hb)
                            have n4_ := Aside0.mk (Kd.R_below (by (with_reducible repeat (first | apply Kd.R_alloc | apply Kd.R_drewN | apply Kd.R_drew)); exact HO_669004.out) hb)
                            have n5_ := Aside0.mk (Kd.V_below (by (with_reducible repeat (first | apply Kd.V_alloc | apply Kd.V_drewN | apply Kd.V_drew)); exact HL691_0.out) hb)
                            have n6_ := Aside0.mk (blk_below (g := gb668) (o := .cells #[.slice Ao37 x669000_1.length co37, .int .i64 t656, .slice Ao10 t657.length co10, .int .i64 t660, .slice Ao11 t661.length co11] 26 (0, 0)) (by (with_reducible repeat (first | refine blk_drewN ?_ _ | refine blk_drew ?_ | refine blk_alloc ?_ _)); exact BK668.out) hb)
                            have n7_ := Aside0.mk (Kd.C_below (by repeat (first | (with_reducible exact HR691_0.out) | (with_reducible refine Kd.C_alloc ?_ _) | (with_reducible refine Kd.C_drewN ?_ _) | (with_reducible refine Kd.C_drew ?_) | exact HR691_0.out)) hb)
                            have n8_ := Aside0.mk (below_step (by repeat (first | (with_reducible first | exact HB.out | apply below_alloc | apply pw_below_drewN | apply below_drew1 | refine below_set ?_ GE668.out) | exact HB.out)) hb)
                            clear HO_5
                            clear HO_12
                            clear HO_669000
                            clear HO_669002
                            clear HO_669004
                            clear HL691_0
                            clear BK668
                            clear HR691_0
                            clear HB
                            have HO_5 := n0_
                            have HO_12 := n1_
                            have HO_669000 := n2_
                            have HO_669002 := n3_
                            have HO_669004 := n4_
                            have HL691_0 := n5_
                            have BK668 := n6_
                            have HR691_0 := n7_
                            have HB := n8_
                            clear n0_ n1_ n2_ n3_ n4_ n5_ n6_ n7_ n8_
                            (try clear hb)
                            (try clear hb2)
                            (try clear hk)
                            (try clear hi)
                            refine hK.out _ _ ⟨(blk_cell BK668.out 0).trans rfl, (blk_cell BK668.out 1).trans rfl, (blk_cell BK668.out 2).trans rfl, (blk_cell BK668.out 3).trans rfl, (blk_cell BK668.out 4).trans rfl, HS5_⟩ (fun hHeld => ?_)
                            clear hK K
                            refine norm_ (a' := ?_) ?_ ?_
                            rotate_left
                            · show Act.put _ (some 83) _ = _
                              simp only [Act.put, List.setIfInBounds_toArray, List.set_cons_zero, List.set_cons_succ, i64_w, i32_w]
                              rfl
                            refine pure_ (i := 8) (N := some 84) (v := ?_) (a' := ?_) #[true, true, true, true, true, true, true, true, true, false] rfl rfl (any_of HT_.out (by kernel_rfl)) (fun _ _ _ h => h) (Or.inl ⟨by rfl, ?_⟩) ?_ ?_
                            rotate_left
                            · intro w'
                              go_simp
                              with_reducible rfl
                            rotate_left
                            · simp only [Act.put, List.setIfInBounds_toArray, List.set_cons_zero, List.set_cons_succ, i64_w, i32_w]
                              rfl
                            refine pure_ (i := 9) (N := some 11) (v := ?_) (a' := ?_) #[true, true, true, true, true, true, true, true, true, true] rfl rfl (any_of HT_.out (by kernel_rfl)) (fun _ _ _ h => h) (Or.inl ⟨by rfl, ?_⟩) ?_ ?_
                            rotate_left
                            · intro w'
                              go_simp
                              with_reducible rfl
                            rotate_left
                            · simp only [Act.put, List.setIfInBounds_toArray, List.set_cons_zero, List.set_cons_succ, i64_w, i32_w]
                              rfl
                            refine done_ (done_of HT_.out (by kernel_rfl)) ?_
                            try go_wp2
                            go_roundg k3
                            case measure => have := HK1.out; have := HK2.out; have := HK3.out; omega
                            case rel => exact ⟨(t692), (wrap64 (x13_3 + 1)), (by first | rfl | (simp; done) | (simp [*]; done)), (by first | rfl | (simp; done) | (simp [*]; done)), H', ⟨by have := HK1.out; have := HK2.out; have := HK3.out; omega⟩, ⟨by (with_reducible repeat (first | apply Kd.R_alloc | apply Kd.R_drewN | apply Kd.R_drew)); exact HO_5.out⟩, ⟨by (with_reducible repeat (first | apply Kd.N_alloc | apply Kd.N_drewN | apply Kd.N_drew)); exact HO_12.out⟩, ⟨by (with_reducible repeat (first | apply Kd.N_alloc | apply Kd.N_drewN | apply Kd.N_drew)); exact HO_669000.out⟩, ⟨by (with_reducible repeat (first | apply Kd.R_alloc | apply Kd.R_drewN | apply Kd.R_drew)); exact HO_669002.out⟩, ⟨by (with_reducible repeat (first | apply Kd.R_alloc | apply Kd.R_drewN | apply Kd.R_drew)); exact HO_669004.out⟩, ⟨by (with_reducible repeat (first | refine blk_drewN ?_ _ | refine blk_drew ?_ | refine blk_alloc ?_ _)); exact BK668.out⟩, ⟨by repeat (first | (with_reducible first | exact HB.out | apply below_alloc | apply pw_below_drewN | apply below_drew1 | refine below_set ?_ GE668.out) | exact HB.out)⟩⟩
                          · rw [if_neg c55] at H
                            exact absurd H (by simp)
                        · replace c54 := Bool.eq_false_iff.mpr c54
                          subst c54
                          have H1 : (swarflaw04_StripSafe.l2 k3 t664 t685 x9_2 false t688 (wrap64 (x13_3 + 1)) x669000_1 t656 t657 t660 t661) = some r := by rw [if_neg (show ¬ (false = true) by decide)] at H; exact H
                          clear H
                          have H := H1
                          clear H1
                          have H' := Aside0.mk H
                          clear H
                          obtain ⟨Ao60, co60, eo60⟩ := Kd.N_slice HO_12.out
                          subst eo60
                          try go_wp2
                          have n0_ := Aside0.mk (Kd.R_drew HO_5.out)
                          have n1_ := Aside0.mk (Kd.N_drew HO_12.out)
                          have n2_ := Aside0.mk (Kd.N_drew HO_669000.out)
                          have n3_ := Aside0.mk (Kd.R_drew HO_669002.out)
                          have n4_ := Aside0.mk (Kd.R_drew HO_669004.out)
                          have n5_ := Aside0.mk (blk_drew BK668.out)
                          have n6_ := Aside0.mk (below_drew1 HB.out)
                          clear HO_5
                          clear HO_12
                          clear HO_669000
                          clear HO_669002
                          clear HO_669004
                          clear BK668
                          clear HB
                          have HO_5 := n0_
                          have HO_12 := n1_
                          have HO_669000 := n2_
                          have HO_669002 := n3_
                          have HO_669004 := n4_
                          have BK668 := n5_
                          have HB := n6_
                          clear n0_ n1_ n2_ n3_ n4_ n5_ n6_
                          refine start_ (n := 10) (S := fun w' => True) (ds := []) #[false, false, false, false, false, false, false, false, false, false] (by kernel_rfl) rfl rfl trivial (fun hHeld => ?_); refine with_tabW swarflaw04_StripSafe.tab19 swarflaw04_StripSafe.bits19 (fun HT_ HW_ => ?_)
                          generalize wr.drew = w61 at HO_5 HO_12 HO_669000 HO_669002 HO_669004 BK668 HB hHeld ⊢
                          refine pure_ (i := 0) (N := some 76) (v := ?_) (a' := ?_) #[true, false, false, false, false, false, false, false, false, false] rfl rfl (any_of HT_.out (by kernel_rfl)) (fun _ _ _ h => h) (Or.inl ⟨by rfl, ?_⟩) ?_ ?_
                          rotate_left
                          · intro w'
                            go_simp
                            with_reducible rfl
                          rotate_left
                          · simp only [Act.put, List.setIfInBounds_toArray, List.set_cons_zero, List.set_cons_succ, i64_w, i32_w]
                            rfl
                          refine pure_ (i := 1) (N := some 77) (v := ?_) (a' := ?_) #[true, true, false, false, false, false, false, false, false, false] rfl rfl (any_of HT_.out (by kernel_rfl)) (fun _ _ _ h => h) (Or.inl ⟨by rfl, ?_⟩) ?_ ?_
                          rotate_left
                          · intro w'
                            go_simp
                            with_reducible rfl
                          rotate_left
                          · simp only [Act.put, List.setIfInBounds_toArray, List.set_cons_zero, List.set_cons_succ, i64_w, i32_w]
                            rfl
                          refine pure_ (i := 2) (N := some 78) (v := undef) (a' := ?_) #[true, true, true, false, false, false, false, false, false, false] rfl rfl (any_of HT_.out (by kernel_rfl)) (fun _ _ _ h => h) (Or.inr ⟨by rfl, rfl⟩) ?_ ?_
                          rotate_left
                          · simp only [Act.put, List.setIfInBounds_toArray, List.set_cons_zero, List.set_cons_succ, i64_w, i32_w]
                            rfl
                          refine pure_ (i := 3) (N := some 79) (v := undef) (a' := ?_) #[true, true, true, true, false, false, false, false, false, false] rfl rfl (any_of HT_.out (by kernel_rfl)) (fun _ _ _ h => h) (Or.inr ⟨by rfl, rfl⟩) ?_ ?_
                          rotate_left
                          · simp only [Act.put, List.setIfInBounds_toArray, List.set_cons_zero, List.set_cons_succ, i64_w, i32_w]
                            rfl
                          refine pure_ (i := 4) (N := some 80) (v := undef) (a' := ?_) #[true, true, true, true, true, false, false, false, false, false] rfl rfl (any_of HT_.out (by kernel_rfl)) (fun _ _ _ h => h) (Or.inr ⟨by rfl, rfl⟩) ?_ ?_
                          rotate_left
                          · simp only [Act.put, List.setIfInBounds_toArray, List.set_cons_zero, List.set_cons_succ, i64_w, i32_w]
                            rfl
                          refine pure_ (i := 5) (N := some 81) (v := undef) (a' := ?_) #[true, true, true, true, true, true, false, false, false, false] rfl rfl (any_of HT_.out (by kernel_rfl)) (fun _ _ _ h => h) (Or.inr ⟨by rfl, rfl⟩) ?_ ?_
                          rotate_left
                          · simp only [Act.put, List.setIfInBounds_toArray, List.set_cons_zero, List.set_cons_succ, i64_w, i32_w]
                            rfl
                          refine pure_ (i := 6) (N := some 82) (v := undef) (a' := ?_) #[true, true, true, true, true, true, true, false, false, false] rfl rfl (any_of HT_.out (by kernel_rfl)) (fun _ _ _ h => h) (Or.inr ⟨by rfl, rfl⟩) ?_ ?_
                          rotate_left
                          · simp only [Act.put, List.setIfInBounds_toArray, List.set_cons_zero, List.set_cons_succ, i64_w, i32_w]
                            rfl
                          refine pure_ (i := 7) (N := some 83) (v := undef) (a' := ?_) #[true, true, true, true, true, true, true, true, false, false] rfl rfl (any_of HT_.out (by kernel_rfl)) (fun _ _ _ h => h) (Or.inr ⟨by rfl, rfl⟩) ?_ ?_
                          rotate_left
                          · simp only [Act.put, List.setIfInBounds_toArray, List.set_cons_zero, List.set_cons_succ, i64_w, i32_w]
                            rfl
                          refine pure_ (i := 8) (N := some 84) (v := ?_) (a' := ?_) #[true, true, true, true, true, true, true, true, true, false] rfl rfl (any_of HT_.out (by kernel_rfl)) (fun _ _ _ h => h) (Or.inl ⟨by rfl, ?_⟩) ?_ ?_
                          rotate_left
                          · intro w'
                            go_simp
                            with_reducible rfl
                          rotate_left
                          · simp only [Act.put, List.setIfInBounds_toArray, List.set_cons_zero, List.set_cons_succ, i64_w, i32_w]
                            rfl
                          refine pure_ (i := 9) (N := some 11) (v := ?_) (a' := ?_) #[true, true, true, true, true, true, true, true, true, true] rfl rfl (any_of HT_.out (by kernel_rfl)) (fun _ _ _ h => h) (Or.inl ⟨by rfl, ?_⟩) ?_ ?_
                          rotate_left
                          · intro w'
                            go_simp
                            with_reducible rfl
                          rotate_left
                          · simp only [Act.put, List.setIfInBounds_toArray, List.set_cons_zero, List.set_cons_succ, i64_w, i32_w]
                            rfl
                          refine done_ (done_of HT_.out (by kernel_rfl)) ?_
                          try go_wp2
                          go_roundg k3
                          case measure => have := HK1.out; have := HK2.out; have := HK3.out; omega
                          case rel => exact ⟨(false), (wrap64 (x13_3 + 1)), (by first | rfl | (simp; done) | (simp [*]; done)), (by first | rfl | (simp; done) | (simp [*]; done)), H', ⟨by have := HK1.out; have := HK2.out; have := HK3.out; omega⟩, ⟨by (with_reducible repeat (first | apply Kd.R_alloc | apply Kd.R_drewN | apply Kd.R_drew)); exact HO_5.out⟩, ⟨by (with_reducible repeat (first | apply Kd.N_alloc | apply Kd.N_drewN | apply Kd.N_drew)); exact HO_12.out⟩, ⟨by (with_reducible repeat (first | apply Kd.N_alloc | apply Kd.N_drewN | apply Kd.N_drew)); exact HO_669000.out⟩, ⟨by (with_reducible repeat (first | apply Kd.R_alloc | apply Kd.R_drewN | apply Kd.R_drew)); exact HO_669002.out⟩, ⟨by (with_reducible repeat (first | apply Kd.R_alloc | apply Kd.R_drewN | apply Kd.R_drew)); exact HO_669004.out⟩, ⟨by (with_reducible repeat (first | refine blk_drewN ?_ _ | refine blk_drew ?_ | refine blk_alloc ?_ _)); exact BK668.out⟩, ⟨by repeat (first | (with_reducible first | exact HB.out | apply below_alloc | apply pw_below_drewN | apply below_drew1 | refine below_set ?_ GE668.out) | exact HB.out)⟩⟩
                      · rw [if_neg c53] at H
                        have c53b0 : decide (x13_3 < (t688.length : Int)) = false := decide_eq_false c53
                        clear c53
                        by_cases c62 : x9_2 = true
                        · subst c62
                          have H1 : (if x11_3 = true then (if t685 = 0 then ((swarfref04_IsClean.f k3 x669000_1 t656 t657 t660 t661 t664).bind fun t693 => (if t693 = true then ((swarflaw04_awake.f k3).bind fun t694 => (some t694)) else (some false))) else (some false)) else (if t685 = 15 then ((swarflaw04_awake.f k3).bind fun t695 => (some t695)) else (some false))) = some r := by rw [if_pos rfl] at H; exact H
                          clear H
                          have H := H1
                          clear H1
                          by_cases c63 : x11_3 = true
                          · subst c63
                            have H1 : (if t685 = 0 then ((swarfref04_IsClean.f k3 x669000_1 t656 t657 t660 t661 t664).bind fun t693 => (if t693 = true then ((swarflaw04_awake.f k3).bind fun t694 => (some t694)) else (some false))) else (some false)) = some r := by rw [if_pos rfl] at H; exact H
                            clear H
                            have H := H1
                            clear H1
                            by_cases c64 : t685 = 0
                            · rw [if_pos c64] at H
                              have c64b0 : (t685 == 0) = true := beq_iff_eq.mpr c64
                              have c64b1 : (t685 != 0) = false := bne_eq_false_iff_eq.mpr c64
                              clear c64
                              replace H := Option.bind_eq_some_iff.mp H
                              obtain ⟨t693, A650, H⟩ := H
                              replace H : (if t693 = true then ((swarflaw04_awake.f k3).bind fun t694 => (some t694)) else (some false)) = some r := H
                              have A65 := Aside0.mk A650
                              clear A650
                              by_cases c66 : t693 = true
                              · subst c66
                                have H1 : ((swarflaw04_awake.f k3).bind fun t694 => (some t694)) = some r := by rw [if_pos rfl] at H; exact H
                                clear H
                                have H := H1
                                clear H1
                                replace H := Option.bind_eq_some_iff.mp H
                                obtain ⟨t694, A670, H⟩ := H
                                replace H : (some t694) = some r := H
                                have A67 := Aside0.mk A670
                                clear A670
                                obtain rfl := Option.some.inj H
                                obtain ⟨Ao68, co68, eo68⟩ := Kd.N_slice HO_12.out
                                subst eo68
                                have hcz69_0 : wr.cell? ⟨gb668, 0, none⟩ = some (.slice Ao37 x669000_1.length co37) := (blk_cell BK668.out 0).trans rfl
                                have hcz69_1 : wr.cell? ⟨gb668, 1, none⟩ = some (.int .i64 t656) := (blk_cell BK668.out 1).trans rfl
                                have hcz69_2 : wr.cell? ⟨gb668, 2, none⟩ = some (.slice Ao10 t657.length co10) := (blk_cell BK668.out 2).trans rfl
                                have hcz69_3 : wr.cell? ⟨gb668, 3, none⟩ = some (.int .i64 t660) := (blk_cell BK668.out 3).trans rfl
                                have hcz69_4 : wr.cell? ⟨gb668, 4, none⟩ = some (.slice Ao11 t661.length co11) := (blk_cell BK668.out 4).trans rfl
                                have hfz69_0 := blk_frozen BK668.out 0
                                have hfz69_1 := blk_frozen BK668.out 1
                                have hfz69_2 := blk_frozen BK668.out 2
                                have hfz69_3 := blk_frozen BK668.out 3
                                have hfz69_4 := blk_frozen BK668.out 4
                                obtain ⟨Ao70, co70, eo70⟩ := Kd.R_slice HO_5.out
                                subst eo70
                                go_wp2_with (first | (go_at_call 29; (with_reducible refine (swarfref04_IsClean.calls k3 _ _ x669000_1 t656 _ _ t657 t660 _ _ t661 _ _ t664 true _ ?side1 ?side2 ?side3 ?side4 ?side5 ?side6 ?side7 ?side8 A65.out).mono ?_); (case side1 => repeat (first | exact (Kd.N_reads' HO_669000.out).2.2 | (with_reducible refine Kd.C_alloc ?_ _) | (with_reducible refine Kd.C_drewN ?_ _) | (with_reducible refine Kd.C_drew ?_))); (case side2 => exact (Kd.N_reads' HO_669000.out).2.1); (case side3 => repeat (first | exact (Kd.R_reads' HO_669002.out).2.2 | (with_reducible refine Kd.C_alloc ?_ _) | (with_reducible refine Kd.C_drewN ?_ _) | (with_reducible refine Kd.C_drew ?_))); (case side4 => exact (Kd.R_reads' HO_669002.out).2.1); (case side5 => repeat (first | exact (Kd.R_reads' HO_669004.out).2.2 | (with_reducible refine Kd.C_alloc ?_ _) | (with_reducible refine Kd.C_drewN ?_ _) | (with_reducible refine Kd.C_drew ?_))); (case side6 => exact (Kd.R_reads' HO_669004.out).2.1); (case side7 => repeat (first | exact (Kd.R_reads' HO_5.out).2.2 | (with_reducible refine Kd.C_alloc ?_ _) | (with_reducible refine Kd.C_drewN ?_ _) | (with_reducible refine Kd.C_drew ?_))); (case side8 => exact (Kd.R_reads' HO_5.out).2.1); rintro e w71 ⟨rfl, hb⟩; have n0_ := Aside0.mk (Kd.R_below (by (with_reducible repeat (first | apply Kd.R_alloc | apply Kd.R_drewN | apply Kd.R_drew)); exact HO_5.out) hb); have n1_ := Aside0.mk (Kd.N_below (by (with_reducible repeat (first | apply Kd.N_alloc | apply Kd.N_drewN | apply Kd.N_drew)); exact HO_12.out) hb); have n2_ := Aside0.mk (Kd.N_below (by (with_reducible repeat (first | apply Kd.N_alloc | apply Kd.N_drewN | apply Kd.N_drew)); exact HO_669000.out) hb); have n3_ := Aside0.mk (Kd.R_below (by (with_reducible repeat (first | apply Kd.R_alloc | apply Kd.R_drewN | apply Kd.R_drew)); exact HO_669002.out) hb); have n4_ := Aside0.mk (Kd.R_below (by (with_reducible repeat (first | apply Kd.R_alloc | apply Kd.R_drewN | apply Kd.R_drew)); exact HO_669004.out) hb); have n5_ := Aside0.mk (blk_below (g := gb668) (o := .cells #[.slice Ao37 x669000_1.length co37, .int .i64 t656, .slice Ao10 t657.length co10, .int .i64 t660, .slice Ao11 t661.length co11] 26 (0, 0)) (by (with_reducible repeat (first | refine blk_drewN ?_ _ | refine blk_drew ?_ | refine blk_alloc ?_ _)); exact BK668.out) hb); have n6_ := Aside0.mk (below_step (by repeat (first | (with_reducible first | exact HB.out | apply below_alloc | apply pw_below_drewN | apply below_drew1 | refine below_set ?_ GE668.out) | exact HB.out)) hb); clear HO_5; clear HO_12; clear HO_669000; clear HO_669002; clear HO_669004; clear BK668; clear HB; have HO_5 := n0_; have HO_12 := n1_; have HO_669000 := n2_; have HO_669002 := n3_; have HO_669004 := n4_; have BK668 := n5_; have HB := n6_; clear n0_ n1_ n2_ n3_ n4_ n5_ n6_; (try clear hb); (try clear hb2); (try clear hk); (try clear hi)) | (go_at_call 16; (with_reducible refine (swarflaw04_awake.calls k3  t694 _ A67.out).mono ?_); rintro e w72 ⟨rfl, hb⟩; have n0_ := Aside0.mk (Kd.R_below (by (with_reducible repeat (first | apply Kd.R_alloc | apply Kd.R_drewN | apply Kd.R_drew)); exact HO_5.out) hb); have n1_ := Aside0.mk (Kd.N_below (by (with_reducible repeat (first | apply Kd.N_alloc | apply Kd.N_drewN | apply Kd.N_drew)); exact HO_12.out) hb); have n2_ := Aside0.mk (Kd.N_below (by (with_reducible repeat (first | apply Kd.N_alloc | apply Kd.N_drewN | apply Kd.N_drew)); exact HO_669000.out) hb); have n3_ := Aside0.mk (Kd.R_below (by (with_reducible repeat (first | apply Kd.R_alloc | apply Kd.R_drewN | apply Kd.R_drew)); exact HO_669002.out) hb); have n4_ := Aside0.mk (Kd.R_below (by (with_reducible repeat (first | apply Kd.R_alloc | apply Kd.R_drewN | apply Kd.R_drew)); exact HO_669004.out) hb); have n5_ := Aside0.mk (blk_below (g := gb668) (o := .cells #[.slice Ao37 x669000_1.length co37, .int .i64 t656, .slice Ao10 t657.length co10, .int .i64 t660, .slice Ao11 t661.length co11] 26 (0, 0)) (by (with_reducible repeat (first | refine blk_drewN ?_ _ | refine blk_drew ?_ | refine blk_alloc ?_ _)); exact BK668.out) hb); have n6_ := Aside0.mk (below_step (by repeat (first | (with_reducible first | exact HB.out | apply below_alloc | apply pw_below_drewN | apply below_drew1 | refine below_set ?_ GE668.out) | exact HB.out)) hb); clear HO_5; clear HO_12; clear HO_669000; clear HO_669002; clear HO_669004; clear BK668; clear HB; have HO_5 := n0_; have HO_12 := n1_; have HO_669000 := n2_; have HO_669002 := n3_; have HO_669004 := n4_; have BK668 := n5_; have HB := n6_; clear n0_ n1_ n2_ n3_ n4_ n5_ n6_; (try clear hb); (try clear hb2); (try clear hk); (try clear hi)))
                                go_ret
                                exact ⟨by first | rfl | (simp [errW_none, errW_some] <;> rfl) | (simp [*, errW_none, errW_some] <;> rfl), by repeat (first | (with_reducible first | exact HB.out | apply below_alloc | apply pw_below_drewN | apply below_drew1 | refine below_set ?_ GE668.out) | exact HB.out)⟩
                              · replace c66 := Bool.eq_false_iff.mpr c66
                                subst c66
                                have H1 : (some false) = some r := by rw [if_neg (show ¬ (false = true) by decide)] at H; exact H
                                clear H
                                have H := H1
                                clear H1
                                exact absurd ((Option.some.inj H).trans hrt.out) (by decide)
                            · rw [if_neg c64] at H
                              have c64b0 : (t685 == 0) = false := beq_eq_false_iff_ne.mpr c64
                              have c64b1 : (t685 != 0) = true := bne_iff_ne.mpr c64
                              exact absurd ((Option.some.inj H).trans hrt.out) (by decide)
                          · replace c63 := Bool.eq_false_iff.mpr c63
                            subst c63
                            have H1 : (if t685 = 15 then ((swarflaw04_awake.f k3).bind fun t695 => (some t695)) else (some false)) = some r := by rw [if_neg (show ¬ (false = true) by decide)] at H; exact H
                            clear H
                            have H := H1
                            clear H1
                            by_cases c78 : t685 = 15
                            · rw [if_pos c78] at H
                              have c78b0 : (t685 == 15) = true := beq_iff_eq.mpr c78
                              have c78b1 : (t685 != 15) = false := bne_eq_false_iff_eq.mpr c78
                              clear c78
                              replace H := Option.bind_eq_some_iff.mp H
                              obtain ⟨t695, A790, H⟩ := H
                              replace H : (some t695) = some r := H
                              have A79 := Aside0.mk A790
                              clear A790
                              obtain rfl := Option.some.inj H
                              obtain ⟨Ao80, co80, eo80⟩ := Kd.N_slice HO_12.out
                              subst eo80
                              go_wp2_with (first | (go_at_call 16; (with_reducible refine (swarflaw04_awake.calls k3  t695 _ A79.out).mono ?_); rintro e w81 ⟨rfl, hb⟩; have n0_ := Aside0.mk (Kd.R_below (by (with_reducible repeat (first | apply Kd.R_alloc | apply Kd.R_drewN | apply Kd.R_drew)); exact HO_5.out) hb); have n1_ := Aside0.mk (Kd.N_below (by (with_reducible repeat (first | apply Kd.N_alloc | apply Kd.N_drewN | apply Kd.N_drew)); exact HO_12.out) hb); have n2_ := Aside0.mk (Kd.N_below (by (with_reducible repeat (first | apply Kd.N_alloc | apply Kd.N_drewN | apply Kd.N_drew)); exact HO_669000.out) hb); have n3_ := Aside0.mk (Kd.R_below (by (with_reducible repeat (first | apply Kd.R_alloc | apply Kd.R_drewN | apply Kd.R_drew)); exact HO_669002.out) hb); have n4_ := Aside0.mk (Kd.R_below (by (with_reducible repeat (first | apply Kd.R_alloc | apply Kd.R_drewN | apply Kd.R_drew)); exact HO_669004.out) hb); have n5_ := Aside0.mk (blk_below (g := gb668) (o := .cells #[.slice Ao37 x669000_1.length co37, .int .i64 t656, .slice Ao10 t657.length co10, .int .i64 t660, .slice Ao11 t661.length co11] 26 (0, 0)) (by (with_reducible repeat (first | refine blk_drewN ?_ _ | refine blk_drew ?_ | refine blk_alloc ?_ _)); exact BK668.out) hb); have n6_ := Aside0.mk (below_step (by repeat (first | (with_reducible first | exact HB.out | apply below_alloc | apply pw_below_drewN | apply below_drew1 | refine below_set ?_ GE668.out) | exact HB.out)) hb); clear HO_5; clear HO_12; clear HO_669000; clear HO_669002; clear HO_669004; clear BK668; clear HB; have HO_5 := n0_; have HO_12 := n1_; have HO_669000 := n2_; have HO_669002 := n3_; have HO_669004 := n4_; have BK668 := n5_; have HB := n6_; clear n0_ n1_ n2_ n3_ n4_ n5_ n6_; (try clear hb); (try clear hb2); (try clear hk); (try clear hi)))
                              go_ret
                              exact ⟨by first | rfl | (simp [errW_none, errW_some] <;> rfl) | (simp [*, errW_none, errW_some] <;> rfl), by repeat (first | (with_reducible first | exact HB.out | apply below_alloc | apply pw_below_drewN | apply below_drew1 | refine below_set ?_ GE668.out) | exact HB.out)⟩
                            · rw [if_neg c78] at H
                              have c78b0 : (t685 == 15) = false := beq_eq_false_iff_ne.mpr c78
                              have c78b1 : (t685 != 15) = true := bne_iff_ne.mpr c78
                              exact absurd ((Option.some.inj H).trans hrt.out) (by decide)
                        · replace c62 := Bool.eq_false_iff.mpr c62
                          subst c62
                          have H1 : (if t685 = 14 then ((swarflaw04_awake.f k3).bind fun t696 => (some t696)) else (some false)) = some r := by rw [if_neg (show ¬ (false = true) by decide)] at H; exact H
                          clear H
                          have H := H1
                          clear H1
                          by_cases c83 : t685 = 14
                          · rw [if_pos c83] at H
                            have c83b0 : (t685 == 14) = true := beq_iff_eq.mpr c83
                            have c83b1 : (t685 != 14) = false := bne_eq_false_iff_eq.mpr c83
                            clear c83
                            replace H := Option.bind_eq_some_iff.mp H
                            obtain ⟨t696, A840, H⟩ := H
                            replace H : (some t696) = some r := H
                            have A84 := Aside0.mk A840
                            clear A840
                            obtain rfl := Option.some.inj H
                            obtain ⟨Ao85, co85, eo85⟩ := Kd.N_slice HO_12.out
                            subst eo85
                            go_wp2_with (first | (go_at_call 16; (with_reducible refine (swarflaw04_awake.calls k3  t696 _ A84.out).mono ?_); rintro e w86 ⟨rfl, hb⟩; have n0_ := Aside0.mk (Kd.R_below (by (with_reducible repeat (first | apply Kd.R_alloc | apply Kd.R_drewN | apply Kd.R_drew)); exact HO_5.out) hb); have n1_ := Aside0.mk (Kd.N_below (by (with_reducible repeat (first | apply Kd.N_alloc | apply Kd.N_drewN | apply Kd.N_drew)); exact HO_12.out) hb); have n2_ := Aside0.mk (Kd.N_below (by (with_reducible repeat (first | apply Kd.N_alloc | apply Kd.N_drewN | apply Kd.N_drew)); exact HO_669000.out) hb); have n3_ := Aside0.mk (Kd.R_below (by (with_reducible repeat (first | apply Kd.R_alloc | apply Kd.R_drewN | apply Kd.R_drew)); exact HO_669002.out) hb); have n4_ := Aside0.mk (Kd.R_below (by (with_reducible repeat (first | apply Kd.R_alloc | apply Kd.R_drewN | apply Kd.R_drew)); exact HO_669004.out) hb); have n5_ := Aside0.mk (blk_below (g := gb668) (o := .cells #[.slice Ao37 x669000_1.length co37, .int .i64 t656, .slice Ao10 t657.length co10, .int .i64 t660, .slice Ao11 t661.length co11] 26 (0, 0)) (by (with_reducible repeat (first | refine blk_drewN ?_ _ | refine blk_drew ?_ | refine blk_alloc ?_ _)); exact BK668.out) hb); have n6_ := Aside0.mk (below_step (by repeat (first | (with_reducible first | exact HB.out | apply below_alloc | apply pw_below_drewN | apply below_drew1 | refine below_set ?_ GE668.out) | exact HB.out)) hb); clear HO_5; clear HO_12; clear HO_669000; clear HO_669002; clear HO_669004; clear BK668; clear HB; have HO_5 := n0_; have HO_12 := n1_; have HO_669000 := n2_; have HO_669002 := n3_; have HO_669004 := n4_; have BK668 := n5_; have HB := n6_; clear n0_ n1_ n2_ n3_ n4_ n5_ n6_; (try clear hb); (try clear hb2); (try clear hk); (try clear hi)))
                            go_ret
                            exact ⟨by first | rfl | (simp [errW_none, errW_some] <;> rfl) | (simp [*, errW_none, errW_some] <;> rfl), by repeat (first | (with_reducible first | exact HB.out | apply below_alloc | apply pw_below_drewN | apply below_drew1 | refine below_set ?_ GE668.out) | exact HB.out)⟩
                          · rw [if_neg c83] at H
                            have c83b0 : (t685 == 14) = false := beq_eq_false_iff_ne.mpr c83
                            have c83b1 : (t685 != 14) = true := bne_iff_ne.mpr c83
                            exact absurd ((Option.some.inj H).trans hrt.out) (by decide)
          · rw [if_neg c33] at H
            exact absurd H (by simp)
        · rw [if_neg c32] at H
          exact absurd H (by simp)
def swarflaw04_StripSafe.Pure : Prop := ∀ (l0 : List Int), l0.length ≤ maxLen → l0.length * 8 ≤ 140737488351232 → (∀ x ∈ l0, (Lit.int .i64 x).wf = true) → ∃ k, swarflaw04_StripSafe.f k l0 = some true
theorem swarflaw04_StripSafe.walk (P : swarflaw04_StripSafe.Pure) (a0 : Option Addr) (len0 cap0 : Nat) (z0 : List Int) (w : World) (w0 : (a0 = none ∧ len0 = 0 ∧ cap0 = 0 ∧ z0 = []) ∨ ∃ x, a0 = some x ∧ len0 ≤ cap0 ∧ cap0 ≤ maxLen ∧ z0.length = cap0 ∧ (∀ i, i < z0.length → w.cell? (x.add i) = some (.int .i64 (z0.getD i 0))) ∧ ∀ n ∈ z0, (Lit.int .i64 n).wf = true) (y0 : len0 * 8 ≤ 140737488351232) :
    Calls Try.prog 11 #[.slice a0 len0 cap0] w fun e w' => e = .returned (.bool true) ∧ Below w.heap.size w w' := by
  obtain ⟨l0, rfl, hr0, hm0, hw0, hc0⟩ := ReadsInt.ofRowC w0
  obtain ⟨k, h⟩ := P l0 hm0 y0 hw0
  refine (swarflaw04_StripSafe.calls k _ _ l0 true ⟨rfl⟩ w (Kd.C_of_reads (d := (0 : Int)) (h1 := fun _ => rfl) hr0) hc0 h).mono ?_
  rintro e w' ⟨rfl, hd⟩
  exact ⟨rfl, hd⟩
end Go.Proofs.Ytkkmfcdikkiodaa.PC4
namespace Go.Proofs.Ytkkmfcdikkiodaa.PC4
set_option linter.unusedVariables false
open Go.RowKit Go.Proofs.YtkkmfcdikkiodaaW.PrintWords Go.Proofs.YtkkmfcdikkiodaaW.PrintLast Go.Proofs.YtkkmfcdikkiodaaW.PrintMore
theorem badGo_bit (l : List S50) : ∀ i s k, (badGo i s l).testBit k = (s.testBit k || (decide (i ≤ k) && (l.getD (k - i) z50).f1)) := by
  induction l with
  | nil => intro i s k; simp [badGo, z50]
  | cons p l ih =>
    intro i s k
    rw [badGo, ih]
    by_cases h1 : i + 1 ≤ k
    · have h2 : i ≤ k := by omega
      have h3 : k - i = (k - (i + 1)) + 1 := by omega
      have hne : ¬ i = k := by omega
      rw [h3, List.getD_cons_succ]
      simp only [h1, h2, decide_true, Bool.true_and]
      cases hp : p.f1 with
      | false => simp
      | true => simp [Nat.testBit_or, Nat.testBit_two_pow, hne]
    · by_cases h2 : i = k
      · subst h2
        simp only [h1, decide_false, Bool.false_and, Bool.or_false, Nat.le_refl, decide_true, Bool.true_and, Nat.sub_self, List.getD_cons_zero]
        cases hp : p.f1 with
        | false => simp
        | true => simp [Nat.testBit_or, Nat.testBit_two_pow]
      · have h3 : ¬ i ≤ k := by omega
        simp only [h1, h3, decide_false, Bool.false_and, Bool.or_false]
        cases hp : p.f1 with
        | false => simp
        | true => simp [Nat.testBit_or, Nat.testBit_two_pow, h2]
theorem badMask_bit (parts : List S50) (k : Nat) : (badMask parts).testBit k = (parts.getD k z50).f1 := by
  unfold badMask
  rw [badGo_bit]
  simp
theorem bad_lt (parts : List S50) (h : parts.length ≤ 16) : badMask parts < 65536 := badGo_lt parts 0 0 (by omega) (by decide)
structure TruthSet (parts : List S50) (T : List Nat) : Prop where
  ne : T ≠ []
  few : parts.length ≤ 9
  pok : ∀ i, i < parts.length → PartOK i (parts.getD i z50)
  lt : ∀ s, s ∈ T → s < 65536
  ok : ∀ s, s ∈ T → ∀ i, i < parts.length → s.testBit i = true → ∀ x, x ∈ (parts.getD i z50).f0 → s.testBit x.toNat = true
def partV (T : List Nat) (i : Nat) : Int := verdictS (setsI T) (rawHas (i : Int))
def carV (parts : List S50) (T : List Nat) : Int := verdictS (setsI T) (rawAll (badMask parts : Nat))
theorem carV_cases {parts : List S50} {T : List Nat} (h : TruthSet parts T) :
    (carV parts T = 1 ∧ ∀ s, s ∈ T → subM (badMask parts) s = true) ∨ (carV parts T = 2 ∧ T ≠ [] ∧ ∀ s, s ∈ T → subM (badMask parts) s = false) ∨ (carV parts T = 3 ∧ (∃ s, s ∈ T ∧ subM (badMask parts) s = true) ∧ ∃ s, s ∈ T ∧ subM (badMask parts) s = false) :=
  verdict_cases T _ (fun s => subM (badMask parts) s) (fun s hs => rawAll_eq s _ (h.lt s hs) (bad_lt parts (by have := h.few; omega)))
theorem some_truth {T : List Nat} (h : T ≠ []) : ∃ s, s ∈ T := List.exists_mem_of_ne_nil T h
theorem sub_bad {parts : List S50} (s : Nat) : subM (badMask parts) s = true ↔ ∀ i, i < parts.length → (parts.getD i z50).f1 = true → s.testBit i = true := by
  rw [subM_iff]
  constructor
  · intro h i _ hb
    exact h i (by rw [badMask_bit]; exact hb)
  · intro h i hb
    rw [badMask_bit] at hb
    refine h i ?_ hb
    rcases Nat.lt_or_ge i parts.length with h1 | h1
    · exact h1
    · rw [List.getD, List.getElem?_eq_none h1] at hb
      cases hb
theorem truthSet {parts : List S50} {looks : List S61} {wrong : Int} (h9 : parts.length ≤ 9) (hp : ∀ i, i < parts.length → PartOK i (parts.getD i z50)) (hne : truthsL parts looks wrong ≠ []) : TruthSet parts (truthsL parts looks wrong) :=
  ⟨hne, h9, hp, fun s hs => by have h1 := ((mem_truths s).1 hs).1; have h2 := pow_le_512 h9; omega, fun s hs => (okM_iff hp s).1 ((mem_truths s).1 hs).2.1⟩
theorem CarGood.set {a1 a2 : Int} {parts : List S50} {swap : Int} {looks : List S61} {wrong : Int} {needs : List Int} {st : List Bool} (h : CarGood a1 a2 parts swap looks wrong needs st) (h9 : a1 ≤ 9) : TruthSet parts (truthsL parts looks wrong) :=
  truthSet (by have := h.few; omega) h.p.ok (fun e => by have := h.truth; rw [e] at this; cases this)
theorem CarGood.out {a1 a2 : Int} {parts : List S50} {swap : Int} {looks : List S61} {wrong : Int} {needs : List Int} {st : List Bool} (h : CarGood a1 a2 parts swap looks wrong needs st) (h9 : a1 ≤ 9) (h12 : a2 ≤ 12) :
    strip_Out.f parts swap looks wrong needs = some (outL parts.length (truthsL parts looks wrong), 0) := by
  unfold strip_Out.f outE
  rw [if_pos (h.fits h9 h12), if_pos (h.check h9 h12), if_neg (h.set h9).ne]
theorem CarGood.clean {a1 a2 : Int} {parts : List S50} {swap : Int} {looks : List S61} {wrong : Int} {needs : List Int} {st : List Bool} (h : CarGood a1 a2 parts swap looks wrong needs st) (h9 : a1 ≤ 9) (h12 : a2 ≤ 12) :
    strip_Clean.f parts swap looks wrong needs = some (carV parts (truthsL parts looks wrong), 0) := by
  unfold strip_Clean.f cleanE
  rw [if_pos (h.fits h9 h12), if_pos (h.check h9 h12), if_neg (h.set h9).ne]
  rfl
end Go.Proofs.Ytkkmfcdikkiodaa.PC4
namespace Go.Proofs.Ytkkmfcdikkiodaa.PC4
open Go.RowKit Go.Proofs.YtkkmfcdikkiodaaW.PrintWords Go.Proofs.YtkkmfcdikkiodaaW.PrintLast Go.Proofs.YtkkmfcdikkiodaaW.PrintMore
attribute [local go_sem] max2_int min2_int max_two min_two max_three min_three max_four min_four
set_option linter.unusedVariables false
set_option linter.unusedSimpArgs false
def swarfkit_Ints.f (l0 : List Int) : Option (List Int) := (some (([] : List Int) : List Int)).bind fun y463 => (if y463.length + l0.length < 17592186044416 then (some (y463 ++ l0)) else (none))
set_option maxHeartbeats 8000000 in
set_option maxRecDepth 100000 in
theorem swarfkit_Ints.calls (A0 : Option Addr) (c0 : Nat) (l0 : List Int) (r : List Int) (w : World) (hr0 : Kd.C (Kd.int .i64) w A0 l0.length l0) (hc0 : l0.length ≤ c0) (h : swarfkit_Ints.f l0 = some r) :
    Calls Try.prog 43 #[.slice A0 l0.length c0] w fun e w' => ∃ v0_ : Value, e = .returned (v0_) ∧ Kd.R (Kd.int .i64) 3 w' w.heap.size (fun _ => True) v0_ r ∧ Below w.heap.size w w' := by
  have HR0 := Aside0.mk hr0
  have HC0 := Aside0.mk hc0
  clear hr0 hc0
  have HB := Aside0.mk (Below.refl w.heap.size w)
  have H : ((some (([] : List Int) : List Int)).bind fun y463 => (if y463.length + l0.length < 17592186044416 then (some (y463 ++ l0)) else (none))) = some r := h
  clear h
  obtain ⟨y463, hy463⟩ : ∃ y_ : List Int, y_ = (([] : List Int)) := ⟨_, rfl⟩
  replace H : (if y463.length + l0.length < 17592186044416 then (some (y463 ++ l0)) else (none)) = some r := by first | (rw [hy463]; with_reducible exact H) | (have H2_ := (Option.bind_some _ _).symm.trans H; rw [hy463]; with_reducible exact H2_) | (have H2_ := (Option.bind_some _ _).symm.trans H; with_reducible exact H2_) | with_reducible exact H | (rw [hy463]; exact H) | exact H
  have Ny463 := Aside0.mk hy463
  clear hy463
  by_cases c2 : y463.length + l0.length < 17592186044416
  · rw [if_pos c2] at H
    have LMc2 := Aside0.mk c2
    clear c2
    obtain ⟨y466, hy466⟩ : ∃ y_ : List Int, y_ = (y463 ++ l0) := ⟨_, rfl⟩
    replace H : (some y466) = some r := by first | (rw [hy466]; with_reducible exact H) | (have H2_ := (Option.bind_some _ _).symm.trans H; rw [hy466]; with_reducible exact H2_) | (have H2_ := (Option.bind_some _ _).symm.trans H; with_reducible exact H2_) | with_reducible exact H | (rw [hy466]; exact H) | exact H
    have Ny466 := Aside0.mk hy466
    clear hy466
    obtain rfl := Option.some.inj H
    go_enter Try.func43, Try.ntmps43
    go_wp2_with (first | ((with_reducible refine gate_dst (N := 3) rfl ?_); refine Kd.R_lit (Kd.int .i64) _ 3 ?hg (N := 3) ?hd (xs := ([] : List Int)) (inner := []) (ok := fun _ => True) (okp := fun _ => True) ?hr ?hp (fun _ hk => hk) trivial (Below.refl _ _) (Nat.le_refl _) (by simp) ?_; (case hd => rfl); (case hg => rfl); (case hr => first | (go_simp; done) | (go_simp; rfl)); (case hp => exact (Reps.none _ _)); intro v464 w3 ho4 hb hg_ hnew_; clear hg_ hnew_; (first | rw [← Ny463.out] at ho4 | (simp only [Int.reduceToNat] at ho4; rw [← Ny463.out] at ho4)); have n0_ := Aside0.mk (Kd.R_lower ho4 (below_size (by repeat (first | (with_reducible first | exact HB.out | apply below_alloc | apply pw_below_drewN | apply below_drew1) | exact HB.out)))); have n1_ := Aside0.mk (below_step (by repeat (first | (with_reducible first | exact HB.out | apply below_alloc | apply pw_below_drewN | apply below_drew1) | exact HB.out)) hb); clear HB; have HO465 := n0_; have HB := n1_; clear n0_ n1_; clear hb ho4) | ((with_reducible refine gate_builtin (b := .append) (xs := #[.tmp 3, .tmp 4]) rfl ?_); at_builtin; refine Kd.R_append_rows (Kd.int .i64) (w0 := w) w.heap.size rfl (.tmp 3) (.tmp 4) 24 3 (.int .i64 0) 8 rfl Try.underlying24 info3 rfl (by decide) (by omega) v464 y463 l0 _ _ _ (fun _ => True) (fun _ => False) rfl rfl ?aO ?aR (fun _ _ h => h) (fun _ h => h.elim) ?aF ?aB ?aS ?aL ?_; (case aR => repeat (first | exact (Kd.C_below HR0.out HB.out) | (with_reducible refine Kd.C_alloc ?_ _) | (with_reducible refine Kd.C_drewN ?_ _) | (with_reducible refine Kd.C_drew ?_))); (case aB => exact (by repeat (first | (with_reducible first | exact HB.out | apply below_alloc | apply pw_below_drewN | apply below_drew1) | exact HB.out))); (case aF => exact (fun _ _ => trivial)); (case aO => exact (by (with_reducible repeat (first | apply Kd.R_alloc | apply Kd.R_drewN | apply Kd.R_drew)); exact HO465.out)); (case aS => exact (below_size (by repeat (first | (with_reducible first | exact HB.out | apply below_alloc | apply pw_below_drewN | apply below_drew1) | exact HB.out)))); (case aL => have := LMc2.out; omega); intro v467 w5 ho hb hg hat; rw [← Ny466.out] at ho; have n0_ := Aside0.mk (hb); have n1_ := Aside0.mk (ho); clear HB; clear HO465; have HB := n0_; have HO468 := n1_; clear n0_ n1_; clear ho hb hg hat))
    go_ret
    exact ⟨_, by first | rfl | (simp [errW_none, errW_some] <;> rfl) | (simp [*, errW_none, errW_some] <;> rfl), by (with_reducible repeat (first | apply Kd.R_alloc | apply Kd.R_drewN | apply Kd.R_drew)); exact HO468.out, by repeat (first | (with_reducible first | exact HB.out | apply below_alloc | apply pw_below_drewN | apply below_drew1) | exact HB.out)⟩
  · rw [if_neg c2] at H
    exact absurd H (by simp)
end Go.Proofs.Ytkkmfcdikkiodaa.PC4
namespace Go.Proofs.Ytkkmfcdikkiodaa.PC4
open Go.RowKit Go.Proofs.YtkkmfcdikkiodaaW.PrintWords Go.Proofs.YtkkmfcdikkiodaaW.PrintLast Go.Proofs.YtkkmfcdikkiodaaW.PrintMore
attribute [local go_sem] max2_int min2_int max_two min_two max_three min_three max_four min_four
set_option linter.unusedVariables false
set_option linter.unusedSimpArgs false
def swarfkit_CopyCar.l0 : Nat → Int → List (S50) → Int → List (S61) → Int → List Int → List (S50) → Int → List (S61) → Int → List Int → Option ((List (S50)) × Int × (List (S61)) × Int × List Int)
  | 0, _, _, _, _, _, _, _, _, _, _, _ => none
  | k + 1, x4, x470000, x470001, x470002, x470003, x470004, x472000, x472001, x472002, x472003, x472004 => if x4 < (x470000.length : Int) then (if 0 ≤ x4 then ((swarfkit_Ints.f ((rd_T50 x470000 x4).f0)).bind fun t483 => (if x472000.length < 2932031007402 then (swarfkit_CopyCar.l0 k (wrap64 (x4 + 1)) x470000 x470001 x470002 x470003 x470004 (x472000 ++ [(⟨t483, (rd_T50 x470000 x4).f1, (rd_T50 x470000 x4).f2, (rd_T50 x470000 x4).f3⟩ : S50)]) x472001 x472002 x472003 x472004) else (none))) else (none)) else (some (x472000, x472001, x472002, x472003, x472004))
def swarfkit_CopyCar.f (k : Nat) (l0_0 : List (S50)) (a0_1 : Int) (l0_2 : List (S61)) (a0_3 : Int) (l0_4 : List Int) : Option ((List (S50)) × Int × (List (S61)) × Int × List Int) := (some (([] : List (S61)) : List (S61))).bind fun y472 => (if y472.length + l0_2.length < 8796093022208 then ((swarfkit_Ints.f l0_4).bind fun t478 => (swarfkit_CopyCar.l0 k 0 l0_0 a0_1 l0_2 a0_3 l0_4 ([] : List (S50)) a0_1 (y472 ++ l0_2) a0_3 t478)) else (none))
theorem swarfkit_CopyCar.mono_l : ∀ k, (∀ y0 y1 y2 y3 y4 y5 y6 y7 y8 y9 y10, LeO (swarfkit_CopyCar.l0 k y0 y1 y2 y3 y4 y5 y6 y7 y8 y9 y10) (swarfkit_CopyCar.l0 (k + 1) y0 y1 y2 y3 y4 y5 y6 y7 y8 y9 y10))
  | 0 => fun _ _ _ _ _ _ _ _ _ _ _ r h => by simp [swarfkit_CopyCar.l0] at h
  | k + 1 => by
    have ih0 := swarfkit_CopyCar.mono_l k
    · intro y0 y1 y2 y3 y4 y5 y6 y7 y8 y9 y10
      unfold swarfkit_CopyCar.l0
      repeat' first
      | (with_reducible exact ih0 _ _ _ _ _ _ _ _ _ _ _)
      | (with_reducible exact LeO.refl _)
      | (with_reducible exact LeO.none _)
      | (with_reducible refine LeO.ite ?_ ?_)
      | (with_reducible refine LeO.bind ?_ (fun _ => ?_))
      | exact ih0 _ _ _ _ _ _ _ _ _ _ _
      | exact LeO.none _
      | refine LeO.ite ?_ ?_
      | refine LeO.bind ?_ (fun _ => ?_)
theorem swarfkit_CopyCar.mono : ∀ a0 a1 a2 a3 a4 k, LeO (swarfkit_CopyCar.f k a0 a1 a2 a3 a4) (swarfkit_CopyCar.f (k + 1) a0 a1 a2 a3 a4) := by
  intro a0 a1 a2 a3 a4 k
  have ih0 := swarfkit_CopyCar.mono_l k
  unfold swarfkit_CopyCar.f
  repeat' first
      | (with_reducible exact ih0 _ _ _ _ _ _ _ _ _ _ _)
      | (with_reducible exact LeO.refl _)
      | (with_reducible exact LeO.none _)
      | (with_reducible refine LeO.ite ?_ ?_)
      | (with_reducible refine LeO.bind ?_ (fun _ => ?_))
      | exact ih0 _ _ _ _ _ _ _ _ _ _ _
      | exact LeO.none _
      | refine LeO.ite ?_ ?_
      | refine LeO.bind ?_ (fun _ => ?_)
def swarfkit_CopyCar.T2 : Bool × List (List Nat × List Nat) := (true, [([], []), ([], []), ([1], [1]), ([0, 2], [0, 2]), ([], []), ([4], [4]), ([5, 3], [5]), ([], []), ([7, 6], [7]), ([0, 1, 2, 3, 7, 8], []), ([9, 3, 8, 0, 1, 2, 3, 7, 8], [3, 9]), ([0, 1, 2, 3, 4, 5, 6, 7, 8, 9, 10], []), ([11, 6, 10, 0, 1, 2, 3, 4, 5, 6, 7, 8, 9, 10], [6, 11])])
def swarfkit_CopyCar.B2 : List Nat := [0, 0, 2, 7, 0, 16, 63, 0, 255, 511, 1023, 2047, 4095]
theorem swarfkit_CopyCar.tab2 : rtab .any (opsOf Try.f19 2) = swarfkit_CopyCar.T2 := by kernel_rfl
theorem swarfkit_CopyCar.bits2 : waitsOk swarfkit_CopyCar.T2.2 swarfkit_CopyCar.B2 = true := by kernel_rfl
set_option maxHeartbeats 8000000 in
set_option maxRecDepth 100000 in
theorem swarfkit_CopyCar.calls (k : Nat) (A0_0 : Option Addr) (c0_0 : Nat) (l0_0 : List (S50)) (a0_1 : Int) (A0_2 : Option Addr) (c0_2 : Nat) (l0_2 : List (S61)) (a0_3 : Int) (A0_4 : Option Addr) (c0_4 : Nat) (l0_4 : List Int) (r1 : List (S50)) (r2 : Int) (r3 : List (S61)) (r4 : Int) (r5 : List Int) (w : World) (hr0_0 : Kd.C k50 w A0_0 l0_0.length l0_0) (hc0_0 : l0_0.length ≤ c0_0) (hr0_2 : Kd.C k61 w A0_2 l0_2.length l0_2) (hc0_2 : l0_2.length ≤ c0_2) (hr0_4 : Kd.C (Kd.int .i64) w A0_4 l0_4.length l0_4) (hc0_4 : l0_4.length ≤ c0_4) (h : swarfkit_CopyCar.f k l0_0 a0_1 l0_2 a0_3 l0_4 = some (r1, r2, r3, r4, r5)) :
    Calls Try.prog 19 #[.agg #[.slice A0_0 l0_0.length c0_0, .int .i64 a0_1, .slice A0_2 l0_2.length c0_2, .int .i64 a0_3, .slice A0_4 l0_4.length c0_4]] w fun e w' => ∃ v0_ v2_ v4_ : Value, e = .returned (.agg #[v0_, .int .i64 r2, v2_, .int .i64 r4, v4_]) ∧ Kd.S k50 50 w' w.heap.size (fun k_ => some k_ ≠ (v4_ : Value).ownBlock) v0_ r1 ∧ Kd.R k61 61 w' w.heap.size (fun _ => True) v2_ r3 ∧ Kd.R (Kd.int .i64) 3 w' w.heap.size (fun _ => True) v4_ r5 ∧ Below w.heap.size w w' := by
  have hu26 := Try.underlying26
  have hu50 := Try.underlying50
  have HR0_0 := Aside0.mk hr0_0
  have HC0_0 := Aside0.mk hc0_0
  clear hr0_0 hc0_0
  have HR0_2 := Aside0.mk hr0_2
  have HC0_2 := Aside0.mk hc0_2
  clear hr0_2 hc0_2
  have HR0_4 := Aside0.mk hr0_4
  have HC0_4 := Aside0.mk hc0_4
  clear hr0_4 hc0_4
  have HB := Aside0.mk (Below.refl w.heap.size w)
  have H : ((some (([] : List (S61)) : List (S61))).bind fun y472 => (if y472.length + l0_2.length < 8796093022208 then ((swarfkit_Ints.f l0_4).bind fun t478 => (swarfkit_CopyCar.l0 k 0 l0_0 a0_1 l0_2 a0_3 l0_4 ([] : List (S50)) a0_1 (y472 ++ l0_2) a0_3 t478)) else (none))) = some (r1, r2, r3, r4, r5) := h
  clear h
  obtain ⟨y472, hy472⟩ : ∃ y_ : List (S61), y_ = (([] : List (S61))) := ⟨_, rfl⟩
  replace H : (if y472.length + l0_2.length < 8796093022208 then ((swarfkit_Ints.f l0_4).bind fun t478 => (swarfkit_CopyCar.l0 k 0 l0_0 a0_1 l0_2 a0_3 l0_4 ([] : List (S50)) a0_1 (y472 ++ l0_2) a0_3 t478)) else (none)) = some (r1, r2, r3, r4, r5) := by first | (rw [hy472]; with_reducible exact H) | (have H2_ := (Option.bind_some _ _).symm.trans H; rw [hy472]; with_reducible exact H2_) | (have H2_ := (Option.bind_some _ _).symm.trans H; with_reducible exact H2_) | with_reducible exact H | (rw [hy472]; exact H) | exact H
  have Ny472 := Aside0.mk hy472
  clear hy472
  by_cases c2 : y472.length + l0_2.length < 8796093022208
  · rw [if_pos c2] at H
    have LMc2 := Aside0.mk c2
    clear c2
    obtain ⟨y475, hy475⟩ : ∃ y_ : List (S61), y_ = (y472 ++ l0_2) := ⟨_, rfl⟩
    replace H : ((swarfkit_Ints.f l0_4).bind fun t478 => (swarfkit_CopyCar.l0 k 0 l0_0 a0_1 l0_2 a0_3 l0_4 ([] : List (S50)) a0_1 y475 a0_3 t478)) = some (r1, r2, r3, r4, r5) := by first | (rw [hy475]; with_reducible exact H) | (have H2_ := (Option.bind_some _ _).symm.trans H; rw [hy475]; with_reducible exact H2_) | (have H2_ := (Option.bind_some _ _).symm.trans H; with_reducible exact H2_) | with_reducible exact H | (rw [hy475]; exact H) | exact H
    have Ny475 := Aside0.mk hy475
    clear hy475
    replace H := Option.bind_eq_some_iff.mp H
    obtain ⟨t478, A30, H⟩ := H
    replace H : (swarfkit_CopyCar.l0 k 0 l0_0 a0_1 l0_2 a0_3 l0_4 ([] : List (S50)) a0_1 y475 a0_3 t478) = some (r1, r2, r3, r4, r5) := H
    have A3 := Aside0.mk A30
    clear A30
    have H' := Aside0.mk H
    clear H
    go_enter Try.func19, Try.ntmps19
    try go_wp2_with (first | ((with_reducible refine gate_dst (N := 1) rfl ?_); refine box_event ?hg (N := 1) ?hd (cs := #[.slice A0_0 l0_0.length c0_0, .int .i64 a0_1, .slice A0_2 l0_2.length c0_2, .int .i64 a0_3, .slice A0_4 l0_4.length c0_4]) (t := 26) ?hr ?_; (case hd => rfl); (case hg => rfl); (case hr => first | (go_simp; done) | (go_simp; rfl)); intro gb469 hg w4 hbox hb; have n0_ := Aside0.mk (below_step (by repeat (first | (with_reducible first | exact HB.out | apply below_alloc | apply pw_below_drewN | apply below_drew1) | exact HB.out)) hb); have n1_ := Aside0.mk (hbox); have n2_ := Aside0.mk ((by rw [hg]; exact (below_size (by repeat (first | (with_reducible first | exact HB.out | apply below_alloc | apply pw_below_drewN | apply below_drew1) | exact HB.out))) : w.heap.size ≤ gb469)); have n3_ := Aside0.mk ((by rw [hg]; exact (below_size (by repeat (first | (with_reducible first | exact HB.out | apply below_alloc | apply pw_below_drewN | apply below_drew1) | exact HB.out))) : w.heap.size ≤ gb469)); clear HB; have HB := n0_; have BK469 := n1_; have GW469 := n2_; have GE469 := n3_; clear n0_ n1_ n2_ n3_; clear hb hbox hg) | ((with_reducible refine gate_dst (N := 2) rfl ?_); refine box_event ?hg (N := 2) ?hd (cs := #[.slice none 0 0, .int .i64 0, .slice none 0 0, .int .i64 0, .slice none 0 0]) (t := 26) ?hr ?_; (case hd => rfl); (case hg => rfl); (case hr => first | (go_simp; done) | (go_simp; rfl)); intro gb470 hg w5 hbox hb; have n0_ := Aside0.mk (blk_below (g := gb469) (o := .cells #[.slice A0_0 l0_0.length c0_0, .int .i64 a0_1, .slice A0_2 l0_2.length c0_2, .int .i64 a0_3, .slice A0_4 l0_4.length c0_4] 26 (0, 0)) (by (with_reducible repeat (first | refine blk_drewN ?_ _ | refine blk_drew ?_ | refine blk_alloc ?_ _)); exact BK469.out) hb); have n1_ := Aside0.mk (below_step (by repeat (first | (with_reducible first | exact HB.out | apply below_alloc | apply pw_below_drewN | apply below_drew1 | refine below_set ?_ GE469.out) | exact HB.out)) hb); have n2_ := Aside0.mk (hbox); have n3_ := Aside0.mk ((by rw [hg]; exact (below_size (by repeat (first | (with_reducible first | exact HB.out | apply below_alloc | apply pw_below_drewN | apply below_drew1 | refine below_set ?_ GE469.out) | exact HB.out))) : w.heap.size ≤ gb470)); have n4_ := Aside0.mk ((by rw [hg]; exact (below_size (by repeat (first | (with_reducible first | exact HB.out | apply below_alloc | apply pw_below_drewN | apply below_drew1 | refine below_set ?_ GE469.out) | exact HB.out))) : w.heap.size ≤ gb470)); have n5_ := Aside0.mk ((by rw [hg]; exact Nat.ne_of_lt (blk_lt (g := gb469) (o := .cells #[.slice A0_0 l0_0.length c0_0, .int .i64 a0_1, .slice A0_2 l0_2.length c0_2, .int .i64 a0_3, .slice A0_4 l0_4.length c0_4] 26 (0, 0)) (by (with_reducible repeat (first | refine blk_drewN ?_ _ | refine blk_drew ?_ | refine blk_alloc ?_ _)); exact BK469.out)) : gb469 ≠ gb470)); have n6_ := Aside0.mk ((by rw [hg]; exact Nat.ne_of_gt (blk_lt (g := gb469) (o := .cells #[.slice A0_0 l0_0.length c0_0, .int .i64 a0_1, .slice A0_2 l0_2.length c0_2, .int .i64 a0_3, .slice A0_4 l0_4.length c0_4] 26 (0, 0)) (by (with_reducible repeat (first | refine blk_drewN ?_ _ | refine blk_drew ?_ | refine blk_alloc ?_ _)); exact BK469.out)) : gb470 ≠ gb469)); clear BK469; clear HB; have BK469 := n0_; have HB := n1_; have BK470 := n2_; have GW470 := n3_; have GE470 := n4_; have NB469_470 := n5_; have NB470_469 := n6_; clear n0_ n1_ n2_ n3_ n4_ n5_ n6_; clear hb hbox hg; have hnb6 := NB469_470.out; have hnc6 := NB470_469.out; have hcz7_0 : w5.cell? ⟨gb469, 0, none⟩ = some (.slice A0_0 l0_0.length c0_0) := (blk_cell BK469.out 0).trans rfl; have hcz7_1 : w5.cell? ⟨gb469, 1, none⟩ = some (.int .i64 a0_1) := (blk_cell BK469.out 1).trans rfl; have hcz7_2 : w5.cell? ⟨gb469, 2, none⟩ = some (.slice A0_2 l0_2.length c0_2) := (blk_cell BK469.out 2).trans rfl; have hcz7_3 : w5.cell? ⟨gb469, 3, none⟩ = some (.int .i64 a0_3) := (blk_cell BK469.out 3).trans rfl; have hcz7_4 : w5.cell? ⟨gb469, 4, none⟩ = some (.slice A0_4 l0_4.length c0_4) := (blk_cell BK469.out 4).trans rfl; have hfz7_0 := blk_frozen BK469.out 0; have hfz7_1 := blk_frozen BK469.out 1; have hfz7_2 := blk_frozen BK469.out 2; have hfz7_3 := blk_frozen BK469.out 3; have hfz7_4 := blk_frozen BK469.out 4) | ((with_reducible refine gate_dst (N := 3) rfl ?_); refine box_event ?hg (N := 3) ?hd (cs := #[.slice none 0 0, .int .i64 0, .slice none 0 0, .int .i64 0, .slice none 0 0]) (t := 26) ?hr ?_; (case hd => rfl); (case hg => rfl); (case hr => first | (go_simp; done) | (go_simp; rfl)); intro gb471 hg w8 hbox hb; have n0_ := Aside0.mk (blk_below (g := gb469) (o := .cells #[.slice A0_0 l0_0.length c0_0, .int .i64 a0_1, .slice A0_2 l0_2.length c0_2, .int .i64 a0_3, .slice A0_4 l0_4.length c0_4] 26 (0, 0)) (by (with_reducible repeat (first | refine blk_drewN ?_ _ | refine blk_drew ?_ | refine blk_alloc ?_ _)); exact BK469.out) hb); have n1_ := Aside0.mk (blk_below (g := gb470) (o := .cells #[.slice none 0 0, .int .i64 0, .slice none 0 0, .int .i64 0, .slice none 0 0] 26 (0, 0)) (by (with_reducible repeat (first | refine blk_drewN ?_ _ | refine blk_drew ?_ | refine blk_alloc ?_ _)); exact BK470.out) hb); have n2_ := Aside0.mk (below_step (by repeat (first | (with_reducible first | exact HB.out | apply below_alloc | apply pw_below_drewN | apply below_drew1 | refine below_set ?_ GE469.out | refine below_set ?_ GE470.out) | exact HB.out)) hb); have n3_ := Aside0.mk (hbox); have n4_ := Aside0.mk ((by rw [hg]; exact (below_size (by repeat (first | (with_reducible first | exact HB.out | apply below_alloc | apply pw_below_drewN | apply below_drew1 | refine below_set ?_ GE469.out | refine below_set ?_ GE470.out) | exact HB.out))) : w.heap.size ≤ gb471)); have n5_ := Aside0.mk ((by rw [hg]; exact (below_size (by repeat (first | (with_reducible first | exact HB.out | apply below_alloc | apply pw_below_drewN | apply below_drew1 | refine below_set ?_ GE469.out | refine below_set ?_ GE470.out) | exact HB.out))) : w.heap.size ≤ gb471)); have n6_ := Aside0.mk ((by rw [hg]; exact Nat.ne_of_lt (blk_lt (g := gb469) (o := .cells #[.slice A0_0 l0_0.length c0_0, .int .i64 a0_1, .slice A0_2 l0_2.length c0_2, .int .i64 a0_3, .slice A0_4 l0_4.length c0_4] 26 (0, 0)) (by (with_reducible repeat (first | refine blk_drewN ?_ _ | refine blk_drew ?_ | refine blk_alloc ?_ _)); exact BK469.out)) : gb469 ≠ gb471)); have n7_ := Aside0.mk ((by rw [hg]; exact Nat.ne_of_gt (blk_lt (g := gb469) (o := .cells #[.slice A0_0 l0_0.length c0_0, .int .i64 a0_1, .slice A0_2 l0_2.length c0_2, .int .i64 a0_3, .slice A0_4 l0_4.length c0_4] 26 (0, 0)) (by (with_reducible repeat (first | refine blk_drewN ?_ _ | refine blk_drew ?_ | refine blk_alloc ?_ _)); exact BK469.out)) : gb471 ≠ gb469)); have n8_ := Aside0.mk ((by rw [hg]; exact Nat.ne_of_lt (blk_lt (g := gb470) (o := .cells #[.slice none 0 0, .int .i64 0, .slice none 0 0, .int .i64 0, .slice none 0 0] 26 (0, 0)) (by (with_reducible repeat (first | refine blk_drewN ?_ _ | refine blk_drew ?_ | refine blk_alloc ?_ _)); exact BK470.out)) : gb470 ≠ gb471)); have n9_ := Aside0.mk ((by rw [hg]; exact Nat.ne_of_gt (blk_lt (g := gb470) (o := .cells #[.slice none 0 0, .int .i64 0, .slice none 0 0, .int .i64 0, .slice none 0 0] 26 (0, 0)) (by (with_reducible repeat (first | refine blk_drewN ?_ _ | refine blk_drew ?_ | refine blk_alloc ?_ _)); exact BK470.out)) : gb471 ≠ gb470)); clear BK469; clear BK470; clear HB; have BK469 := n0_; have BK470 := n1_; have HB := n2_; have BK471 := n3_; have GW471 := n4_; have GE471 := n5_; have NB469_471 := n6_; have NB471_469 := n7_; have NB470_471 := n8_; have NB471_470 := n9_; clear n0_ n1_ n2_ n3_ n4_ n5_ n6_ n7_ n8_ n9_; clear hb hbox hg; have hnb9 := NB471_469.out; have hnc9 := NB469_471.out; have hnb10 := NB471_470.out; have hnc10 := NB470_471.out; have hcz11_0 : w8.cell? ⟨gb471, 0, none⟩ = some (.slice none 0 0) := (blk_cell BK471.out 0).trans rfl; have hcz11_1 : w8.cell? ⟨gb471, 1, none⟩ = some (.int .i64 0) := (blk_cell BK471.out 1).trans rfl; have hcz11_2 : w8.cell? ⟨gb471, 2, none⟩ = some (.slice none 0 0) := (blk_cell BK471.out 2).trans rfl; have hcz11_3 : w8.cell? ⟨gb471, 3, none⟩ = some (.int .i64 0) := (blk_cell BK471.out 3).trans rfl; have hcz11_4 : w8.cell? ⟨gb471, 4, none⟩ = some (.slice none 0 0) := (blk_cell BK471.out 4).trans rfl; have hfz11_0 := blk_frozen BK471.out 0; have hfz11_1 := blk_frozen BK471.out 1; have hfz11_2 := blk_frozen BK471.out 2; have hfz11_3 := blk_frozen BK471.out 3; have hfz11_4 := blk_frozen BK471.out 4))
    have n0_ : Aside0 ((((((w8.setCell ⟨gb471, 0, none⟩ (.slice A0_0 l0_0.length c0_0)).setCell ⟨gb471, 1, none⟩ (.int .i64 a0_1)).setCell ⟨gb471, 2, none⟩ (.slice A0_2 l0_2.length c0_2)).setCell ⟨gb471, 3, none⟩ (.int .i64 a0_3)).setCell ⟨gb471, 4, none⟩ (.slice A0_4 l0_4.length c0_4)).heap[gb469]? = some (.cells #[.slice A0_0 l0_0.length c0_0, .int .i64 a0_1, .slice A0_2 l0_2.length c0_2, .int .i64 a0_3, .slice A0_4 l0_4.length c0_4] 26 (0, 0))) := ⟨by (with_reducible repeat (first | refine blk_drewN ?_ _ | refine blk_drew ?_ | refine blk_alloc ?_ _)); refine blk_far ?_ NB469_471.out _; (with_reducible repeat (first | refine blk_drewN ?_ _ | refine blk_drew ?_ | refine blk_alloc ?_ _)); refine blk_far ?_ NB469_471.out _; (with_reducible repeat (first | refine blk_drewN ?_ _ | refine blk_drew ?_ | refine blk_alloc ?_ _)); refine blk_far ?_ NB469_471.out _; (with_reducible repeat (first | refine blk_drewN ?_ _ | refine blk_drew ?_ | refine blk_alloc ?_ _)); refine blk_far ?_ NB469_471.out _; (with_reducible repeat (first | refine blk_drewN ?_ _ | refine blk_drew ?_ | refine blk_alloc ?_ _)); refine blk_far ?_ NB469_471.out _; (with_reducible repeat (first | refine blk_drewN ?_ _ | refine blk_drew ?_ | refine blk_alloc ?_ _)); exact BK469.out⟩
    have n1_ : Aside0 ((((((w8.setCell ⟨gb471, 0, none⟩ (.slice A0_0 l0_0.length c0_0)).setCell ⟨gb471, 1, none⟩ (.int .i64 a0_1)).setCell ⟨gb471, 2, none⟩ (.slice A0_2 l0_2.length c0_2)).setCell ⟨gb471, 3, none⟩ (.int .i64 a0_3)).setCell ⟨gb471, 4, none⟩ (.slice A0_4 l0_4.length c0_4)).heap[gb470]? = some (.cells #[.slice none 0 0, .int .i64 0, .slice none 0 0, .int .i64 0, .slice none 0 0] 26 (0, 0))) := ⟨by (with_reducible repeat (first | refine blk_drewN ?_ _ | refine blk_drew ?_ | refine blk_alloc ?_ _)); refine blk_far ?_ NB470_471.out _; (with_reducible repeat (first | refine blk_drewN ?_ _ | refine blk_drew ?_ | refine blk_alloc ?_ _)); refine blk_far ?_ NB470_471.out _; (with_reducible repeat (first | refine blk_drewN ?_ _ | refine blk_drew ?_ | refine blk_alloc ?_ _)); refine blk_far ?_ NB470_471.out _; (with_reducible repeat (first | refine blk_drewN ?_ _ | refine blk_drew ?_ | refine blk_alloc ?_ _)); refine blk_far ?_ NB470_471.out _; (with_reducible repeat (first | refine blk_drewN ?_ _ | refine blk_drew ?_ | refine blk_alloc ?_ _)); refine blk_far ?_ NB470_471.out _; (with_reducible repeat (first | refine blk_drewN ?_ _ | refine blk_drew ?_ | refine blk_alloc ?_ _)); exact BK470.out⟩
    have n2_ : Aside0 ((((((w8.setCell ⟨gb471, 0, none⟩ (.slice A0_0 l0_0.length c0_0)).setCell ⟨gb471, 1, none⟩ (.int .i64 a0_1)).setCell ⟨gb471, 2, none⟩ (.slice A0_2 l0_2.length c0_2)).setCell ⟨gb471, 3, none⟩ (.int .i64 a0_3)).setCell ⟨gb471, 4, none⟩ (.slice A0_4 l0_4.length c0_4)).heap[gb471]? = some (.cells #[.slice A0_0 l0_0.length c0_0, .int .i64 a0_1, .slice A0_2 l0_2.length c0_2, .int .i64 a0_3, .slice A0_4 l0_4.length c0_4] 26 (0, 0))) := ⟨by (with_reducible repeat (first | refine blk_drewN ?_ _ | refine blk_drew ?_ | refine blk_alloc ?_ _)); refine blk_put (cs := #[.slice A0_0 l0_0.length c0_0, .int .i64 a0_1, .slice A0_2 l0_2.length c0_2, .int .i64 a0_3, .slice none 0 0]) ?_ 4 _ rfl; (with_reducible repeat (first | refine blk_drewN ?_ _ | refine blk_drew ?_ | refine blk_alloc ?_ _)); refine blk_put (cs := #[.slice A0_0 l0_0.length c0_0, .int .i64 a0_1, .slice A0_2 l0_2.length c0_2, .int .i64 0, .slice none 0 0]) ?_ 3 _ rfl; (with_reducible repeat (first | refine blk_drewN ?_ _ | refine blk_drew ?_ | refine blk_alloc ?_ _)); refine blk_put (cs := #[.slice A0_0 l0_0.length c0_0, .int .i64 a0_1, .slice none 0 0, .int .i64 0, .slice none 0 0]) ?_ 2 _ rfl; (with_reducible repeat (first | refine blk_drewN ?_ _ | refine blk_drew ?_ | refine blk_alloc ?_ _)); refine blk_put (cs := #[.slice A0_0 l0_0.length c0_0, .int .i64 0, .slice none 0 0, .int .i64 0, .slice none 0 0]) ?_ 1 _ rfl; (with_reducible repeat (first | refine blk_drewN ?_ _ | refine blk_drew ?_ | refine blk_alloc ?_ _)); refine blk_put (cs := #[.slice none 0 0, .int .i64 0, .slice none 0 0, .int .i64 0, .slice none 0 0]) ?_ 0 _ rfl; (with_reducible repeat (first | refine blk_drewN ?_ _ | refine blk_drew ?_ | refine blk_alloc ?_ _)); exact BK471.out⟩
    have n3_ : Aside0 (Below w.heap.size w (((((w8.setCell ⟨gb471, 0, none⟩ (.slice A0_0 l0_0.length c0_0)).setCell ⟨gb471, 1, none⟩ (.int .i64 a0_1)).setCell ⟨gb471, 2, none⟩ (.slice A0_2 l0_2.length c0_2)).setCell ⟨gb471, 3, none⟩ (.int .i64 a0_3)).setCell ⟨gb471, 4, none⟩ (.slice A0_4 l0_4.length c0_4))) := ⟨by repeat (first | (with_reducible first | exact HB.out | apply below_alloc | apply pw_below_drewN | apply below_drew1 | refine below_set ?_ GE469.out | refine below_set ?_ GE470.out | refine below_set ?_ GE471.out) | exact HB.out)⟩
    (try clear BK469)
    (try clear BK470)
    (try clear BK471)
    (try clear HB)
    generalize (((((w8.setCell ⟨gb471, 0, none⟩ (.slice A0_0 l0_0.length c0_0)).setCell ⟨gb471, 1, none⟩ (.int .i64 a0_1)).setCell ⟨gb471, 2, none⟩ (.slice A0_2 l0_2.length c0_2)).setCell ⟨gb471, 3, none⟩ (.int .i64 a0_3)).setCell ⟨gb471, 4, none⟩ (.slice A0_4 l0_4.length c0_4)) = w12 at n0_ n1_ n2_ n3_ ⊢
    have BK469 := n0_
    have BK470 := n1_
    have BK471 := n2_
    have HB := n3_
    clear n0_ n1_ n2_ n3_
    have n0_ := Aside0.mk (blk_drew BK469.out)
    have n1_ := Aside0.mk (blk_drew BK470.out)
    have n2_ := Aside0.mk (blk_drew BK471.out)
    have n3_ := Aside0.mk (below_drew1 HB.out)
    clear BK469
    clear BK470
    clear BK471
    clear HB
    have BK469 := n0_
    have BK470 := n1_
    have BK471 := n2_
    have HB := n3_
    clear n0_ n1_ n2_ n3_
    refine start_ (n := 13) (S := fun w' => w'.cell? ⟨gb469, 0, none⟩ = some (.slice A0_0 l0_0.length c0_0) ∧ w'.cell? ⟨gb469, 1, none⟩ = some (.int .i64 a0_1) ∧ w'.cell? ⟨gb469, 2, none⟩ = some (.slice A0_2 l0_2.length c0_2) ∧ w'.cell? ⟨gb469, 3, none⟩ = some (.int .i64 a0_3) ∧ w'.cell? ⟨gb469, 4, none⟩ = some (.slice A0_4 l0_4.length c0_4)) (ds := []) #[false, false, false, false, false, false, false, false, false, false, false, false, false] (by kernel_rfl) rfl rfl ⟨(blk_cell BK469.out 0).trans rfl, (blk_cell BK469.out 1).trans rfl, (blk_cell BK469.out 2).trans rfl, (blk_cell BK469.out 3).trans rfl, (blk_cell BK469.out 4).trans rfl⟩ (fun hHeld => ?_); refine with_tabW swarfkit_CopyCar.tab2 swarfkit_CopyCar.bits2 (fun HT_ HW_ => ?_)
    generalize w12.drew = w13 at BK469 BK470 BK471 HB hHeld ⊢
    refine pure_ (i := 1) (N := some 8) (v := ?_) (a' := ?_) #[false, true, false, false, false, false, false, false, false, false, false, false, false] rfl rfl (any_of HT_.out (by kernel_rfl)) (fun _ _ _ h => h) (Or.inl ⟨by rfl, ?_⟩) ?_ ?_
    rotate_left
    · intro w'
      go_simp
      with_reducible rfl
    rotate_left
    · simp only [Act.put, List.setIfInBounds_toArray, List.set_cons_zero, List.set_cons_succ, i64_w, i32_w]
      rfl
    refine pure_ (i := 4) (N := some 11) (v := ?_) (a' := ?_) #[false, true, false, false, true, false, false, false, false, false, false, false, false] rfl rfl (any_of HT_.out (by kernel_rfl)) (fun _ _ _ h => h) (Or.inl ⟨by rfl, ?_⟩) ?_ ?_
    rotate_left
    · intro w'
      go_simp
      with_reducible rfl
    rotate_left
    · simp only [Act.put, List.setIfInBounds_toArray, List.set_cons_zero, List.set_cons_succ, i64_w, i32_w]
      rfl
    refine pure_ (i := 7) (N := some 14) (v := ?_) (a' := ?_) #[false, true, false, false, true, false, false, true, false, false, false, false, false] rfl rfl (any_of HT_.out (by kernel_rfl)) (fun _ _ _ h => h) (Or.inl ⟨by rfl, ?_⟩) ?_ ?_
    rotate_left
    · intro w'
      go_simp
      with_reducible rfl
    rotate_left
    · simp only [Act.put, List.setIfInBounds_toArray, List.set_cons_zero, List.set_cons_succ, i64_w, i32_w]
      rfl
    refine take_ (i := 2) (N := some 9) (v := ?_) (a' := ?_) #[false, true, true, false, true, false, false, true, false, false, false, false, false] rfl rfl (take_ofW HT_.out HW_.out (by kernel_rfl)) (fun _ _ _ h => h) (Or.inl ⟨by rfl, ?_⟩) hHeld ?_ ?_
    rotate_left
    · rintro w' ⟨s0, s1, s2, s3, s4⟩
      go_simp
      with_reducible rfl
    rotate_left
    · simp only [Act.put, List.setIfInBounds_toArray, List.set_cons_zero, List.set_cons_succ, i64_w, i32_w]
      rfl
    refine take_ (i := 5) (N := some 12) (v := ?_) (a' := ?_) #[false, true, true, false, true, true, false, true, false, false, false, false, false] rfl rfl (take_ofW HT_.out HW_.out (by kernel_rfl)) (fun _ _ _ h => h) (Or.inl ⟨by rfl, ?_⟩) hHeld ?_ ?_
    rotate_left
    · rintro w' ⟨s0, s1, s2, s3, s4⟩
      go_simp
      with_reducible rfl
    rotate_left
    · simp only [Act.put, List.setIfInBounds_toArray, List.set_cons_zero, List.set_cons_succ, i64_w, i32_w]
      rfl
    refine one_ (i := 0) (N := some 7) #[true, true, true, false, true, true, false, true, false, false, false, false, false] rfl rfl (one_of HT_.out (by kernel_rfl)) (by decide) (fun K hK => ?_)
    refine Kd.R_lit_step k61 _ 61 ?hg (N := 7) ?hd (xs := ([] : List (S61))) (inner := []) (ok := fun _ => True) (okp := fun _ => True) ?hr ?hp (fun _ hk => hk) trivial (Below.refl _ _) (Nat.le_refl _) (by simp) ?_; (case hd => rfl); (case hg => rfl); (case hr => first | (go_simp; done) | (go_simp; rfl)); (case hp => exact (Reps.none _ _))
    intro v473 w14 ho15 hb hg_ hnew_
    clear hg_ hnew_
    (first | rw [← Ny472.out] at ho15 | (simp only [Int.reduceToNat] at ho15; rw [← Ny472.out] at ho15))
    have n0_ := Aside0.mk (Kd.R_lower ho15 (below_size (by repeat (first | (with_reducible first | exact HB.out | apply below_alloc | apply pw_below_drewN | apply below_drew1 | refine below_set ?_ GE469.out | refine below_set ?_ GE470.out | refine below_set ?_ GE471.out) | exact HB.out))))
    have n1_ := Aside0.mk (blk_below (g := gb469) (o := .cells #[.slice A0_0 l0_0.length c0_0, .int .i64 a0_1, .slice A0_2 l0_2.length c0_2, .int .i64 a0_3, .slice A0_4 l0_4.length c0_4] 26 (0, 0)) (by (with_reducible repeat (first | refine blk_drewN ?_ _ | refine blk_drew ?_ | refine blk_alloc ?_ _)); exact BK469.out) hb)
    have n2_ := Aside0.mk (blk_below (g := gb470) (o := .cells #[.slice none 0 0, .int .i64 0, .slice none 0 0, .int .i64 0, .slice none 0 0] 26 (0, 0)) (by (with_reducible repeat (first | refine blk_drewN ?_ _ | refine blk_drew ?_ | refine blk_alloc ?_ _)); exact BK470.out) hb)
    have n3_ := Aside0.mk (blk_below (g := gb471) (o := .cells #[.slice A0_0 l0_0.length c0_0, .int .i64 a0_1, .slice A0_2 l0_2.length c0_2, .int .i64 a0_3, .slice A0_4 l0_4.length c0_4] 26 (0, 0)) (by (with_reducible repeat (first | refine blk_drewN ?_ _ | refine blk_drew ?_ | refine blk_alloc ?_ _)); exact BK471.out) hb)
    have n4_ := Aside0.mk (below_step (by repeat (first | (with_reducible first | exact HB.out | apply below_alloc | apply pw_below_drewN | apply below_drew1 | refine below_set ?_ GE469.out | refine below_set ?_ GE470.out | refine below_set ?_ GE471.out) | exact HB.out)) hb)
    clear BK469
    clear BK470
    clear BK471
    clear HB
    have HO474 := n0_
    have BK469 := n1_
    have BK470 := n2_
    have BK471 := n3_
    have HB := n4_
    clear n0_ n1_ n2_ n3_ n4_
    clear hb ho15
    refine hK.out _ _ ⟨(blk_cell BK469.out 0).trans rfl, (blk_cell BK469.out 1).trans rfl, (blk_cell BK469.out 2).trans rfl, (blk_cell BK469.out 3).trans rfl, (blk_cell BK469.out 4).trans rfl⟩ (fun hHeld => ?_)
    clear hK K
    refine norm_ (a' := ?_) ?_ ?_
    rotate_left
    · show Act.put _ (some 7) _ = _
      simp only [Act.put, List.setIfInBounds_toArray, List.set_cons_zero, List.set_cons_succ, i64_w, i32_w]
      rfl
    refine one_ (i := 3) (N := some 10) #[true, true, true, true, true, true, false, true, false, false, false, false, false] rfl rfl (one_of HT_.out (by kernel_rfl)) (by decide) (fun K hK => ?_)
    refine Kd.R_append_rows_step k61 (w0 := w) w.heap.size (by rfl) (.tmp 7) (.tmp 9) 23 61 (.agg #[(.int .i64 0), (.bool false)]) 16 rfl Try.underlying23 info61 rfl (by decide) (by omega) v473 y472 l0_2 _ _ _ (fun _ => True) (fun _ => False) rfl rfl ?aO ?aR (fun _ _ h => h) (fun _ h => h.elim) ?aF ?aB ?aS ?aL ?_
    (case aR => repeat (first | exact (Kd.C_below HR0_2.out HB.out) | (with_reducible refine Kd.C_alloc ?_ _) | (with_reducible refine Kd.C_drewN ?_ _) | (with_reducible refine Kd.C_drew ?_)))
    (case aB => exact (by repeat (first | (with_reducible first | exact HB.out | apply below_alloc | apply pw_below_drewN | apply below_drew1 | refine below_set ?_ GE469.out | refine below_set ?_ GE470.out | refine below_set ?_ GE471.out) | exact HB.out)))
    (case aF => exact (fun _ _ => trivial))
    (case aO => exact (by (with_reducible repeat (first | apply Kd.R_alloc | apply Kd.R_drewN | apply Kd.R_drew)); exact HO474.out))
    (case aS => exact (below_size (by repeat (first | (with_reducible first | exact HB.out | apply below_alloc | apply pw_below_drewN | apply below_drew1 | refine below_set ?_ GE469.out | refine below_set ?_ GE470.out | refine below_set ?_ GE471.out) | exact HB.out))))
    (case aL => have := LMc2.out; omega)
    intro v476 w16 ho hb hg hat
    rw [← Ny475.out] at ho
    have n0_ := Aside0.mk (blk_grown (g := gb469) (o := .cells #[.slice A0_0 l0_0.length c0_0, .int .i64 a0_1, .slice A0_2 l0_2.length c0_2, .int .i64 a0_3, .slice A0_4 l0_4.length c0_4] 26 (0, 0)) (by (with_reducible repeat (first | refine blk_drewN ?_ _ | refine blk_drew ?_ | refine blk_alloc ?_ _)); exact BK469.out) hg (Kd.R_ne HO474.out BK469.out (by decide)))
    have n1_ := Aside0.mk (blk_grown (g := gb470) (o := .cells #[.slice none 0 0, .int .i64 0, .slice none 0 0, .int .i64 0, .slice none 0 0] 26 (0, 0)) (by (with_reducible repeat (first | refine blk_drewN ?_ _ | refine blk_drew ?_ | refine blk_alloc ?_ _)); exact BK470.out) hg (Kd.R_ne HO474.out BK470.out (by decide)))
    have n2_ := Aside0.mk (blk_grown (g := gb471) (o := .cells #[.slice A0_0 l0_0.length c0_0, .int .i64 a0_1, .slice A0_2 l0_2.length c0_2, .int .i64 a0_3, .slice A0_4 l0_4.length c0_4] 26 (0, 0)) (by (with_reducible repeat (first | refine blk_drewN ?_ _ | refine blk_drew ?_ | refine blk_alloc ?_ _)); exact BK471.out) hg (Kd.R_ne HO474.out BK471.out (by decide)))
    have n3_ := Aside0.mk (hb)
    have n4_ := Aside0.mk (ho)
    clear BK469
    clear BK470
    clear BK471
    clear HB
    clear HO474
    have BK469 := n0_
    have BK470 := n1_
    have BK471 := n2_
    have HB := n3_
    have HO477 := n4_
    clear n0_ n1_ n2_ n3_ n4_
    clear ho hb hg hat
    refine hK.out _ _ ⟨(blk_cell BK469.out 0).trans rfl, (blk_cell BK469.out 1).trans rfl, (blk_cell BK469.out 2).trans rfl, (blk_cell BK469.out 3).trans rfl, (blk_cell BK469.out 4).trans rfl⟩ (fun hHeld => ?_)
    clear hK K
    refine norm_ (a' := ?_) ?_ ?_
    rotate_left
    · show Act.put _ (some 10) _ = _
      simp only [Act.put, List.setIfInBounds_toArray, List.set_cons_zero, List.set_cons_succ, i64_w, i32_w]
      rfl
    refine one_ (i := 6) (N := some 13) #[true, true, true, true, true, true, true, true, false, false, false, false, false] rfl rfl (one_of HT_.out (by kernel_rfl)) (by decide) (fun K hK => ?_)
    refine goes_ Try.func43 (by kernel_rfl) rfl #[.slice A0_4 l0_4.length c0_4] (by rfl) rfl rfl (by (try simp only [List.map_toArray, List.map_cons, List.map_nil]); first | done | rfl | (simp only [List.length_drop, List.length_take]; rfl)) ?_
    with_reducible refine (swarfkit_Ints.calls _ _ l0_4 t478 _ ?side1 ?side2 A3.out).mono ?_
    (case side1 => repeat (first | exact (Kd.C_below HR0_4.out HB.out) | (with_reducible refine Kd.C_alloc ?_ _) | (with_reducible refine Kd.C_drewN ?_ _) | (with_reducible refine Kd.C_drew ?_)))
    (case side2 => exact HC0_4.out)
    rintro e w17 ⟨v479, rfl, ho0, hb⟩
    refine ⟨_, rfl, ?_⟩
    have n0_ := Aside0.mk (Kd.R_below (by (with_reducible repeat (first | apply Kd.R_alloc | apply Kd.R_drewN | apply Kd.R_drew)); exact HO477.out) hb)
    have n1_ := Aside0.mk (Kd.R_lower ho0 (below_size (by repeat (first | (with_reducible first | exact HB.out | apply below_alloc | apply pw_below_drewN | apply below_drew1 | refine below_set ?_ GE469.out | refine below_set ?_ GE470.out | refine below_set ?_ GE471.out) | exact HB.out))))
    have n2_ := Aside0.mk (blk_below (g := gb469) (o := .cells #[.slice A0_0 l0_0.length c0_0, .int .i64 a0_1, .slice A0_2 l0_2.length c0_2, .int .i64 a0_3, .slice A0_4 l0_4.length c0_4] 26 (0, 0)) (by (with_reducible repeat (first | refine blk_drewN ?_ _ | refine blk_drew ?_ | refine blk_alloc ?_ _)); exact BK469.out) hb)
    have n3_ := Aside0.mk (blk_below (g := gb470) (o := .cells #[.slice none 0 0, .int .i64 0, .slice none 0 0, .int .i64 0, .slice none 0 0] 26 (0, 0)) (by (with_reducible repeat (first | refine blk_drewN ?_ _ | refine blk_drew ?_ | refine blk_alloc ?_ _)); exact BK470.out) hb)
    have n4_ := Aside0.mk (blk_below (g := gb471) (o := .cells #[.slice A0_0 l0_0.length c0_0, .int .i64 a0_1, .slice A0_2 l0_2.length c0_2, .int .i64 a0_3, .slice A0_4 l0_4.length c0_4] 26 (0, 0)) (by (with_reducible repeat (first | refine blk_drewN ?_ _ | refine blk_drew ?_ | refine blk_alloc ?_ _)); exact BK471.out) hb)
    have n5_ := Aside0.mk (below_step (by repeat (first | (with_reducible first | exact HB.out | apply below_alloc | apply pw_below_drewN | apply below_drew1 | refine below_set ?_ GE469.out | refine below_set ?_ GE470.out | refine below_set ?_ GE471.out) | exact HB.out)) hb)
    clear HO477
    clear BK469
    clear BK470
    clear BK471
    clear HB
    have HO477 := n0_
    have HO480 := n1_
    have BK469 := n2_
    have BK470 := n3_
    have BK471 := n4_
    have HB := n5_
    clear n0_ n1_ n2_ n3_ n4_ n5_
    (try clear hb)
    (try clear hb2)
    (try clear hk)
    (try clear hi)
    (try clear ho0)
    obtain ⟨Ao19, co19, eo19⟩ := Kd.R_slice HO477.out
    (first | subst eo19 | (injection eo19 with f1_ f2_ f3_; have f4_ := f1_.symm; have f5_ := f3_.symm; clear f1_ f2_ f3_; subst f4_; subst f5_))
    obtain ⟨Ao21, co21, eo21⟩ := Kd.R_slice HO480.out
    (first | subst eo21 | (injection eo21 with f1_ f2_ f3_; have f4_ := f1_.symm; have f5_ := f3_.symm; clear f1_ f2_ f3_; subst f4_; subst f5_))
    refine hK.out _ _ ⟨(blk_cell BK469.out 0).trans rfl, (blk_cell BK469.out 1).trans rfl, (blk_cell BK469.out 2).trans rfl, (blk_cell BK469.out 3).trans rfl, (blk_cell BK469.out 4).trans rfl⟩ (fun hHeld => ?_)
    clear hK K
    refine norm_ (a' := ?_) ?_ ?_
    rotate_left
    · show Act.put _ (some 13) _ = _
      simp only [Act.put, List.setIfInBounds_toArray, List.set_cons_zero, List.set_cons_succ, i64_w, i32_w]
      rfl
    refine one_ (i := 8) (N := none) #[true, true, true, true, true, true, true, true, true, false, false, false, false] rfl rfl (one_of HT_.out (by kernel_rfl)) (by decide) (fun K hK => ?_)
    have hs18 : w17.cell? ⟨gb471, 0, none⟩ = some (.slice A0_0 l0_0.length c0_0) := (blk_cell BK471.out 0).trans rfl
    have hfs18 := blk_frozen BK471.out 0
    have hns18_0 := NB469_471.out
    have hns18_1 := NB470_471.out
    have hms18_0 := NB471_469.out
    have hms18_1 := NB471_470.out
    refine skip_ (w1 := ?_) (by rfl) rfl ?_ ?_
    rotate_left
    · go_simp
      rfl
    refine hK.out _ _ ⟨((cell_far (p := ⟨gb471, _, none⟩) NB469_471.out _).trans (hHeld.1)), ((cell_far (p := ⟨gb471, _, none⟩) NB469_471.out _).trans (hHeld.2.1)), ((cell_far (p := ⟨gb471, _, none⟩) NB469_471.out _).trans (hHeld.2.2.1)), ((cell_far (p := ⟨gb471, _, none⟩) NB469_471.out _).trans (hHeld.2.2.2.1)), ((cell_far (p := ⟨gb471, _, none⟩) NB469_471.out _).trans (hHeld.2.2.2.2))⟩ (fun hHeld => ?_)
    clear hK K
    refine pure_ (i := 9) (N := some 15) (v := ?_) (a' := ?_) #[true, true, true, true, true, true, true, true, true, true, false, false, false] rfl rfl (any_of HT_.out (by kernel_rfl)) (fun _ _ _ h => h) (Or.inl ⟨by rfl, ?_⟩) ?_ ?_
    rotate_left
    · intro w'
      go_simp
      with_reducible rfl
    rotate_left
    · simp only [Act.put, List.setIfInBounds_toArray, List.set_cons_zero, List.set_cons_succ, i64_w, i32_w]
      rfl
    refine one_ (i := 10) (N := none) #[true, true, true, true, true, true, true, true, true, true, true, false, false] rfl rfl (one_of HT_.out (by kernel_rfl)) (by decide) (fun K hK => ?_)
    have hs20 : w17.cell? ⟨gb471, 2, none⟩ = some (.slice A0_2 l0_2.length c0_2) := (blk_cell BK471.out 2).trans rfl
    have hfs20 := blk_frozen BK471.out 2
    have hns20_0 := NB469_471.out
    have hns20_1 := NB470_471.out
    have hms20_0 := NB471_469.out
    have hms20_1 := NB471_470.out
    refine skip_ (w1 := ?_) (by rfl) rfl ?_ ?_
    rotate_left
    · go_simp
      rfl
    refine hK.out _ _ ⟨((cell_far (p := ⟨gb471, _, none⟩) NB469_471.out _).trans (hHeld.1)), ((cell_far (p := ⟨gb471, _, none⟩) NB469_471.out _).trans (hHeld.2.1)), ((cell_far (p := ⟨gb471, _, none⟩) NB469_471.out _).trans (hHeld.2.2.1)), ((cell_far (p := ⟨gb471, _, none⟩) NB469_471.out _).trans (hHeld.2.2.2.1)), ((cell_far (p := ⟨gb471, _, none⟩) NB469_471.out _).trans (hHeld.2.2.2.2))⟩ (fun hHeld => ?_)
    clear hK K
    refine pure_ (i := 11) (N := some 16) (v := ?_) (a' := ?_) #[true, true, true, true, true, true, true, true, true, true, true, true, false] rfl rfl (any_of HT_.out (by kernel_rfl)) (fun _ _ _ h => h) (Or.inl ⟨by rfl, ?_⟩) ?_ ?_
    rotate_left
    · intro w'
      go_simp
      with_reducible rfl
    rotate_left
    · simp only [Act.put, List.setIfInBounds_toArray, List.set_cons_zero, List.set_cons_succ, i64_w, i32_w]
      rfl
    refine one_ (i := 12) (N := none) #[true, true, true, true, true, true, true, true, true, true, true, true, true] rfl rfl (one_of HT_.out (by kernel_rfl)) (by decide) (fun K hK => ?_)
    have hs22 : w17.cell? ⟨gb471, 4, none⟩ = some (.slice A0_4 l0_4.length c0_4) := (blk_cell BK471.out 4).trans rfl
    have hfs22 := blk_frozen BK471.out 4
    have hns22_0 := NB469_471.out
    have hns22_1 := NB470_471.out
    have hms22_0 := NB471_469.out
    have hms22_1 := NB471_470.out
    refine skip_ (w1 := ?_) (by rfl) rfl ?_ ?_
    rotate_left
    · go_simp
      rfl
    refine hK.out _ _ ⟨((cell_far (p := ⟨gb471, _, none⟩) NB469_471.out _).trans (hHeld.1)), ((cell_far (p := ⟨gb471, _, none⟩) NB469_471.out _).trans (hHeld.2.1)), ((cell_far (p := ⟨gb471, _, none⟩) NB469_471.out _).trans (hHeld.2.2.1)), ((cell_far (p := ⟨gb471, _, none⟩) NB469_471.out _).trans (hHeld.2.2.2.1)), ((cell_far (p := ⟨gb471, _, none⟩) NB469_471.out _).trans (hHeld.2.2.2.2))⟩ (fun hHeld => ?_)
    clear hK K
    refine done_ (done_of HT_.out (by kernel_rfl)) ?_
    try go_wp2
    go_loopg [4] k (fun kq v4 w' => ∃ (x4_1 : Int) (x472000_1 : List (S50)) (u472000 : Value), v4 = .int .i64 x4_1 ∧ Aside0 (swarfkit_CopyCar.l0 kq x4_1 l0_0 a0_1 l0_2 a0_3 l0_4 x472000_1 a0_1 y475 a0_3 t478 = some (r1, r2, r3, r4, r5)) ∧ Aside0 (kq ≤ k) ∧ Aside0 (Kd.S k50 50 w' w.heap.size (fun k_ => some k_ ≠ ((.slice Ao21 t478.length co21) : Value).ownBlock) u472000 x472000_1) ∧ Aside0 (Kd.R k61 61 w' w.heap.size (fun _ => True) (.slice Ao19 y475.length co19) y475) ∧ Aside0 (Kd.R (Kd.int .i64) 3 w' w.heap.size (fun _ => True) (.slice Ao21 t478.length co21) t478) ∧ Aside0 (w'.heap[gb469]? = some (.cells #[(.slice A0_0 l0_0.length c0_0), .int .i64 a0_1, (.slice A0_2 l0_2.length c0_2), .int .i64 a0_3, (.slice A0_4 l0_4.length c0_4)] 26 (0, 0))) ∧ Aside0 (w'.heap[gb470]? = some (.cells #[(.slice none 0 0), .int .i64 0, (.slice none 0 0), .int .i64 0, (.slice none 0 0)] 26 (0, 0))) ∧ Aside0 (w'.heap[gb471]? = some (.cells #[u472000, .int .i64 a0_1, (.slice Ao19 y475.length co19), .int .i64 a0_3, (.slice Ao21 t478.length co21)] 26 (0, 0))) ∧ Aside0 (Below w.heap.size w w'))
    case atStart => exact ⟨(0), (([] : List (S50))), (.slice none 0 0), (by first | rfl | (simp; done) | (simp [*]; done)), H', ⟨Nat.le_refl _⟩, ⟨by first | exact Kd.S_nil _ _ _ _ _ | exact Kd.N_nil _ _ _ _ _ | exact Kd.V_nil _ _ _ _ _ | exact Kd.Q_nil _ _ _ _ _ | exact Kd.R_nil _ _ _ _ _⟩, ⟨by (with_reducible repeat (first | apply Kd.R_alloc | apply Kd.R_drewN | apply Kd.R_drew)); exact Kd.R_mono (Kd.R_far (p := ⟨gb471, 4, none⟩) (Kd.R_far (p := ⟨gb471, 2, none⟩) (Kd.R_far (p := ⟨gb471, 0, none⟩) (Kd.R_types HO477.out BK471.out (by decide)) (fun _ hk => hk.2) (.slice none 0 0)) (fun _ hk => hk.2) (.slice Ao19 y475.length co19)) (fun _ hk => hk.2) (.slice Ao21 t478.length co21)) (fun _ hk => trivial)⟩, ⟨by (with_reducible repeat (first | apply Kd.R_alloc | apply Kd.R_drewN | apply Kd.R_drew)); exact Kd.R_mono (Kd.R_far (p := ⟨gb471, 4, none⟩) (Kd.R_far (p := ⟨gb471, 2, none⟩) (Kd.R_far (p := ⟨gb471, 0, none⟩) (Kd.R_types HO480.out BK471.out (by decide)) (fun _ hk => hk.2) (.slice none 0 0)) (fun _ hk => hk.2) (.slice Ao19 y475.length co19)) (fun _ hk => hk.2) (.slice Ao21 t478.length co21)) (fun _ hk => trivial)⟩, ⟨by (with_reducible repeat (first | refine blk_drewN ?_ _ | refine blk_drew ?_ | refine blk_alloc ?_ _)); refine blk_far ?_ NB469_471.out _; (with_reducible repeat (first | refine blk_drewN ?_ _ | refine blk_drew ?_ | refine blk_alloc ?_ _)); refine blk_far ?_ NB469_471.out _; (with_reducible repeat (first | refine blk_drewN ?_ _ | refine blk_drew ?_ | refine blk_alloc ?_ _)); refine blk_far ?_ NB469_471.out _; (with_reducible repeat (first | refine blk_drewN ?_ _ | refine blk_drew ?_ | refine blk_alloc ?_ _)); exact BK469.out⟩, ⟨by (with_reducible repeat (first | refine blk_drewN ?_ _ | refine blk_drew ?_ | refine blk_alloc ?_ _)); refine blk_far ?_ NB470_471.out _; (with_reducible repeat (first | refine blk_drewN ?_ _ | refine blk_drew ?_ | refine blk_alloc ?_ _)); refine blk_far ?_ NB470_471.out _; (with_reducible repeat (first | refine blk_drewN ?_ _ | refine blk_drew ?_ | refine blk_alloc ?_ _)); refine blk_far ?_ NB470_471.out _; (with_reducible repeat (first | refine blk_drewN ?_ _ | refine blk_drew ?_ | refine blk_alloc ?_ _)); exact BK470.out⟩, ⟨by (with_reducible repeat (first | refine blk_drewN ?_ _ | refine blk_drew ?_ | refine blk_alloc ?_ _)); refine blk_put (cs := #[.slice none 0 0, .int .i64 a0_1, .slice Ao19 y475.length co19, .int .i64 a0_3, .slice A0_4 l0_4.length c0_4]) ?_ 4 _ rfl; (with_reducible repeat (first | refine blk_drewN ?_ _ | refine blk_drew ?_ | refine blk_alloc ?_ _)); refine blk_put (cs := #[.slice none 0 0, .int .i64 a0_1, .slice A0_2 l0_2.length c0_2, .int .i64 a0_3, .slice A0_4 l0_4.length c0_4]) ?_ 2 _ rfl; (with_reducible repeat (first | refine blk_drewN ?_ _ | refine blk_drew ?_ | refine blk_alloc ?_ _)); refine blk_put (cs := #[.slice A0_0 l0_0.length c0_0, .int .i64 a0_1, .slice A0_2 l0_2.length c0_2, .int .i64 a0_3, .slice A0_4 l0_4.length c0_4]) ?_ 0 _ rfl; (with_reducible repeat (first | refine blk_drewN ?_ _ | refine blk_drew ?_ | refine blk_alloc ?_ _)); exact BK471.out⟩, ⟨by repeat (first | (with_reducible first | exact HB.out | apply below_alloc | apply pw_below_drewN | apply below_drew1 | refine below_set ?_ GE469.out | refine below_set ?_ GE470.out | refine below_set ?_ GE471.out) | exact HB.out)⟩⟩
    case round =>
      clear H'
      try clear c1
      try clear c2
      try clear p2
      try clear c4
      try clear c6
      try clear c9
      try clear c10
      try clear c19
      try clear hcz11_0
      try clear hcz11_1
      try clear hcz11_2
      try clear hcz11_3
      try clear hcz11_4
      try clear hcz7_0
      try clear hcz7_1
      try clear hcz7_2
      try clear hcz7_3
      try clear hcz7_4
      try clear hfz11_0
      try clear hfz11_1
      try clear hfz11_2
      try clear hfz11_3
      try clear hfz11_4
      try clear hfz7_0
      try clear hfz7_1
      try clear hfz7_2
      try clear hfz7_3
      try clear hfz7_4
      try clear HO_472000
      try clear HO_472002
      try clear HO_472004
      try clear BK469
      try clear BK470
      try clear BK471
      try clear HB
      obtain ⟨x4_1, x472000_1, u472000, rfl, HA, HK1, HO_472000, HO_472002, HO_472004, BK469, BK470, BK471, HB⟩ := hrel
      cases gk with
      | zero => exact absurd HA.out (by simp [swarfkit_CopyCar.l0])
      | succ k1 =>
        have H := HA.out
        clear HA
        simp only [swarfkit_CopyCar.l0] at H
        by_cases c23 : x4_1 < (l0_0.length : Int)
        · rw [if_pos c23] at H
          have c23b0 : decide (x4_1 < (l0_0.length : Int)) = true := decide_eq_true c23
          clear c23
          by_cases c24 : 0 ≤ x4_1
          · rw [if_pos c24] at H
            have c24b0 : decide (0 ≤ x4_1) = true := decide_eq_true c24
            clear c24
            replace H := Option.bind_eq_some_iff.mp H
            obtain ⟨t483, A250, H⟩ := H
            replace H : (if x472000_1.length < 2932031007402 then (swarfkit_CopyCar.l0 k1 (wrap64 (x4_1 + 1)) l0_0 a0_1 l0_2 a0_3 l0_4 (x472000_1 ++ [(⟨t483, (rd_T50 l0_0 x4_1).f1, (rd_T50 l0_0 x4_1).f2, (rd_T50 l0_0 x4_1).f3⟩ : S50)]) a0_1 y475 a0_3 t478) else (none)) = some (r1, r2, r3, r4, r5) := H
            have A25 := Aside0.mk A250
            clear A250
            by_cases c26 : x472000_1.length < 2932031007402
            · rw [if_pos c26] at H
              have LMc26 := Aside0.mk c26
              clear c26
              obtain ⟨y486, hy486⟩ : ∃ y_ : List (S50), y_ = (x472000_1 ++ [(⟨t483, (rd_T50 l0_0 x4_1).f1, (rd_T50 l0_0 x4_1).f2, (rd_T50 l0_0 x4_1).f3⟩ : S50)]) := ⟨_, rfl⟩
              replace H : (swarfkit_CopyCar.l0 k1 (wrap64 (x4_1 + 1)) l0_0 a0_1 l0_2 a0_3 l0_4 y486 a0_1 y475 a0_3 t478) = some (r1, r2, r3, r4, r5) := by first | (rw [hy486]; with_reducible exact H) | (have H2_ := (Option.bind_some _ _).symm.trans H; rw [hy486]; with_reducible exact H2_) | (have H2_ := (Option.bind_some _ _).symm.trans H; with_reducible exact H2_) | with_reducible exact H | (rw [hy486]; exact H) | exact H
              have Ny486 := Aside0.mk hy486
              clear hy486
              have H' := Aside0.mk H
              clear H
              have hnb27 := NB469_470.out
              have hnc27 := NB470_469.out
              have hnb28 := NB469_471.out
              have hnc28 := NB471_469.out
              have hcz29_0 : wr.cell? ⟨gb469, 0, none⟩ = some (.slice A0_0 l0_0.length c0_0) := (blk_cell BK469.out 0).trans rfl
              have hcz29_1 : wr.cell? ⟨gb469, 1, none⟩ = some (.int .i64 a0_1) := (blk_cell BK469.out 1).trans rfl
              have hcz29_2 : wr.cell? ⟨gb469, 2, none⟩ = some (.slice A0_2 l0_2.length c0_2) := (blk_cell BK469.out 2).trans rfl
              have hcz29_3 : wr.cell? ⟨gb469, 3, none⟩ = some (.int .i64 a0_3) := (blk_cell BK469.out 3).trans rfl
              have hcz29_4 : wr.cell? ⟨gb469, 4, none⟩ = some (.slice A0_4 l0_4.length c0_4) := (blk_cell BK469.out 4).trans rfl
              have hfz29_0 := blk_frozen BK469.out 0
              have hfz29_1 := blk_frozen BK469.out 1
              have hfz29_2 := blk_frozen BK469.out 2
              have hfz29_3 := blk_frozen BK469.out 3
              have hfz29_4 := blk_frozen BK469.out 4
              have p481 : 0 ≤ (x4_1 : Int) := of_decide_eq_true (by first | (with_reducible assumption) | assumption)
              have q481 : x4_1 < (l0_0.length : Int) := of_decide_eq_true (by first | (with_reducible assumption) | assumption)
              obtain ⟨ad481, A481_0, c481_0, e481, hx481_0, hx481_1, hx481_2, hx481_3, hl481_0, hi481_0⟩ := at_T50 HR0_0.out x4_1 p481 q481
              cases e481
              replace hx481_0 := (HB.out.cell (World.block_lt_of_cell? w _ hx481_0)).trans hx481_0
              replace hx481_1 := (HB.out.cell (World.block_lt_of_cell? w _ hx481_1)).trans hx481_1
              replace hx481_2 := (HB.out.cell (World.block_lt_of_cell? w _ hx481_2)).trans hx481_2
              replace hx481_3 := (HB.out.cell (World.block_lt_of_cell? w _ hx481_3)).trans hx481_3
              have HR481_0 := Aside0.mk hi481_0
              have HC481_0 := Aside0.mk hl481_0
              clear hi481_0 hl481_0
              replace p481 := eq_true p481
              replace q481 := eq_true q481
              go_wp2_with (first | ((with_reducible refine gate_dst (N := 5) rfl ?_); refine box_event ?hg (N := 5) ?hd (cs := #[.slice none 0 0, .bool false, .int .i64 0, .int .i64 0]) (t := 50) ?hr ?_; (case hd => rfl); (case hg => rfl); (case hr => first | (go_simp; done) | (go_simp; rfl)); intro gb482 hg w30 hbox hb; have n0_ := Aside0.mk (Kd.S_below (Kd.S_elderB (by (with_reducible repeat (first | apply Kd.S_alloc | apply Kd.S_drewN | apply Kd.S_drew)); exact HO_472000.out) gb482 (Nat.le_of_eq hg.symm)) hb); have n1_ := Aside0.mk (Kd.R_below (by (with_reducible repeat (first | apply Kd.R_alloc | apply Kd.R_drewN | apply Kd.R_drew)); exact HO_472002.out) hb); have n2_ := Aside0.mk (Kd.R_below (by (with_reducible repeat (first | apply Kd.R_alloc | apply Kd.R_drewN | apply Kd.R_drew)); exact HO_472004.out) hb); have n3_ := Aside0.mk (blk_below (g := gb469) (o := .cells #[.slice (some ad481) l0_0.length c0_0, .int .i64 a0_1, .slice A0_2 l0_2.length c0_2, .int .i64 a0_3, .slice A0_4 l0_4.length c0_4] 26 (0, 0)) (by (with_reducible repeat (first | refine blk_drewN ?_ _ | refine blk_drew ?_ | refine blk_alloc ?_ _)); exact BK469.out) hb); have n4_ := Aside0.mk (blk_below (g := gb470) (o := .cells #[.slice none 0 0, .int .i64 0, .slice none 0 0, .int .i64 0, .slice none 0 0] 26 (0, 0)) (by (with_reducible repeat (first | refine blk_drewN ?_ _ | refine blk_drew ?_ | refine blk_alloc ?_ _)); exact BK470.out) hb); have n5_ := Aside0.mk (blk_below (g := gb471) (o := .cells #[u472000, .int .i64 a0_1, .slice Ao19 y475.length co19, .int .i64 a0_3, .slice Ao21 t478.length co21] 26 (0, 0)) (by (with_reducible repeat (first | refine blk_drewN ?_ _ | refine blk_drew ?_ | refine blk_alloc ?_ _)); exact BK471.out) hb); have n6_ := Aside0.mk (below_step (by repeat (first | (with_reducible first | exact HB.out | apply below_alloc | apply pw_below_drewN | apply below_drew1 | refine below_set ?_ GE469.out | refine below_set ?_ GE470.out | refine below_set ?_ GE471.out) | exact HB.out)) hb); have n7_ := Aside0.mk (hbox); have n8_ := Aside0.mk ((by rw [hg]; exact (below_size (by repeat (first | (with_reducible first | exact HB.out | apply below_alloc | apply pw_below_drewN | apply below_drew1 | refine below_set ?_ GE469.out | refine below_set ?_ GE470.out | refine below_set ?_ GE471.out) | exact HB.out))) : w.heap.size ≤ gb482)); have n9_ := Aside0.mk ((by rw [hg]; exact (below_size (by repeat (first | (with_reducible first | exact HB.out | apply below_alloc | apply pw_below_drewN | apply below_drew1 | refine below_set ?_ GE469.out | refine below_set ?_ GE470.out | refine below_set ?_ GE471.out) | exact HB.out))) : w.heap.size ≤ gb482)); have n10_ := Aside0.mk ((by rw [hg]; exact Nat.ne_of_lt (blk_lt (g := gb469) (o := .cells #[.slice (some ad481) l0_0.length c0_0, .int .i64 a0_1, .slice A0_2 l0_2.length c0_2, .int .i64 a0_3, .slice A0_4 l0_4.length c0_4] 26 (0, 0)) (by (with_reducible repeat (first | refine blk_drewN ?_ _ | refine blk_drew ?_ | refine blk_alloc ?_ _)); exact BK469.out)) : gb469 ≠ gb482)); have n11_ := Aside0.mk ((by rw [hg]; exact Nat.ne_of_gt (blk_lt (g := gb469) (o := .cells #[.slice (some ad481) l0_0.length c0_0, .int .i64 a0_1, .slice A0_2 l0_2.length c0_2, .int .i64 a0_3, .slice A0_4 l0_4.length c0_4] 26 (0, 0)) (by (with_reducible repeat (first | refine blk_drewN ?_ _ | refine blk_drew ?_ | refine blk_alloc ?_ _)); exact BK469.out)) : gb482 ≠ gb469)); have n12_ := Aside0.mk ((by rw [hg]; exact Nat.ne_of_lt (blk_lt (g := gb470) (o := .cells #[.slice none 0 0, .int .i64 0, .slice none 0 0, .int .i64 0, .slice none 0 0] 26 (0, 0)) (by (with_reducible repeat (first | refine blk_drewN ?_ _ | refine blk_drew ?_ | refine blk_alloc ?_ _)); exact BK470.out)) : gb470 ≠ gb482)); have n13_ := Aside0.mk ((by rw [hg]; exact Nat.ne_of_gt (blk_lt (g := gb470) (o := .cells #[.slice none 0 0, .int .i64 0, .slice none 0 0, .int .i64 0, .slice none 0 0] 26 (0, 0)) (by (with_reducible repeat (first | refine blk_drewN ?_ _ | refine blk_drew ?_ | refine blk_alloc ?_ _)); exact BK470.out)) : gb482 ≠ gb470)); have n14_ := Aside0.mk ((by rw [hg]; exact Nat.ne_of_lt (blk_lt (g := gb471) (o := .cells #[u472000, .int .i64 a0_1, .slice Ao19 y475.length co19, .int .i64 a0_3, .slice Ao21 t478.length co21] 26 (0, 0)) (by (with_reducible repeat (first | refine blk_drewN ?_ _ | refine blk_drew ?_ | refine blk_alloc ?_ _)); exact BK471.out)) : gb471 ≠ gb482)); have n15_ := Aside0.mk ((by rw [hg]; exact Nat.ne_of_gt (blk_lt (g := gb471) (o := .cells #[u472000, .int .i64 a0_1, .slice Ao19 y475.length co19, .int .i64 a0_3, .slice Ao21 t478.length co21] 26 (0, 0)) (by (with_reducible repeat (first | refine blk_drewN ?_ _ | refine blk_drew ?_ | refine blk_alloc ?_ _)); exact BK471.out)) : gb482 ≠ gb471)); clear HO_472000; clear HO_472002; clear HO_472004; clear BK469; clear BK470; clear BK471; clear HB; have HO_472000 := n0_; have HO_472002 := n1_; have HO_472004 := n2_; have BK469 := n3_; have BK470 := n4_; have BK471 := n5_; have HB := n6_; have BK482 := n7_; have GW482 := n8_; have GE482 := n9_; have NB469_482 := n10_; have NB482_469 := n11_; have NB470_482 := n12_; have NB482_470 := n13_; have NB471_482 := n14_; have NB482_471 := n15_; clear n0_ n1_ n2_ n3_ n4_ n5_ n6_ n7_ n8_ n9_ n10_ n11_ n12_ n13_ n14_ n15_; clear hb hbox hg; have hnb31 := NB482_469.out; have hnc31 := NB469_482.out; have hnb32 := NB482_470.out; have hnc32 := NB470_482.out; have hnb33 := NB482_471.out; have hnc33 := NB471_482.out; have hcz34_0 : w30.cell? ⟨gb482, 0, none⟩ = some (.slice none 0 0) := (blk_cell BK482.out 0).trans rfl; have hcz34_1 : w30.cell? ⟨gb482, 1, none⟩ = some (.bool false) := (blk_cell BK482.out 1).trans rfl; have hcz34_2 : w30.cell? ⟨gb482, 2, none⟩ = some (.int .i64 0) := (blk_cell BK482.out 2).trans rfl; have hcz34_3 : w30.cell? ⟨gb482, 3, none⟩ = some (.int .i64 0) := (blk_cell BK482.out 3).trans rfl; have hfz34_0 := blk_frozen BK482.out 0; have hfz34_1 := blk_frozen BK482.out 1; have hfz34_2 := blk_frozen BK482.out 2; have hfz34_3 := blk_frozen BK482.out 3) | ((with_reducible refine gate_callee (f := 43) rfl ?_); refine goesL_ (some 31) rfl rfl Try.func43 (by kernel_rfl) rfl #[.slice A481_0 ((rd_T50 l0_0 x4_1).f0).length c481_0] rfl (by (try simp only [List.map_toArray, List.map_cons, List.map_nil]); first | done | rfl | (simp only [List.length_drop, List.length_take]; rfl)) ?_; (with_reducible refine (swarfkit_Ints.calls _ _ ((rd_T50 l0_0 x4_1).f0) t483 _ ?side1 ?side2 A25.out).mono ?_); (case side1 => exact Kd.C_below HR481_0.out (by repeat (first | (with_reducible first | exact HB.out | apply below_alloc | apply pw_below_drewN | apply below_drew1 | refine below_set ?_ GE469.out | refine below_set ?_ GE470.out | refine below_set ?_ GE471.out | refine below_set ?_ GE482.out) | exact HB.out))); (case side2 => exact HC481_0.out); rintro e w35 ⟨v484, rfl, ho0, hb⟩; refine ⟨_, rfl, ?_⟩; have n0_ := Aside0.mk (Kd.S_elder' (by (with_reducible repeat (first | apply Kd.S_alloc | apply Kd.S_drewN | apply Kd.S_drew)); exact (Kd.S_mono (Kd.S_far (p := ⟨gb482, 3, none⟩) (Kd.S_far (p := ⟨gb482, 2, none⟩) (Kd.S_far (p := ⟨gb482, 1, none⟩) (Kd.S_far (p := ⟨gb482, 0, none⟩) (Kd.S_mono HO_472000.out (fun k_ hk => (⟨hk, hk.2⟩ : _ ∧ k_ ≠ gb482))) (fun _ hk => hk.2) (.slice A481_0 ((rd_T50 l0_0 x4_1).f0).length c481_0)) (fun _ hk => hk.2) (.bool ((rd_T50 l0_0 x4_1).f1))) (fun _ hk => hk.2) (.int .i64 ((rd_T50 l0_0 x4_1).f2))) (fun _ hk => hk.2) (.int .i64 ((rd_T50 l0_0 x4_1).f3))) (fun _ h_ => h_.1))) (Kd.R_base ho0) hb); have n1_ := Aside0.mk (Kd.R_below (by (with_reducible repeat (first | apply Kd.R_alloc | apply Kd.R_drewN | apply Kd.R_drew)); exact (Kd.R_mono (Kd.R_far (p := ⟨gb482, 3, none⟩) (Kd.R_far (p := ⟨gb482, 2, none⟩) (Kd.R_far (p := ⟨gb482, 1, none⟩) (Kd.R_far (p := ⟨gb482, 0, none⟩) (Kd.R_types HO_472002.out BK482.out (by decide)) (fun _ hk => hk.2) (.slice A481_0 ((rd_T50 l0_0 x4_1).f0).length c481_0)) (fun _ hk => hk.2) (.bool ((rd_T50 l0_0 x4_1).f1))) (fun _ hk => hk.2) (.int .i64 ((rd_T50 l0_0 x4_1).f2))) (fun _ hk => hk.2) (.int .i64 ((rd_T50 l0_0 x4_1).f3))) (fun _ h_ => h_.1))) hb); have n2_ := Aside0.mk (Kd.R_elder' (by (with_reducible repeat (first | apply Kd.R_alloc | apply Kd.R_drewN | apply Kd.R_drew)); exact (Kd.R_mono (Kd.R_far (p := ⟨gb482, 3, none⟩) (Kd.R_far (p := ⟨gb482, 2, none⟩) (Kd.R_far (p := ⟨gb482, 1, none⟩) (Kd.R_far (p := ⟨gb482, 0, none⟩) (Kd.R_types HO_472004.out BK482.out (by decide)) (fun _ hk => hk.2) (.slice A481_0 ((rd_T50 l0_0 x4_1).f0).length c481_0)) (fun _ hk => hk.2) (.bool ((rd_T50 l0_0 x4_1).f1))) (fun _ hk => hk.2) (.int .i64 ((rd_T50 l0_0 x4_1).f2))) (fun _ hk => hk.2) (.int .i64 ((rd_T50 l0_0 x4_1).f3))) (fun _ h_ => h_.1))) (Kd.R_base ho0) hb); have n3_ := Aside0.mk (Kd.R_lower (Kd.R_new' ho0 (Kd.R_lt (by (with_reducible repeat (first | apply Kd.R_alloc | apply Kd.R_drewN | apply Kd.R_drew)); exact (Kd.R_mono (Kd.R_far (p := ⟨gb482, 3, none⟩) (Kd.R_far (p := ⟨gb482, 2, none⟩) (Kd.R_far (p := ⟨gb482, 1, none⟩) (Kd.R_far (p := ⟨gb482, 0, none⟩) (Kd.R_types HO_472004.out BK482.out (by decide)) (fun _ hk => hk.2) (.slice A481_0 ((rd_T50 l0_0 x4_1).f0).length c481_0)) (fun _ hk => hk.2) (.bool ((rd_T50 l0_0 x4_1).f1))) (fun _ hk => hk.2) (.int .i64 ((rd_T50 l0_0 x4_1).f2))) (fun _ hk => hk.2) (.int .i64 ((rd_T50 l0_0 x4_1).f3))) (fun _ h_ => h_.1))))) (below_size (by repeat (first | (with_reducible first | exact HB.out | apply below_alloc | apply pw_below_drewN | apply below_drew1 | refine below_set ?_ GE469.out | refine below_set ?_ GE470.out | refine below_set ?_ GE471.out | refine below_set ?_ GE482.out) | exact HB.out)))); have n4_ := Aside0.mk (blk_below (g := gb469) (o := .cells #[.slice (some ad481) l0_0.length c0_0, .int .i64 a0_1, .slice A0_2 l0_2.length c0_2, .int .i64 a0_3, .slice A0_4 l0_4.length c0_4] 26 (0, 0)) (by (with_reducible repeat (first | refine blk_drewN ?_ _ | refine blk_drew ?_ | refine blk_alloc ?_ _)); refine blk_far ?_ NB469_482.out _; (with_reducible repeat (first | refine blk_drewN ?_ _ | refine blk_drew ?_ | refine blk_alloc ?_ _)); refine blk_far ?_ NB469_482.out _; (with_reducible repeat (first | refine blk_drewN ?_ _ | refine blk_drew ?_ | refine blk_alloc ?_ _)); refine blk_far ?_ NB469_482.out _; (with_reducible repeat (first | refine blk_drewN ?_ _ | refine blk_drew ?_ | refine blk_alloc ?_ _)); refine blk_far ?_ NB469_482.out _; (with_reducible repeat (first | refine blk_drewN ?_ _ | refine blk_drew ?_ | refine blk_alloc ?_ _)); exact BK469.out) hb); have n5_ := Aside0.mk (blk_below (g := gb470) (o := .cells #[.slice none 0 0, .int .i64 0, .slice none 0 0, .int .i64 0, .slice none 0 0] 26 (0, 0)) (by (with_reducible repeat (first | refine blk_drewN ?_ _ | refine blk_drew ?_ | refine blk_alloc ?_ _)); refine blk_far ?_ NB470_482.out _; (with_reducible repeat (first | refine blk_drewN ?_ _ | refine blk_drew ?_ | refine blk_alloc ?_ _)); refine blk_far ?_ NB470_482.out _; (with_reducible repeat (first | refine blk_drewN ?_ _ | refine blk_drew ?_ | refine blk_alloc ?_ _)); refine blk_far ?_ NB470_482.out _; (with_reducible repeat (first | refine blk_drewN ?_ _ | refine blk_drew ?_ | refine blk_alloc ?_ _)); refine blk_far ?_ NB470_482.out _; (with_reducible repeat (first | refine blk_drewN ?_ _ | refine blk_drew ?_ | refine blk_alloc ?_ _)); exact BK470.out) hb); have n6_ := Aside0.mk (blk_below (g := gb471) (o := .cells #[u472000, .int .i64 a0_1, .slice Ao19 y475.length co19, .int .i64 a0_3, .slice Ao21 t478.length co21] 26 (0, 0)) (by (with_reducible repeat (first | refine blk_drewN ?_ _ | refine blk_drew ?_ | refine blk_alloc ?_ _)); refine blk_far ?_ NB471_482.out _; (with_reducible repeat (first | refine blk_drewN ?_ _ | refine blk_drew ?_ | refine blk_alloc ?_ _)); refine blk_far ?_ NB471_482.out _; (with_reducible repeat (first | refine blk_drewN ?_ _ | refine blk_drew ?_ | refine blk_alloc ?_ _)); refine blk_far ?_ NB471_482.out _; (with_reducible repeat (first | refine blk_drewN ?_ _ | refine blk_drew ?_ | refine blk_alloc ?_ _)); refine blk_far ?_ NB471_482.out _; (with_reducible repeat (first | refine blk_drewN ?_ _ | refine blk_drew ?_ | refine blk_alloc ?_ _)); exact BK471.out) hb); have n7_ := Aside0.mk (blk_below (g := gb482) (o := .cells #[.slice A481_0 ((rd_T50 l0_0 x4_1).f0).length c481_0, .bool ((rd_T50 l0_0 x4_1).f1), .int .i64 ((rd_T50 l0_0 x4_1).f2), .int .i64 ((rd_T50 l0_0 x4_1).f3)] 50 (0, 0)) (by (with_reducible repeat (first | refine blk_drewN ?_ _ | refine blk_drew ?_ | refine blk_alloc ?_ _)); refine blk_put (cs := #[.slice A481_0 ((rd_T50 l0_0 x4_1).f0).length c481_0, .bool ((rd_T50 l0_0 x4_1).f1), .int .i64 ((rd_T50 l0_0 x4_1).f2), .int .i64 0]) ?_ 3 _ rfl; (with_reducible repeat (first | refine blk_drewN ?_ _ | refine blk_drew ?_ | refine blk_alloc ?_ _)); refine blk_put (cs := #[.slice A481_0 ((rd_T50 l0_0 x4_1).f0).length c481_0, .bool ((rd_T50 l0_0 x4_1).f1), .int .i64 0, .int .i64 0]) ?_ 2 _ rfl; (with_reducible repeat (first | refine blk_drewN ?_ _ | refine blk_drew ?_ | refine blk_alloc ?_ _)); refine blk_put (cs := #[.slice A481_0 ((rd_T50 l0_0 x4_1).f0).length c481_0, .bool false, .int .i64 0, .int .i64 0]) ?_ 1 _ rfl; (with_reducible repeat (first | refine blk_drewN ?_ _ | refine blk_drew ?_ | refine blk_alloc ?_ _)); refine blk_put (cs := #[.slice none 0 0, .bool false, .int .i64 0, .int .i64 0]) ?_ 0 _ rfl; (with_reducible repeat (first | refine blk_drewN ?_ _ | refine blk_drew ?_ | refine blk_alloc ?_ _)); exact BK482.out) hb); have n8_ := Aside0.mk (below_step (by repeat (first | (with_reducible first | exact HB.out | apply below_alloc | apply pw_below_drewN | apply below_drew1 | refine below_set ?_ GE469.out | refine below_set ?_ GE470.out | refine below_set ?_ GE471.out | refine below_set ?_ GE482.out) | exact HB.out)) hb); clear HO_472000; clear HO_472002; clear HO_472004; clear BK469; clear BK470; clear BK471; clear BK482; clear HB; have HO_472000 := n0_; have HO_472002 := n1_; have HO_472004 := n2_; have HO485 := n3_; have BK469 := n4_; have BK470 := n5_; have BK471 := n6_; have BK482 := n7_; have HB := n8_; clear n0_ n1_ n2_ n3_ n4_ n5_ n6_ n7_ n8_; (try clear hb); (try clear hb2); (try clear hk); (try clear hi); (try clear ho0); obtain ⟨Ao36, co36, eo36⟩ := Kd.R_slice HO485.out; subst eo36; have hcz37_0 : w35.cell? ⟨gb482, 0, none⟩ = some (.slice A481_0 ((rd_T50 l0_0 x4_1).f0).length c481_0) := (blk_cell BK482.out 0).trans rfl; have hcz37_1 : w35.cell? ⟨gb482, 1, none⟩ = some (.bool ((rd_T50 l0_0 x4_1).f1)) := (blk_cell BK482.out 1).trans rfl; have hcz37_2 : w35.cell? ⟨gb482, 2, none⟩ = some (.int .i64 ((rd_T50 l0_0 x4_1).f2)) := (blk_cell BK482.out 2).trans rfl; have hcz37_3 : w35.cell? ⟨gb482, 3, none⟩ = some (.int .i64 ((rd_T50 l0_0 x4_1).f3)) := (blk_cell BK482.out 3).trans rfl; have hfz37_0 := blk_frozen BK482.out 0; have hfz37_1 := blk_frozen BK482.out 1; have hfz37_2 := blk_frozen BK482.out 2; have hfz37_3 := blk_frozen BK482.out 3) | ((with_reducible refine gate_store (t := 24) (p := 32) rfl ?_); refine store_event (t := 24) (p := 32) (v := ?vo_w38) (w1 := (w35.setCell ⟨gb482, 0, none⟩ (.slice Ao36 t483.length co36))) ?hg ?ho ?hn ?hr ?_; (case ho => rfl); (case hg => rfl); (case hn => rfl); (case hr => first | (go_simp; done) | (go_simp; rfl)); intro w38 hw; have n0_ : Aside0 (Kd.S k50 50 w38 w.heap.size (fun k_ => some k_ ≠ (.slice Ao21 t478.length co21 : Value).ownBlock ∧ some k_ ≠ (.slice Ao36 t483.length co36 : Value).ownBlock ∧ k_ ≠ gb482) u472000 x472000_1) := ⟨(by rw [hw]; exact (by (with_reducible repeat (first | apply Kd.S_alloc | apply Kd.S_drewN | apply Kd.S_drew)); exact Kd.S_mono (Kd.S_far (p := ⟨gb482, 0, none⟩) (Kd.S_mono HO_472000.out (fun k_ hk => (⟨hk, hk.1.2⟩ : _ ∧ k_ ≠ gb482))) (fun _ hk => hk.2) (.slice Ao36 t483.length co36)) (fun _ hk => ⟨hk.1.1.1, ⟨hk.1.2, hk.1.1.2⟩⟩)))⟩; have n1_ : Aside0 (Kd.R k61 61 w38 w.heap.size (fun _ => True) (.slice Ao19 y475.length co19) y475) := ⟨(by rw [hw]; exact (by (with_reducible repeat (first | apply Kd.R_alloc | apply Kd.R_drewN | apply Kd.R_drew)); exact Kd.R_mono (Kd.R_far (p := ⟨gb482, 0, none⟩) (Kd.R_types HO_472002.out BK482.out (by decide)) (fun _ hk => hk.2) (.slice Ao36 t483.length co36)) (fun _ hk => trivial)))⟩; have n2_ : Aside0 (Kd.R (Kd.int .i64) 3 w38 w.heap.size (fun k_ => some k_ ≠ (.slice Ao36 t483.length co36 : Value).ownBlock) (.slice Ao21 t478.length co21) t478) := ⟨(by rw [hw]; exact (by (with_reducible repeat (first | apply Kd.R_alloc | apply Kd.R_drewN | apply Kd.R_drew)); exact Kd.R_mono (Kd.R_far (p := ⟨gb482, 0, none⟩) (Kd.R_types HO_472004.out BK482.out (by decide)) (fun _ hk => hk.2) (.slice Ao36 t483.length co36)) (fun _ hk => hk.1.2)))⟩; have n3_ : Aside0 (Kd.R (Kd.int .i64) 3 w38 w.heap.size (fun k_ => some k_ ≠ (.slice Ao21 t478.length co21 : Value).ownBlock) (.slice Ao36 t483.length co36) t483) := ⟨(by rw [hw]; exact (by (with_reducible repeat (first | apply Kd.R_alloc | apply Kd.R_drewN | apply Kd.R_drew)); exact Kd.R_mono (Kd.R_far (p := ⟨gb482, 0, none⟩) (Kd.R_types HO485.out BK482.out (by decide)) (fun _ hk => hk.2) (.slice Ao36 t483.length co36)) (fun _ hk => hk.1.2)))⟩; have n4_ : Aside0 (w38.heap[gb469]? = some (.cells #[.slice (some ad481) l0_0.length c0_0, .int .i64 a0_1, .slice A0_2 l0_2.length c0_2, .int .i64 a0_3, .slice A0_4 l0_4.length c0_4] 26 (0, 0))) := ⟨(by rw [hw]; exact (by (with_reducible repeat (first | refine blk_drewN ?_ _ | refine blk_drew ?_ | refine blk_alloc ?_ _)); refine blk_far ?_ NB469_482.out _; (with_reducible repeat (first | refine blk_drewN ?_ _ | refine blk_drew ?_ | refine blk_alloc ?_ _)); exact BK469.out))⟩; have n5_ : Aside0 (w38.heap[gb470]? = some (.cells #[.slice none 0 0, .int .i64 0, .slice none 0 0, .int .i64 0, .slice none 0 0] 26 (0, 0))) := ⟨(by rw [hw]; exact (by (with_reducible repeat (first | refine blk_drewN ?_ _ | refine blk_drew ?_ | refine blk_alloc ?_ _)); refine blk_far ?_ NB470_482.out _; (with_reducible repeat (first | refine blk_drewN ?_ _ | refine blk_drew ?_ | refine blk_alloc ?_ _)); exact BK470.out))⟩; have n6_ : Aside0 (w38.heap[gb471]? = some (.cells #[u472000, .int .i64 a0_1, .slice Ao19 y475.length co19, .int .i64 a0_3, .slice Ao21 t478.length co21] 26 (0, 0))) := ⟨(by rw [hw]; exact (by (with_reducible repeat (first | refine blk_drewN ?_ _ | refine blk_drew ?_ | refine blk_alloc ?_ _)); refine blk_far ?_ NB471_482.out _; (with_reducible repeat (first | refine blk_drewN ?_ _ | refine blk_drew ?_ | refine blk_alloc ?_ _)); exact BK471.out))⟩; have n7_ : Aside0 (w38.heap[gb482]? = some (.cells #[.slice Ao36 t483.length co36, .bool ((rd_T50 l0_0 x4_1).f1), .int .i64 ((rd_T50 l0_0 x4_1).f2), .int .i64 ((rd_T50 l0_0 x4_1).f3)] 50 (0, 0))) := ⟨(by rw [hw]; exact (by (with_reducible repeat (first | refine blk_drewN ?_ _ | refine blk_drew ?_ | refine blk_alloc ?_ _)); refine blk_put (cs := #[.slice A481_0 ((rd_T50 l0_0 x4_1).f0).length c481_0, .bool ((rd_T50 l0_0 x4_1).f1), .int .i64 ((rd_T50 l0_0 x4_1).f2), .int .i64 ((rd_T50 l0_0 x4_1).f3)]) ?_ 0 _ rfl; (with_reducible repeat (first | refine blk_drewN ?_ _ | refine blk_drew ?_ | refine blk_alloc ?_ _)); exact BK482.out))⟩; have n8_ : Aside0 (Below w.heap.size w w38) := ⟨(by rw [hw]; exact (by repeat (first | (with_reducible first | exact HB.out | apply below_alloc | apply pw_below_drewN | apply below_drew1 | refine below_set ?_ GE469.out | refine below_set ?_ GE470.out | refine below_set ?_ GE471.out | refine below_set ?_ GE482.out) | exact HB.out)))⟩; clear hw; clear HO_472000; clear HO_472002; clear HO_472004; clear HO485; clear BK469; clear BK470; clear BK471; clear BK482; clear HB; have HO_472000 := n0_; have HO_472002 := n1_; have HO_472004 := n2_; have HO485 := n3_; have BK469 := n4_; have BK470 := n5_; have BK471 := n6_; have BK482 := n7_; have HB := n8_; clear n0_ n1_ n2_ n3_ n4_ n5_ n6_ n7_ n8_; have hnb39 := NB471_470.out; have hnc39 := NB470_471.out; have hcz40_0 : w38.cell? ⟨gb471, 0, none⟩ = some (u472000) := (blk_cell BK471.out 0).trans rfl; have hcz40_1 : w38.cell? ⟨gb471, 1, none⟩ = some (.int .i64 a0_1) := (blk_cell BK471.out 1).trans rfl; have hcz40_2 : w38.cell? ⟨gb471, 2, none⟩ = some (.slice Ao19 y475.length co19) := (blk_cell BK471.out 2).trans rfl; have hcz40_3 : w38.cell? ⟨gb471, 3, none⟩ = some (.int .i64 a0_3) := (blk_cell BK471.out 3).trans rfl; have hcz40_4 : w38.cell? ⟨gb471, 4, none⟩ = some (.slice Ao21 t478.length co21) := (blk_cell BK471.out 4).trans rfl; have hfz40_0 := blk_frozen BK471.out 0; have hfz40_1 := blk_frozen BK471.out 1; have hfz40_2 := blk_frozen BK471.out 2; have hfz40_3 := blk_frozen BK471.out 3; have hfz40_4 := blk_frozen BK471.out 4; have hcz41_0 : w38.cell? ⟨gb482, 0, none⟩ = some (.slice Ao36 t483.length co36) := (blk_cell BK482.out 0).trans rfl; have hcz41_1 : w38.cell? ⟨gb482, 1, none⟩ = some (.bool ((rd_T50 l0_0 x4_1).f1)) := (blk_cell BK482.out 1).trans rfl; have hcz41_2 : w38.cell? ⟨gb482, 2, none⟩ = some (.int .i64 ((rd_T50 l0_0 x4_1).f2)) := (blk_cell BK482.out 2).trans rfl; have hcz41_3 : w38.cell? ⟨gb482, 3, none⟩ = some (.int .i64 ((rd_T50 l0_0 x4_1).f3)) := (blk_cell BK482.out 3).trans rfl; have hfz41_0 := blk_frozen BK482.out 0; have hfz41_1 := blk_frozen BK482.out 1; have hfz41_2 := blk_frozen BK482.out 2; have hfz41_3 := blk_frozen BK482.out 3) | ((with_reducible refine gate_builtin (b := .append) (xs := #[.tmp 34, .tmp 36]) rfl ?_); at_builtin; refine Kd.S_append k50 (w0 := w) w.heap.size rfl (.tmp 34) (.tmp 36) 22 50 (.agg #[(.slice none 0 0), (.bool false), (.int .i64 0), (.int .i64 0)]) 48 rfl Try.underlying22 info50 rfl (by decide) (by omega) u472000 x472000_1 (⟨t483, (rd_T50 l0_0 x4_1).f1, (rd_T50 l0_0 x4_1).f2, (rd_T50 l0_0 x4_1).f3⟩ : S50) [.slice Ao36 t483.length co36, .bool ((rd_T50 l0_0 x4_1).f1), .int .i64 ((rd_T50 l0_0 x4_1).f2), .int .i64 ((rd_T50 l0_0 x4_1).f3)] (fun k_ => some k_ ≠ (.slice Ao21 t478.length co21 : Value).ownBlock ∧ k_ ≠ gb482) (fun k_ => some k_ = (.slice Ao36 t483.length co36 : Value).ownBlock) rfl rfl ?aP (fun k_ hk_ => ((Kd.R_mono (ok' := fun k_ => ((fun k_ => some k_ ≠ (.slice Ao21 t478.length co21 : Value).ownBlock ∧ k_ ≠ gb482)) k_ ∧ some k_ ≠ (u472000 : Value).ownBlock) (Kd.R_types (Kd.R_apart' (HO485.out) (Kd.S_typed HO_472000.out) (by decide)) BK482.out (by decide)) (fun k_ hk => ⟨⟨hk.1.1, hk.2⟩, hk.1.2⟩))).1 k_ hk_.symm) ?aF ?aO ?aB ?aS ?aL ?_; (case aP => exact k50_mkM _ _ _ (⟨t483, (rd_T50 l0_0 x4_1).f1, (rd_T50 l0_0 x4_1).f2, (rd_T50 l0_0 x4_1).f3⟩ : S50) (Kd.R_mono (Kd.R_tight rfl (Kd.R_mono (ok' := fun k_ => ((fun k_ => some k_ ≠ (.slice Ao21 t478.length co21 : Value).ownBlock ∧ k_ ≠ gb482)) k_ ∧ some k_ ≠ (u472000 : Value).ownBlock) (Kd.R_types (Kd.R_apart' (HO485.out) (Kd.S_typed HO_472000.out) (by decide)) BK482.out (by decide)) (fun k_ hk => ⟨⟨hk.1.1, hk.2⟩, hk.1.2⟩))) (fun _ h_ => h_))); (case aB => exact (by repeat (first | (with_reducible first | exact HB.out | apply below_alloc | apply pw_below_drewN | apply below_drew1 | refine below_set ?_ GE469.out | refine below_set ?_ GE470.out | refine below_set ?_ GE471.out | refine below_set ?_ GE482.out) | exact HB.out))); (case aF => exact (fun k_ hk => ⟨Kd.fresh' (Kd.R_lt (by (with_reducible repeat (first | apply Kd.R_alloc | apply Kd.R_drewN | apply Kd.R_drew)); exact HO_472004.out)) k_ hk, Kd.freshB (g := gb482) (o := .cells #[.slice Ao36 t483.length co36, .bool ((rd_T50 l0_0 x4_1).f1), .int .i64 ((rd_T50 l0_0 x4_1).f2), .int .i64 ((rd_T50 l0_0 x4_1).f3)] 50 (0, 0)) (by (with_reducible repeat (first | refine blk_drewN ?_ _ | refine blk_drew ?_ | refine blk_alloc ?_ _)); exact BK482.out) k_ hk⟩)); (case aO => exact (by (with_reducible repeat (first | apply Kd.S_alloc | apply Kd.S_drewN | apply Kd.S_drew)); exact Kd.S_mono HO_472000.out (fun k_ hk => ⟨⟨hk.1, hk.2.2⟩, fun e_ => hk.2.1 e_⟩))); (case aS => exact (below_size (by repeat (first | (with_reducible first | exact HB.out | apply below_alloc | apply pw_below_drewN | apply below_drew1 | refine below_set ?_ GE469.out | refine below_set ?_ GE470.out | refine below_set ?_ GE471.out | refine below_set ?_ GE482.out) | exact HB.out)))); (case aL => have := LMc26.out; omega); intro v487 w42 ho hb hg hat; rw [← Ny486.out] at ho; have n0_ := Aside0.mk (Kd.R_over' (by (with_reducible repeat (first | apply Kd.R_alloc | apply Kd.R_drewN | apply Kd.R_drew)); exact HO_472002.out) (Kd.S_typed (by (with_reducible repeat (first | apply Kd.S_alloc | apply Kd.S_drewN | apply Kd.S_drew)); exact HO_472000.out)) (by decide) hg); have n1_ := Aside0.mk (Kd.R_over' (by (with_reducible repeat (first | apply Kd.R_alloc | apply Kd.R_drewN | apply Kd.R_drew)); exact HO_472004.out) (Kd.S_typed (by (with_reducible repeat (first | apply Kd.S_alloc | apply Kd.S_drewN | apply Kd.S_drew)); exact HO_472000.out)) (by decide) hg); have n2_ := Aside0.mk (blk_grown (g := gb469) (o := .cells #[.slice (some ad481) l0_0.length c0_0, .int .i64 a0_1, .slice A0_2 l0_2.length c0_2, .int .i64 a0_3, .slice A0_4 l0_4.length c0_4] 26 (0, 0)) (by (with_reducible repeat (first | refine blk_drewN ?_ _ | refine blk_drew ?_ | refine blk_alloc ?_ _)); exact BK469.out) hg (Kd.S_ne HO_472000.out BK469.out (by decide))); have n3_ := Aside0.mk (blk_grown (g := gb470) (o := .cells #[.slice none 0 0, .int .i64 0, .slice none 0 0, .int .i64 0, .slice none 0 0] 26 (0, 0)) (by (with_reducible repeat (first | refine blk_drewN ?_ _ | refine blk_drew ?_ | refine blk_alloc ?_ _)); exact BK470.out) hg (Kd.S_ne HO_472000.out BK470.out (by decide))); have n4_ := Aside0.mk (blk_grown (g := gb471) (o := .cells #[u472000, .int .i64 a0_1, .slice Ao19 y475.length co19, .int .i64 a0_3, .slice Ao21 t478.length co21] 26 (0, 0)) (by (with_reducible repeat (first | refine blk_drewN ?_ _ | refine blk_drew ?_ | refine blk_alloc ?_ _)); exact BK471.out) hg (Kd.S_ne HO_472000.out BK471.out (by decide))); have n5_ := Aside0.mk (blk_grown (g := gb482) (o := .cells #[.slice Ao36 t483.length co36, .bool ((rd_T50 l0_0 x4_1).f1), .int .i64 ((rd_T50 l0_0 x4_1).f2), .int .i64 ((rd_T50 l0_0 x4_1).f3)] 50 (0, 0)) (by (with_reducible repeat (first | refine blk_drewN ?_ _ | refine blk_drew ?_ | refine blk_alloc ?_ _)); exact BK482.out) hg (Kd.S_away HO_472000.out (fun _ hk => hk.2.2))); have n6_ := Aside0.mk (hb); have n7_ := Aside0.mk (ho); clear HO_472002; clear HO_472004; clear BK469; clear BK470; clear BK471; clear BK482; clear HB; clear HO_472000; clear HO485; have HO_472002 := n0_; have HO_472004 := n1_; have BK469 := n2_; have BK470 := n3_; have BK471 := n4_; have BK482 := n5_; have HB := n6_; have HO488 := n7_; clear n0_ n1_ n2_ n3_ n4_ n5_ n6_ n7_; clear ho hb hg hat; obtain ⟨Ao43, co43, eo43⟩ := Kd.S_slice HO488.out; subst eo43; have hcz44_0 : w42.cell? ⟨gb471, 0, none⟩ = some (u472000) := (blk_cell BK471.out 0).trans rfl; have hcz44_1 : w42.cell? ⟨gb471, 1, none⟩ = some (.int .i64 a0_1) := (blk_cell BK471.out 1).trans rfl; have hcz44_2 : w42.cell? ⟨gb471, 2, none⟩ = some (.slice Ao19 y475.length co19) := (blk_cell BK471.out 2).trans rfl; have hcz44_3 : w42.cell? ⟨gb471, 3, none⟩ = some (.int .i64 a0_3) := (blk_cell BK471.out 3).trans rfl; have hcz44_4 : w42.cell? ⟨gb471, 4, none⟩ = some (.slice Ao21 t478.length co21) := (blk_cell BK471.out 4).trans rfl; have hfz44_0 := blk_frozen BK471.out 0; have hfz44_1 := blk_frozen BK471.out 1; have hfz44_2 := blk_frozen BK471.out 2; have hfz44_3 := blk_frozen BK471.out 3; have hfz44_4 := blk_frozen BK471.out 4))
              go_roundg k1
              case measure => have := HK1.out; omega
              case rel => exact ⟨(wrap64 (x4_1 + 1)), (y486), (.slice Ao43 y486.length co43), (by first | rfl | (simp; done) | (simp [*]; done)), H', ⟨by have := HK1.out; omega⟩, ⟨by (with_reducible repeat (first | apply Kd.S_alloc | apply Kd.S_drewN | apply Kd.S_drew)); exact Kd.S_mono (Kd.S_far (p := ⟨gb471, 0, none⟩) (Kd.S_types HO488.out BK471.out (by decide)) (fun _ hk => hk.2) (.slice Ao43 y486.length co43)) (fun _ hk => hk.1.1)⟩, ⟨by (with_reducible repeat (first | apply Kd.R_alloc | apply Kd.R_drewN | apply Kd.R_drew)); exact Kd.R_mono (Kd.R_far (p := ⟨gb471, 0, none⟩) (Kd.R_types HO_472002.out BK471.out (by decide)) (fun _ hk => hk.2) (.slice Ao43 y486.length co43)) (fun _ hk => trivial)⟩, ⟨by (with_reducible repeat (first | apply Kd.R_alloc | apply Kd.R_drewN | apply Kd.R_drew)); exact Kd.R_mono (Kd.R_far (p := ⟨gb471, 0, none⟩) (Kd.R_types HO_472004.out BK471.out (by decide)) (fun _ hk => hk.2) (.slice Ao43 y486.length co43)) (fun _ hk => trivial)⟩, ⟨by (with_reducible repeat (first | refine blk_drewN ?_ _ | refine blk_drew ?_ | refine blk_alloc ?_ _)); refine blk_far ?_ NB469_471.out _; (with_reducible repeat (first | refine blk_drewN ?_ _ | refine blk_drew ?_ | refine blk_alloc ?_ _)); exact BK469.out⟩, ⟨by (with_reducible repeat (first | refine blk_drewN ?_ _ | refine blk_drew ?_ | refine blk_alloc ?_ _)); refine blk_far ?_ NB470_471.out _; (with_reducible repeat (first | refine blk_drewN ?_ _ | refine blk_drew ?_ | refine blk_alloc ?_ _)); exact BK470.out⟩, ⟨by (with_reducible repeat (first | refine blk_drewN ?_ _ | refine blk_drew ?_ | refine blk_alloc ?_ _)); refine blk_put (cs := #[u472000, .int .i64 a0_1, .slice Ao19 y475.length co19, .int .i64 a0_3, .slice Ao21 t478.length co21]) ?_ 0 _ rfl; (with_reducible repeat (first | refine blk_drewN ?_ _ | refine blk_drew ?_ | refine blk_alloc ?_ _)); exact BK471.out⟩, ⟨by repeat (first | (with_reducible first | exact HB.out | apply below_alloc | apply pw_below_drewN | apply below_drew1 | refine below_set ?_ GE469.out | refine below_set ?_ GE470.out | refine below_set ?_ GE471.out | refine below_set ?_ GE482.out) | exact HB.out)⟩⟩
            · rw [if_neg c26] at H
              exact absurd H (by simp)
          · rw [if_neg c24] at H
            exact absurd H (by simp)
        · rw [if_neg c23] at H
          have c23b0 : decide (x4_1 < (l0_0.length : Int)) = false := decide_eq_false c23
          clear c23
          simp only [Option.some.injEq, Prod.mk.injEq] at H
          obtain ⟨rfl, rfl, rfl, rfl, rfl⟩ := H
          have hnb45 := NB469_470.out
          have hnc45 := NB470_469.out
          have hnb46 := NB469_471.out
          have hnc46 := NB471_469.out
          have hcz47_0 : wr.cell? ⟨gb469, 0, none⟩ = some (.slice A0_0 l0_0.length c0_0) := (blk_cell BK469.out 0).trans rfl
          have hcz47_1 : wr.cell? ⟨gb469, 1, none⟩ = some (.int .i64 a0_1) := (blk_cell BK469.out 1).trans rfl
          have hcz47_2 : wr.cell? ⟨gb469, 2, none⟩ = some (.slice A0_2 l0_2.length c0_2) := (blk_cell BK469.out 2).trans rfl
          have hcz47_3 : wr.cell? ⟨gb469, 3, none⟩ = some (.int .i64 a0_3) := (blk_cell BK469.out 3).trans rfl
          have hcz47_4 : wr.cell? ⟨gb469, 4, none⟩ = some (.slice A0_4 l0_4.length c0_4) := (blk_cell BK469.out 4).trans rfl
          have hfz47_0 := blk_frozen BK469.out 0
          have hfz47_1 := blk_frozen BK469.out 1
          have hfz47_2 := blk_frozen BK469.out 2
          have hfz47_3 := blk_frozen BK469.out 3
          have hfz47_4 := blk_frozen BK469.out 4
          have hnb48 := NB471_470.out
          have hnc48 := NB470_471.out
          have hcz49_0 : wr.cell? ⟨gb471, 0, none⟩ = some (u472000) := (blk_cell BK471.out 0).trans rfl
          have hcz49_1 : wr.cell? ⟨gb471, 1, none⟩ = some (.int .i64 a0_1) := (blk_cell BK471.out 1).trans rfl
          have hcz49_2 : wr.cell? ⟨gb471, 2, none⟩ = some (.slice Ao19 y475.length co19) := (blk_cell BK471.out 2).trans rfl
          have hcz49_3 : wr.cell? ⟨gb471, 3, none⟩ = some (.int .i64 a0_3) := (blk_cell BK471.out 3).trans rfl
          have hcz49_4 : wr.cell? ⟨gb471, 4, none⟩ = some (.slice Ao21 t478.length co21) := (blk_cell BK471.out 4).trans rfl
          have hfz49_0 := blk_frozen BK471.out 0
          have hfz49_1 := blk_frozen BK471.out 1
          have hfz49_2 := blk_frozen BK471.out 2
          have hfz49_3 := blk_frozen BK471.out 3
          have hfz49_4 := blk_frozen BK471.out 4
          obtain ⟨Ao50, co50, eo50⟩ := Kd.S_slice HO_472000.out
          subst eo50
          have hcz51_0 : wr.cell? ⟨gb470, 0, none⟩ = some (.slice none 0 0) := (blk_cell BK470.out 0).trans rfl
          have hcz51_1 : wr.cell? ⟨gb470, 1, none⟩ = some (.int .i64 0) := (blk_cell BK470.out 1).trans rfl
          have hcz51_2 : wr.cell? ⟨gb470, 2, none⟩ = some (.slice none 0 0) := (blk_cell BK470.out 2).trans rfl
          have hcz51_3 : wr.cell? ⟨gb470, 3, none⟩ = some (.int .i64 0) := (blk_cell BK470.out 3).trans rfl
          have hcz51_4 : wr.cell? ⟨gb470, 4, none⟩ = some (.slice none 0 0) := (blk_cell BK470.out 4).trans rfl
          have hfz51_0 := blk_frozen BK470.out 0
          have hfz51_1 := blk_frozen BK470.out 1
          have hfz51_2 := blk_frozen BK470.out 2
          have hfz51_3 := blk_frozen BK470.out 3
          have hfz51_4 := blk_frozen BK470.out 4
          go_wp2
          refine bodyPost_ret (results_cell_row rfl _ _ gb470 26 #[.slice Ao50 x472000_1.length co50, .int .i64 a0_1, .slice Ao19 y475.length co19, .int .i64 a0_3, .slice Ao21 t478.length co21] (0, 0) _ rfl (by (with_reducible repeat (first | refine blk_drewN ?_ _ | refine blk_drew ?_ | refine blk_alloc ?_ _)); refine blk_put (cs := #[.slice Ao50 x472000_1.length co50, .int .i64 a0_1, .slice Ao19 y475.length co19, .int .i64 a0_3, .slice none 0 0]) ?_ 4 _ rfl; (with_reducible repeat (first | refine blk_drewN ?_ _ | refine blk_drew ?_ | refine blk_alloc ?_ _)); refine blk_put (cs := #[.slice Ao50 x472000_1.length co50, .int .i64 a0_1, .slice Ao19 y475.length co19, .int .i64 0, .slice none 0 0]) ?_ 3 _ rfl; (with_reducible repeat (first | refine blk_drewN ?_ _ | refine blk_drew ?_ | refine blk_alloc ?_ _)); refine blk_put (cs := #[.slice Ao50 x472000_1.length co50, .int .i64 a0_1, .slice none 0 0, .int .i64 0, .slice none 0 0]) ?_ 2 _ rfl; (with_reducible repeat (first | refine blk_drewN ?_ _ | refine blk_drew ?_ | refine blk_alloc ?_ _)); refine blk_put (cs := #[.slice Ao50 x472000_1.length co50, .int .i64 0, .slice none 0 0, .int .i64 0, .slice none 0 0]) ?_ 1 _ rfl; (with_reducible repeat (first | refine blk_drewN ?_ _ | refine blk_drew ?_ | refine blk_alloc ?_ _)); refine blk_put (cs := #[.slice none 0 0, .int .i64 0, .slice none 0 0, .int .i64 0, .slice none 0 0]) ?_ 0 _ rfl; (with_reducible repeat (first | refine blk_drewN ?_ _ | refine blk_drew ?_ | refine blk_alloc ?_ _)); exact BK470.out) Try.underlying26 rfl (by kernel_rfl)) rfl ?_
          exact ⟨_, _, _, by first | rfl | (simp [errW_none, errW_some] <;> rfl) | (simp [*, errW_none, errW_some] <;> rfl), by (with_reducible repeat (first | apply Kd.S_alloc | apply Kd.S_drewN | apply Kd.S_drew)); exact Kd.S_mono (Kd.S_far (p := ⟨gb470, 4, none⟩) (Kd.S_far (p := ⟨gb470, 3, none⟩) (Kd.S_far (p := ⟨gb470, 2, none⟩) (Kd.S_far (p := ⟨gb470, 1, none⟩) (Kd.S_far (p := ⟨gb470, 0, none⟩) (Kd.S_types HO_472000.out BK470.out (by decide)) (fun _ hk => hk.2) (.slice Ao50 x472000_1.length co50)) (fun _ hk => hk.2) (.int .i64 a0_1)) (fun _ hk => hk.2) (.slice Ao19 y475.length co19)) (fun _ hk => hk.2) (.int .i64 a0_3)) (fun _ hk => hk.2) (.slice Ao21 t478.length co21)) (fun _ hk => hk.1), by (with_reducible repeat (first | apply Kd.R_alloc | apply Kd.R_drewN | apply Kd.R_drew)); exact Kd.R_mono (Kd.R_far (p := ⟨gb470, 4, none⟩) (Kd.R_far (p := ⟨gb470, 3, none⟩) (Kd.R_far (p := ⟨gb470, 2, none⟩) (Kd.R_far (p := ⟨gb470, 1, none⟩) (Kd.R_far (p := ⟨gb470, 0, none⟩) (Kd.R_types HO_472002.out BK470.out (by decide)) (fun _ hk => hk.2) (.slice Ao50 x472000_1.length co50)) (fun _ hk => hk.2) (.int .i64 a0_1)) (fun _ hk => hk.2) (.slice Ao19 y475.length co19)) (fun _ hk => hk.2) (.int .i64 a0_3)) (fun _ hk => hk.2) (.slice Ao21 t478.length co21)) (fun _ hk => trivial), by (with_reducible repeat (first | apply Kd.R_alloc | apply Kd.R_drewN | apply Kd.R_drew)); exact Kd.R_mono (Kd.R_far (p := ⟨gb470, 4, none⟩) (Kd.R_far (p := ⟨gb470, 3, none⟩) (Kd.R_far (p := ⟨gb470, 2, none⟩) (Kd.R_far (p := ⟨gb470, 1, none⟩) (Kd.R_far (p := ⟨gb470, 0, none⟩) (Kd.R_types HO_472004.out BK470.out (by decide)) (fun _ hk => hk.2) (.slice Ao50 x472000_1.length co50)) (fun _ hk => hk.2) (.int .i64 a0_1)) (fun _ hk => hk.2) (.slice Ao19 y475.length co19)) (fun _ hk => hk.2) (.int .i64 a0_3)) (fun _ hk => hk.2) (.slice Ao21 t478.length co21)) (fun _ hk => trivial), by repeat (first | (with_reducible first | exact HB.out | apply below_alloc | apply pw_below_drewN | apply below_drew1 | refine below_set ?_ GE469.out | refine below_set ?_ GE470.out | refine below_set ?_ GE471.out) | exact HB.out)⟩
  · rw [if_neg c2] at H
    exact absurd H (by simp)
end Go.Proofs.Ytkkmfcdikkiodaa.PC4
namespace Go.Proofs.Ytkkmfcdikkiodaa.PC4
set_option linter.unusedVariables false
open Go.RowKit Go.Proofs.YtkkmfcdikkiodaaW.PrintWords Go.Proofs.YtkkmfcdikkiodaaW.PrintLast Go.Proofs.YtkkmfcdikkiodaaW.PrintMore
theorem Ev.succ {α : Type} {g : Nat → Option α} {r : α} (h : Ev (fun k => g (k + 1)) r) : Ev g r := Ev.step (fun _ => rfl) h
theorem Res.succ {α : Type} {g : Nat → Option α} {P : α → Prop} (h : Res (fun k => g (k + 1)) P) : Res g P := Res.step (fun _ => rfl) h
theorem Res.of {α : Type} {g : Nat → Option α} {P : α → Prop} {r : α} (h : Ev g r) (hp : P r) : Res g P := ⟨r, h, hp⟩
theorem Res.now {α : Type} {P : α → Prop} {r : α} (hp : P r) : Res (fun _ => some r) P := ⟨r, Ev.now r, hp⟩
theorem Res.mono {α : Type} {g : Nat → Option α} {P Q : α → Prop} (h : Res g P) (k : ∀ r, P r → Q r) : Res g Q := by
  obtain ⟨r, h1, h2⟩ := h
  exact ⟨r, h1, k r h2⟩
theorem Ev.tail {α : Type} {g : Nat → Option α} {r : α} (h : Ev g r) : Ev (fun k => (g k).bind fun t => some t) r := Ev.bind h (Ev.now r)
theorem Ev.take {α β : Type} {o : Option α} {a : α} {f : Nat → α → Option β} {r : β} (h : o = some a) (k : Ev (fun n => f n a) r) : Ev (fun n => o.bind (f n)) r := by subst h; exact k
theorem Res.take {α β : Type} {o : Option α} {a : α} {f : Nat → α → Option β} {P : β → Prop} (h : o = some a) (k : Res (fun n => f n a) P) : Res (fun n => o.bind (f n)) P := by subst h; exact k
theorem wrapS {i : Nat} (h : i < 4611686018427387904) : wrap64 ((i : Int) + 1) = ((i + 1 : Nat) : Int) := by rw [wrap64_id (by omega) (by omega)]; omega
theorem rd50 (l : List S50) (k : Nat) : rd_T50 l (k : Int) = l.getD k z50 := by simp [rd_T50]
theorem rdB (l : List Bool) (k : Nat) : rdOf false l (k : Int) = l.getD k false := by simp [rdOf]
theorem getD_mem {α : Type} (l : List α) (k : Nat) (d : α) (h : k < l.length) : l.getD k d ∈ l := by
  rw [List.getD, List.getElem?_eq_getElem h]; exact List.getElem_mem h
theorem getD_get {α : Type} (l : List α) (k : Nat) (d : α) (h : k < l.length) : l.getD k d = l[k] := by
  rw [List.getD, List.getElem?_eq_getElem h]; rfl
theorem isClean_l0 (parts : List S50) (swap : Int) (looks : List S61) (wrong : Int) (needs : List Int) (st : List Bool) (hl : st.length = parts.length) (h9 : parts.length ≤ 1000) (d : Nat) :
    ∀ i : Nat, i + d = parts.length → Ev (fun K => swarfref04_IsClean.l0 K st (i : Int) parts swap looks wrong needs) ((List.range' i d).all fun j => !(parts.getD j z50).f1 || st.getD j false) := by
  induction d with
  | zero =>
    intro i hi
    refine Ev.succ ?_
    simp (disch := omega) only [swarfref04_IsClean.l0, if_neg]
    exact Ev.now _
  | succ d ih =>
    intro i hi
    have ihk := ih (i + 1) (by omega)
    refine Ev.succ ?_
    simp (disch := omega) only [swarfref04_IsClean.l0, if_pos, wrapS, rd50, rdB]
    rw [List.range'_succ, List.all_cons]
    cases (parts.getD i z50).f1 with
    | false => simpa using ihk
    | true =>
      cases st.getD i false with
      | true => simpa using ihk
      | false => simpa using Ev.now false
theorem isClean_ev (parts : List S50) (swap : Int) (looks : List S61) (wrong : Int) (needs : List Int) (st : List Bool) (hl : st.length = parts.length) (h9 : parts.length ≤ 1000) :
    Ev (fun K => swarfref04_IsClean.f K parts swap looks wrong needs st) (subM (badMask parts) (stM st)) := by
  have h := isClean_l0 parts swap looks wrong needs st hl h9 parts.length 0 (by omega)
  have e : ((List.range' 0 parts.length).all fun j => !(parts.getD j z50).f1 || st.getD j false) = subM (badMask parts) (stM st) := by
    rw [Bool.eq_iff_iff, List.all_eq_true, sub_bad]
    constructor
    · intro h i hi hb
      have := h i (List.mem_range'_1.2 ⟨by omega, by omega⟩)
      rw [hb] at this
      rw [stM_bit]
      simpa using this
    · intro h i hi
      have hi2 := (List.mem_range'_1.1 hi).2
      cases hb : (parts.getD i z50).f1 with
      | false => rfl
      | true =>
        have := h i (by omega) hb
        rw [stM_bit] at this
        rw [this]; rfl
  rw [e] at h
  exact h
end Go.Proofs.Ytkkmfcdikkiodaa.PC4
namespace Go.Proofs.Ytkkmfcdikkiodaa.PC4
open Go.RowKit Go.Proofs.YtkkmfcdikkiodaaW.PrintWords Go.Proofs.YtkkmfcdikkiodaaW.PrintLast Go.Proofs.YtkkmfcdikkiodaaW.PrintMore
attribute [local go_sem] max2_int min2_int max_two min_two max_three min_three max_four min_four
set_option linter.unusedVariables false
set_option linter.unusedSimpArgs false
def swarflaw04_said.f (a0 : Int) (a1 : Int) : Option (Int) := if a0 = a1 then (some 1) else (if a0 = 0 then (some 2) else (some 3))
set_option maxHeartbeats 8000000 in
set_option maxRecDepth 100000 in
theorem swarflaw04_said.calls (a0 : Int) (a1 : Int) (r : Int) (w : World) (h : swarflaw04_said.f a0 a1 = some r) :
    Calls Try.prog 30 #[.int .i64 a0, .int .i64 a1] w fun e w' => e = .returned (.int .i64 r) ∧ Drawn0 w w' := by
  have H : (if a0 = a1 then (some 1) else (if a0 = 0 then (some 2) else (some 3))) = some r := h
  clear h
  by_cases c3 : a0 = a1
  · rw [if_pos c3] at H
    have c3b0 : (a0 == a1) = true := beq_iff_eq.mpr c3
    have c3b1 : (a0 != a1) = false := bne_eq_false_iff_eq.mpr c3
    clear c3
    obtain rfl := Option.some.inj H
    go_enter Try.func30, Try.ntmps30
    go_wp2
    go_ret
    exact ⟨by first | rfl | (simp; done) | (simp [*]; done), by repeat (first | exact Drawn0.refl _ | apply Drawn0.step)⟩
  · rw [if_neg c3] at H
    have c3b0 : (a0 == a1) = false := beq_eq_false_iff_ne.mpr c3
    have c3b1 : (a0 != a1) = true := bne_iff_ne.mpr c3
    by_cases c4 : a0 = 0
    · rw [if_pos c4] at H
      have c4b0 : (a0 == 0) = true := beq_iff_eq.mpr c4
      have c4b1 : (a0 != 0) = false := bne_eq_false_iff_eq.mpr c4
      clear c4
      obtain rfl := Option.some.inj H
      go_enter Try.func30, Try.ntmps30
      go_wp2
      go_ret
      exact ⟨by first | rfl | (simp; done) | (simp [*]; done), by repeat (first | exact Drawn0.refl _ | apply Drawn0.step)⟩
    · rw [if_neg c4] at H
      have c4b0 : (a0 == 0) = false := beq_eq_false_iff_ne.mpr c4
      have c4b1 : (a0 != 0) = true := bne_iff_ne.mpr c4
      obtain rfl := Option.some.inj H
      go_enter Try.func30, Try.ntmps30
      go_wp2
      go_ret
      exact ⟨by first | rfl | (simp; done) | (simp [*]; done), by repeat (first | exact Drawn0.refl _ | apply Drawn0.step)⟩
end Go.Proofs.Ytkkmfcdikkiodaa.PC4
namespace Go.Proofs.Ytkkmfcdikkiodaa.PC4
set_option linter.unusedVariables false
set_option linter.unusedSimpArgs false
open Go.RowKit Go.Proofs.YtkkmfcdikkiodaaW.PrintWords Go.Proofs.YtkkmfcdikkiodaaW.PrintLast Go.Proofs.YtkkmfcdikkiodaaW.PrintMore
def tset (parts : List S50) (looks : List S61) (wrong : Int) (m : Nat) : List Nat := (List.range m).filter fun s => okM parts s && decide ((wrongM s looks : Int) ≤ wrong)
def bitsTo (n i m : Nat) : List Bool := (List.range n).map fun j => decide (j < i) && m.testBit j
theorem bitsTo_len (n i m : Nat) : (bitsTo n i m).length = n := by simp [bitsTo]
theorem bitsTo_get {n i m j : Nat} (h : j < n) : (bitsTo n i m).getD j false = (decide (j < i) && m.testBit j) := by
  rw [getD_get _ _ _ (by rw [bitsTo_len]; exact h)]
  simp [bitsTo]
theorem bitsTo_full {n m : Nat} {j : Nat} (h : j < n) : (bitsTo n n m).getD j false = m.testBit j := by
  rw [bitsTo_get h, decide_eq_true h, Bool.true_and]
theorem stM_bits {n m : Nat} (h : m < 2 ^ n) : stM (bitsTo n n m) = m := by
  apply Nat.eq_of_testBit_eq
  intro i
  rw [stM_bit]
  by_cases hi : i < n
  · exact bitsTo_full hi
  · rw [List.getD, List.getElem?_eq_none (by rw [bitsTo_len]; omega), Nat.testBit_lt_two_pow (Nat.lt_of_lt_of_le h (Nat.pow_le_pow_right (by decide) (by omega)))]
    rfl
def okTo (parts : List S50) (m i : Nat) : Bool := (List.range i).all fun j => !m.testBit j || (parts.getD j z50).f0.all fun x => m.testBit x.toNat
end Go.Proofs.Ytkkmfcdikkiodaa.PC4
