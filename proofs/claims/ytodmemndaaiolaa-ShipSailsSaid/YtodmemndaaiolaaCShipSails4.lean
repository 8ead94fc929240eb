/- Lemmas on the way to this: Whether a barge passes and when it is over its sills is said alike by the program and by the reference, for any voyage and stowage that are not too wide and for ones made of numbers, and nothing is changed. -/
import Derived.Test.YtodmemndaaiolaaCShipSails1
import Derived.Test.YtodmemndaaiolaaCShipSails3
import Derived.Test.YtodmemndaaiolaaCShipSails2
import Derived.RangeFuncNested
import Derived.RangeFuncBound
import Derived.RangeFuncCalls
import Derived.RangeFuncLeaves
import Derived.Shelf.Abstract
import Derived.Shelf.RegionOpen
import Derived.OwnWalkIn
import Derived.TacticsInMore
import Derived.LoopNIn
import Derived.LoopIn
import Derived.WalkMore
import Derived.Laws.CopyOwn
import Derived.Laws.MakeOwn
import Derived.Outline
import Derived.RegionTactic
import Derived.BigRegion
import Derived.ChangeAlike
import Derived.Deep.DeepCutAuto
import Derived.Deep.CutRange
import Derived.Lib.SliceRun
import Derived.BigQuiet
import Derived.Deep.LoopGhost
import Derived.OrdersIn
import Derived.TacticsIn
namespace Go.Proofs.Ytodmemndaaiolaa.PC7
open Go.RowKit Go.Proofs.YtodmemndaaiolaaW.PrintWords Go.Proofs.YtodmemndaaiolaaW.PrintLast Go.Proofs.YtodmemndaaiolaaW.PrintMore
attribute [local go_sem] max2_int min2_int max_two min_two max_three min_three max_four min_four
set_option linter.unusedVariables false
set_option linter.unusedSimpArgs false
def swarfref07_drafts.f (k : Nat) (a0_0 : Int) (a0_1 : Int) (a0_2 : Int) (l0_3 : List (S85)) (a0_4 : Int) (l0_5 : List (S59)) (l0_6 : List (S79)) (l1 : List Int) : Option (Int × Int × Int × Int) := (swarfref07_Lightest.f k a0_0 a0_1 a0_2 l0_3 a0_4 l0_5 l0_6).bind fun t452 => ((swarfref07_Ends.f k a0_0 a0_1 a0_2 l0_3 a0_4 l0_5 l0_6 l1 t452).bind fun bt455 => ((swarfref07_Heaviest.f k a0_0 a0_1 a0_2 l0_3 a0_4 l0_5 l0_6).bind fun t457 => ((swarfref07_Ends.f k a0_0 a0_1 a0_2 l0_3 a0_4 l0_5 l0_6 l1 t457).bind fun bt460 => (some (bt455.1, bt460.1, bt455.2, bt460.2)))))
def swarfref07_drafts.T1 : Bool × List (List Nat × List Nat) := (true, [([], []), ([], []), ([], []), ([2], [2]), ([0, 1, 3, 3], [0, 1, 3]), ([4], [4]), ([5], [5]), ([5], [5]), ([6, 4, 0, 1, 2, 3, 4, 5, 6], [6]), ([7, 8, 0, 1, 2, 3, 4, 5, 6, 7, 8], [7])])
def swarfref07_drafts.B1 : List Nat := [0, 0, 0, 4, 15, 31, 63, 63, 127, 511]
theorem swarfref07_drafts.tab1 : rtab .any (opsOf Try.f70 1) = swarfref07_drafts.T1 := by kernel_rfl
theorem swarfref07_drafts.bits1 : waitsOk swarfref07_drafts.T1.2 swarfref07_drafts.B1 = true := by kernel_rfl
def swarfref07_drafts.T2 : Bool × List (List Nat × List Nat) := (true, [([], []), ([], []), ([], []), ([2], [2]), ([0, 1, 3, 3], [0, 1, 3]), ([4], [4]), ([5], [5]), ([5], [5]), ([6, 4, 0, 1, 2, 3, 4, 5, 6], [6]), ([7, 8, 0, 1, 2, 3, 4, 5, 6, 7, 8], [7])])
def swarfref07_drafts.B2 : List Nat := [0, 0, 0, 4, 15, 31, 63, 63, 127, 511]
theorem swarfref07_drafts.tab2 : rtab .any (opsOf Try.f70 2) = swarfref07_drafts.T2 := by kernel_rfl
theorem swarfref07_drafts.bits2 : waitsOk swarfref07_drafts.T2.2 swarfref07_drafts.B2 = true := by kernel_rfl
set_option maxHeartbeats 8000000 in
set_option maxRecDepth 100000 in
theorem swarfref07_drafts.calls (k : Nat) (a0_0 : Int) (a0_1 : Int) (a0_2 : Int) (A0_3 : Option Addr) (c0_3 : Nat) (l0_3 : List (S85)) (a0_4 : Int) (A0_5 : Option Addr) (c0_5 : Nat) (l0_5 : List (S59)) (A0_6 : Option Addr) (c0_6 : Nat) (l0_6 : List (S79)) (A1 : Option Addr) (c1 : Nat) (l1 : List Int) (r1 : Int) (r2 : Int) (r3 : Int) (r4 : Int) (w : World) (hr0_3 : Kd.C k85 w A0_3 l0_3.length l0_3) (hc0_3 : l0_3.length ≤ c0_3) (hr0_5 : Kd.C k59 w A0_5 l0_5.length l0_5) (hc0_5 : l0_5.length ≤ c0_5) (hr0_6 : Kd.C k79 w A0_6 l0_6.length l0_6) (hc0_6 : l0_6.length ≤ c0_6) (hr1 : Kd.C (Kd.int .i64) w A1 l1.length l1) (hc1 : l1.length ≤ c1) (h : swarfref07_drafts.f k a0_0 a0_1 a0_2 l0_3 a0_4 l0_5 l0_6 l1 = some (r1, r2, r3, r4)) :
  Calls Try.prog 70 #[.agg #[.int .i64 a0_0, .int .i64 a0_1, .int .i64 a0_2, .slice A0_3 l0_3.length c0_3, .int .i64 a0_4, .slice A0_5 l0_5.length c0_5, .slice A0_6 l0_6.length c0_6], .slice A1 l1.length c1] w fun e w' => e = .returned (.tuple #[.agg #[.int .i64 r1, .int .i64 r2], .agg #[.int .i64 r3, .int .i64 r4]]) ∧ Below w.heap.size w w' := by
 have hu26 := Try.underlying26
 have hu56 := Try.underlying56
 have HR0_3 := Aside0.mk hr0_3
 have HC0_3 := Aside0.mk hc0_3
 clear hr0_3 hc0_3
 have HR0_5 := Aside0.mk hr0_5
 have HC0_5 := Aside0.mk hc0_5
 clear hr0_5 hc0_5
 have HR0_6 := Aside0.mk hr0_6
 have HC0_6 := Aside0.mk hc0_6
 clear hr0_6 hc0_6
 have HR1 := Aside0.mk hr1
 have HC1 := Aside0.mk hc1
 clear hr1 hc1
 have HB := Aside0.mk (Below.refl w.heap.size w)
 have H : ((swarfref07_Lightest.f k a0_0 a0_1 a0_2 l0_3 a0_4 l0_5 l0_6).bind fun t452 => ((swarfref07_Ends.f k a0_0 a0_1 a0_2 l0_3 a0_4 l0_5 l0_6 l1 t452).bind fun bt455 => ((swarfref07_Heaviest.f k a0_0 a0_1 a0_2 l0_3 a0_4 l0_5 l0_6).bind fun t457 => ((swarfref07_Ends.f k a0_0 a0_1 a0_2 l0_3 a0_4 l0_5 l0_6 l1 t457).bind fun bt460 => (some (bt455.1, bt460.1, bt455.2, bt460.2)))))) = some (r1, r2, r3, r4) := h
 clear h
 replace H := Option.bind_eq_some_iff.mp H
 obtain ⟨t452, A30, H⟩ := H
 try dsimp only at H
 have A3 := Aside0.mk A30
 clear A30
 replace H := Option.bind_eq_some_iff.mp H
 obtain ⟨⟨t455, t456⟩, A40, H⟩ := H
 try dsimp only at H
 have A4 := Aside0.mk A40
 clear A40
 replace H := Option.bind_eq_some_iff.mp H
 obtain ⟨t457, A50, H⟩ := H
 try dsimp only at H
 have A5 := Aside0.mk A50
 clear A50
 replace H := Option.bind_eq_some_iff.mp H
 obtain ⟨⟨t460, t461⟩, A60, H⟩ := H
 replace H : (some (t455, t460, t456, t461)) = some (r1, r2, r3, r4) := H
 have A6 := Aside0.mk A60
 clear A60
 simp only [Option.some.injEq, Prod.mk.injEq] at H
 obtain ⟨rfl, rfl, rfl, rfl⟩ := H
 go_enter Try.func70, Try.ntmps70
 try go_wp2_with (first | (refine box_r (N := 2) rfl (cs := #[.int .i64 a0_0, .int .i64 a0_1, .int .i64 a0_2, .slice A0_3 l0_3.length c0_3, .int .i64 a0_4, .slice A0_5 l0_5.length c0_5, .slice A0_6 l0_6.length c0_6]) (t := 26) ?_; intro gb449 hg w7 hbox hb; have BK449 := Aside0.mk (hbox); have GW449 := gw_x hg HB; have GE449 := GW449; replace HB := Aside0.mk (below_step (below_x HB.out) hb); clear hb hbox hg) | (refine box_r (N := 4) rfl (cs := #[.int .i64 0, .int .i64 0]) (t := 56) ?_; intro gb450 hg w8 hbox hb; have BK450 := Aside0.mk (hbox); have GW450 := gw_x hg HB; have GE450 := GW450; replace HB := bl_x HB hb; have NB449_450 := nb_x hg BK449; have NB450_449 := nb_y hg BK449; replace BK449 := bk_x BK449 hb; clear hb hbox hg) | (refine box_r (N := 5) rfl (cs := #[.int .i64 0, .int .i64 0]) (t := 56) ?_; intro gb451 hg w9 hbox hb; have BK451 := Aside0.mk (hbox); have GW451 := gw_x hg HB; have GE451 := GW451; replace HB := bl_x HB hb; have NB449_451 := nb_x hg BK449; have NB451_449 := nb_y hg BK449; replace BK449 := bk_x BK449 hb; have NB450_451 := nb_x hg BK450; have NB451_450 := nb_y hg BK450; replace BK450 := bk_x BK450 hb; clear hb hbox hg))
 replace BK449 := Aside0.mk (blk_drew BK449.out)
 replace BK450 := Aside0.mk (blk_drew BK450.out)
 replace BK451 := Aside0.mk (blk_drew BK451.out)
 replace HB := Aside0.mk (below_drew1 HB.out)
 refine start_ (n := 10) (S := fun w' => w'.cell? ⟨gb449, 0, none⟩ = some (.int .i64 a0_0) ∧ w'.cell? ⟨gb449, 1, none⟩ = some (.int .i64 a0_1) ∧ w'.cell? ⟨gb449, 2, none⟩ = some (.int .i64 a0_2) ∧ w'.cell? ⟨gb449, 3, none⟩ = some (.slice A0_3 l0_3.length c0_3) ∧ w'.cell? ⟨gb449, 4, none⟩ = some (.int .i64 a0_4) ∧ w'.cell? ⟨gb449, 5, none⟩ = some (.slice A0_5 l0_5.length c0_5) ∧ w'.cell? ⟨gb449, 6, none⟩ = some (.slice A0_6 l0_6.length c0_6)) (ds := []) #[false, false, false, false, false, false, false, false, false, false] (by kernel_rfl) rfl rfl ⟨(blk_cell BK449.out 0).trans rfl, (blk_cell BK449.out 1).trans rfl, (blk_cell BK449.out 2).trans rfl, (blk_cell BK449.out 3).trans rfl, (blk_cell BK449.out 4).trans rfl, (blk_cell BK449.out 5).trans rfl, (blk_cell BK449.out 6).trans rfl⟩ (fun hHeld => ?_); refine with_tabW swarfref07_drafts.tab1 swarfref07_drafts.bits1 (fun HT_ HW_ => ?_)
 generalize w9.drew = w10 at BK449 BK450 BK451 HB hHeld ⊢
 refine pure_t 1 (some 12) (bz 10 2) HT_ ?_
 refine take_t 0 (some 11) (bz 10 3) HT_ HW_ hHeld ?_
 refine take_t 2 (some 13) (bz 10 7) HT_ HW_ hHeld ?_
 refine one_t 3 (some 14) (bz 10 15) HT_ fun K hK => ?_
 refine goes_x Try.func86 #[.agg #[.int .i64 a0_0, .int .i64 a0_1, .int .i64 a0_2, .slice A0_3 l0_3.length c0_3, .int .i64 a0_4, .slice A0_5 l0_5.length c0_5, .slice A0_6 l0_6.length c0_6]] ?_
 with_reducible refine (swarfref07_Lightest.calls k a0_0 a0_1 a0_2 _ _ l0_3 a0_4 _ _ l0_5 _ _ l0_6 t452 _ ?side1 ?side2 ?side3 ?side4 ?side5 ?side6 A3.out).mono ?_
 (case side1 => exact Kd.C_x HR0_3.out HB.out)
 (case side2 => exact HC0_3.out)
 (case side3 => exact Kd.C_x HR0_5.out HB.out)
 (case side4 => exact HC0_5.out)
 (case side5 => exact Kd.C_x HR0_6.out HB.out)
 (case side6 => exact HC0_6.out)
 rintro e w11 ⟨v453, rfl, ho0, hb⟩
 refine ⟨_, rfl, ?_⟩
 have HO454 := Aside0.mk (Kd.R_lower ho0 (below_size (by exact below_y HB.out)))
 replace BK449 := bk_x BK449 hb
 replace BK450 := bk_x BK450 hb
 replace BK451 := bk_x BK451 hb
 replace HB := bl_x HB hb
 (try clear hb)
 (try clear hb2)
 (try clear hk)
 (try clear hi)
 (try clear ho0)
 obtain ⟨Ao12, co12, eo12⟩ := Kd.R_slice HO454.out
 (first | subst eo12 | (injection eo12 with f1_ f2_ f3_; have f4_ := f1_.symm; have f5_ := f3_.symm; clear f1_ f2_ f3_; subst f4_; subst f5_))
 refine hK.out _ _ (bcs_y BK449) (fun hHeld => ?_)
 clear hK K
 refine norm_y (some 14) ?_
 refine one_t 4 (some 15) (bz 10 31) HT_ fun K hK => ?_
 refine goes_x Try.func85 #[.agg #[.int .i64 a0_0, .int .i64 a0_1, .int .i64 a0_2, .slice A0_3 l0_3.length c0_3, .int .i64 a0_4, .slice A0_5 l0_5.length c0_5, .slice A0_6 l0_6.length c0_6], .slice A1 l1.length c1, .slice Ao12 t452.length co12] ?_
 with_reducible refine (swarfref07_Ends.calls k a0_0 a0_1 a0_2 _ _ l0_3 a0_4 _ _ l0_5 _ _ l0_6 _ _ l1 _ _ t452 t455 t456 _ ?side1 ?side2 ?side3 ?side4 ?side5 ?side6 ?side7 ?side8 ?side9 ?side10 A4.out).mono ?_
 (case side1 => exact Kd.C_x HR0_3.out HB.out)
 (case side2 => exact HC0_3.out)
 (case side3 => exact Kd.C_x HR0_5.out HB.out)
 (case side4 => exact HC0_5.out)
 (case side5 => exact Kd.C_x HR0_6.out HB.out)
 (case side6 => exact HC0_6.out)
 (case side7 => exact Kd.C_x HR1.out HB.out)
 (case side8 => exact HC1.out)
 (case side9 => exact Kd.C_y (Kd.R_reads' HO454.out).2.2)
 (case side10 => exact (Kd.R_reads' HO454.out).2.1)
 rintro e w13 ⟨rfl, hb⟩
 refine ⟨_, rfl, ?_⟩
 replace HO454 := Aside0.mk (Kd.R_below (Kd.R_x HO454.out) hb)
 replace BK449 := bk_x BK449 hb
 replace BK450 := bk_x BK450 hb
 replace BK451 := bk_x BK451 hb
 replace HB := bl_x HB hb
 (try clear hb)
 (try clear hb2)
 (try clear hk)
 (try clear hi)
 refine hK.out _ _ (bcs_y BK449) (fun hHeld => ?_)
 clear hK K
 refine norm_y (some 15) ?_
 refine pure_t 5 (some 10) (bz 10 63) HT_ ?_
 refine pure_t 6 (some 16) (bz 10 127) HT_ ?_
 refine pure_t 7 (some 17) (bz 10 255) HT_ ?_
 refine pure_t 8 (some 6) (bz 10 511) HT_ ?_
 refine pure_t 9 (some 7) (bz 10 1023) HT_ ?_
 refine done_ (done_of HT_.out (by kernel_rfl)) ?_
 try go_wp2
 replace HO454 := Aside0.mk (Kd.R_drew HO454.out)
 replace BK449 := Aside0.mk (blk_drew BK449.out)
 replace BK450 := Aside0.mk (blk_drew BK450.out)
 replace BK451 := Aside0.mk (blk_drew BK451.out)
 replace HB := Aside0.mk (below_drew1 HB.out)
 refine start_ (n := 10) (S := fun w' => w'.cell? ⟨gb449, 0, none⟩ = some (.int .i64 a0_0) ∧ w'.cell? ⟨gb449, 1, none⟩ = some (.int .i64 a0_1) ∧ w'.cell? ⟨gb449, 2, none⟩ = some (.int .i64 a0_2) ∧ w'.cell? ⟨gb449, 3, none⟩ = some (.slice A0_3 l0_3.length c0_3) ∧ w'.cell? ⟨gb449, 4, none⟩ = some (.int .i64 a0_4) ∧ w'.cell? ⟨gb449, 5, none⟩ = some (.slice A0_5 l0_5.length c0_5) ∧ w'.cell? ⟨gb449, 6, none⟩ = some (.slice A0_6 l0_6.length c0_6)) (ds := []) #[false, false, false, false, false, false, false, false, false, false] (by kernel_rfl) rfl rfl ⟨(blk_cell BK449.out 0).trans rfl, (blk_cell BK449.out 1).trans rfl, (blk_cell BK449.out 2).trans rfl, (blk_cell BK449.out 3).trans rfl, (blk_cell BK449.out 4).trans rfl, (blk_cell BK449.out 5).trans rfl, (blk_cell BK449.out 6).trans rfl⟩ (fun hHeld => ?_); refine with_tabW swarfref07_drafts.tab2 swarfref07_drafts.bits2 (fun HT_ HW_ => ?_)
 generalize w13.drew = w14 at HO454 BK449 BK450 BK451 HB hHeld ⊢
 refine pure_t 1 (some 20) (bz 10 2) HT_ ?_
 refine take_t 0 (some 19) (bz 10 3) HT_ HW_ hHeld ?_
 refine take_t 2 (some 21) (bz 10 7) HT_ HW_ hHeld ?_
 refine one_t 3 (some 22) (bz 10 15) HT_ fun K hK => ?_
 refine goes_x Try.func87 #[.agg #[.int .i64 a0_0, .int .i64 a0_1, .int .i64 a0_2, .slice A0_3 l0_3.length c0_3, .int .i64 a0_4, .slice A0_5 l0_5.length c0_5, .slice A0_6 l0_6.length c0_6]] ?_
 with_reducible refine (swarfref07_Heaviest.calls k a0_0 a0_1 a0_2 _ _ l0_3 a0_4 _ _ l0_5 _ _ l0_6 t457 _ ?side1 ?side2 ?side3 ?side4 ?side5 ?side6 A5.out).mono ?_
 (case side1 => exact Kd.C_x HR0_3.out HB.out)
 (case side2 => exact HC0_3.out)
 (case side3 => exact Kd.C_x HR0_5.out HB.out)
 (case side4 => exact HC0_5.out)
 (case side5 => exact Kd.C_x HR0_6.out HB.out)
 (case side6 => exact HC0_6.out)
 rintro e w15 ⟨v458, rfl, ho0, hb⟩
 refine ⟨_, rfl, ?_⟩
 have HO459 := Aside0.mk (Kd.R_lower (Kd.R_new' ho0 (Kd.R_lt (Kd.R_x HO454.out))) (below_size (by exact below_y HB.out)))
 replace HO454 := Aside0.mk (Kd.R_elder' (Kd.R_x HO454.out) (Kd.R_base ho0) hb)
 replace BK449 := bk_x BK449 hb
 replace BK450 := bk_x BK450 hb
 replace BK451 := bk_x BK451 hb
 replace HB := bl_x HB hb
 (try clear hb)
 (try clear hb2)
 (try clear hk)
 (try clear hi)
 (try clear ho0)
 obtain ⟨Ao16, co16, eo16⟩ := Kd.R_slice HO459.out
 (first | subst eo16 | (injection eo16 with f1_ f2_ f3_; have f4_ := f1_.symm; have f5_ := f3_.symm; clear f1_ f2_ f3_; subst f4_; subst f5_))
 refine hK.out _ _ (bcs_y BK449) (fun hHeld => ?_)
 clear hK K
 refine norm_y (some 22) ?_
 refine one_t 4 (some 23) (bz 10 31) HT_ fun K hK => ?_
 refine goes_x Try.func85 #[.agg #[.int .i64 a0_0, .int .i64 a0_1, .int .i64 a0_2, .slice A0_3 l0_3.length c0_3, .int .i64 a0_4, .slice A0_5 l0_5.length c0_5, .slice A0_6 l0_6.length c0_6], .slice A1 l1.length c1, .slice Ao16 t457.length co16] ?_
 with_reducible refine (swarfref07_Ends.calls k a0_0 a0_1 a0_2 _ _ l0_3 a0_4 _ _ l0_5 _ _ l0_6 _ _ l1 _ _ t457 t460 t461 _ ?side1 ?side2 ?side3 ?side4 ?side5 ?side6 ?side7 ?side8 ?side9 ?side10 A6.out).mono ?_
 (case side1 => exact Kd.C_x HR0_3.out HB.out)
 (case side2 => exact HC0_3.out)
 (case side3 => exact Kd.C_x HR0_5.out HB.out)
 (case side4 => exact HC0_5.out)
 (case side5 => exact Kd.C_x HR0_6.out HB.out)
 (case side6 => exact HC0_6.out)
 (case side7 => exact Kd.C_x HR1.out HB.out)
 (case side8 => exact HC1.out)
 (case side9 => exact Kd.C_y (Kd.R_reads' HO459.out).2.2)
 (case side10 => exact (Kd.R_reads' HO459.out).2.1)
 rintro e w17 ⟨rfl, hb⟩
 refine ⟨_, rfl, ?_⟩
 replace HO454 := Aside0.mk (Kd.R_below (Kd.R_x HO454.out) hb)
 replace HO459 := Aside0.mk (Kd.R_below (Kd.R_x HO459.out) hb)
 replace BK449 := bk_x BK449 hb
 replace BK450 := bk_x BK450 hb
 replace BK451 := bk_x BK451 hb
 replace HB := bl_x HB hb
 (try clear hb)
 (try clear hb2)
 (try clear hk)
 (try clear hi)
 refine hK.out _ _ (bcs_y BK449) (fun hHeld => ?_)
 clear hK K
 refine norm_y (some 23) ?_
 refine pure_t 5 (some 18) (bz 10 63) HT_ ?_
 refine pure_t 6 (some 24) (bz 10 127) HT_ ?_
 refine pure_t 7 (some 25) (bz 10 255) HT_ ?_
 refine pure_t 8 (some 8) (bz 10 511) HT_ ?_
 refine pure_t 9 (some 9) (bz 10 1023) HT_ ?_
 refine done_ (done_of HT_.out (by kernel_rfl)) ?_
 have hnb18 := NB450_449.out
 have hnc18 := NB449_450.out
 have hnb19 := NB450_451.out
 have hnc19 := NB451_450.out
 obtain ⟨hfz20_0, _, _⟩ := cf2 BK450
 have hnb21 := NB451_449.out
 have hnc21 := NB449_451.out
 obtain ⟨hfz22_0, _, _⟩ := cf2 BK451
 try go_wp2
 refine bodyPost_ret (results_cc rfl _ _ gb450 gb451 56 56 #[.int .i64 t455, .int .i64 t460] #[.int .i64 t456, .int .i64 t461] (0, 0) (0, 0) _ _ rfl (blk_z BK450.out) Try.underlying56 rfl (by kernel_rfl) rfl (by (with_reducible repeat (first | refine blk_drewN ?_ _ | refine blk_drew ?_ | refine blk_alloc ?_ _)); refine blk_put (cs := #[.int .i64 t456, .int .i64 0]) ?_ 1 _ rfl; (with_reducible repeat (first | refine blk_drewN ?_ _ | refine blk_drew ?_ | refine blk_alloc ?_ _)); refine blk_put (cs := #[.int .i64 0, .int .i64 0]) ?_ 0 _ rfl; exact blk_w BK451.out) Try.underlying56 rfl (by kernel_rfl)) rfl ?_
 exact rt_y HB
def swarfref07_Over.l0 : Nat → List Int → Int → Int → Int → Int → Int → List (S62) → Option (Int)
 | 0, _, _, _, _, _, _, _ => none
 | k + 1, x1, x2, x3, x9, x463000, x463001, x463002 => if x9 < (x463002.length : Int) then (if (wrap64 (x9 + 1)) < (x463002.length : Int) then (if 0 ≤ (wrap64 (x9 + 1)) then (if 0 ≤ x9 then (if (mx x2 ((rd_T62 x463002 x9).f0)) ≤ (wrap64 (((rd_T62 x463002 (wrap64 (x9 + 1))).f0) - 1)) then (if x9 < (x1.length : Int) then (if (wrap64 (1000 * (rd x1 x9))) ≥ x3 then (some (mx x2 ((rd_T62 x463002 x9).f0))) else (swarfref07_Over.l0 k x1 x2 x3 (wrap64 (x9 + 1)) x463000 x463001 x463002)) else (none)) else (swarfref07_Over.l0 k x1 x2 x3 (wrap64 (x9 + 1)) x463000 x463001 x463002)) else (none)) else (none)) else (if 0 ≤ x9 then (if (mx x2 ((rd_T62 x463002 x9).f0)) ≤ 2880 then (if x9 < (x1.length : Int) then (if (wrap64 (1000 * (rd x1 x9))) ≥ x3 then (some (mx x2 ((rd_T62 x463002 x9).f0))) else (swarfref07_Over.l0 k x1 x2 x3 (wrap64 (x9 + 1)) x463000 x463001 x463002)) else (none)) else (swarfref07_Over.l0 k x1 x2 x3 (wrap64 (x9 + 1)) x463000 x463001 x463002)) else (none))) else (some (-1))
def swarfref07_Over.f (k : Nat) (a0_0 : Int) (a0_1 : Int) (l0_2 : List (S62)) (l1 : List Int) (a2 : Int) (a3 : Int) : Option (Int) := swarfref07_Over.l0 k l1 a2 a3 0 a0_0 a0_1 l0_2
set_option maxHeartbeats 8000000 in
set_option maxRecDepth 100000 in
theorem swarfref07_Over.calls (k : Nat) (a0_0 : Int) (a0_1 : Int) (A0_2 : Option Addr) (c0_2 : Nat) (l0_2 : List (S62)) (A1 : Option Addr) (c1 : Nat) (l1 : List Int) (a2 : Int) (a3 : Int) (r : Int) (w : World) (hr0_2 : Kd.C k62 w A0_2 l0_2.length l0_2) (hc0_2 : l0_2.length ≤ c0_2) (hr1 : Kd.C (Kd.int .i64) w A1 l1.length l1) (hc1 : l1.length ≤ c1) (h : swarfref07_Over.f k a0_0 a0_1 l0_2 l1 a2 a3 = some r) :
  Calls Try.prog 88 #[.agg #[.int .i64 a0_0, .int .i64 a0_1, .slice A0_2 l0_2.length c0_2], .slice A1 l1.length c1, .int .i64 a2, .int .i64 a3] w fun e w' => e = .returned (.int .i64 r) ∧ Below w.heap.size w w' := by
 have hu59 := Try.underlying59
 have HR0_2 := Aside0.mk hr0_2
 have HC0_2 := Aside0.mk hc0_2
 clear hr0_2 hc0_2
 have HR1 := Aside0.mk hr1
 have HC1 := Aside0.mk hc1
 clear hr1 hc1
 have HB := Aside0.mk (Below.refl w.heap.size w)
 have H : (swarfref07_Over.l0 k l1 a2 a3 0 a0_0 a0_1 l0_2) = some r := h
 clear h
 have H' := Aside0.mk H
 clear H
 go_enter Try.func88, Try.ntmps88
 go_wp2_with (first | (refine box_r (N := 4) rfl (cs := #[.int .i64 a0_0, .int .i64 a0_1, .slice A0_2 l0_2.length c0_2]) (t := 59) ?_; intro gb462 hg w5 hbox hb; have BK462 := Aside0.mk (hbox); have GW462 := gw_x hg HB; have GE462 := GW462; replace HB := Aside0.mk (below_step (below_x HB.out) hb); clear hb hbox hg))
 go_loopg [9] k (fun kq v9 w' => ∃ (x9_1 : Int), v9 = .int .i64 x9_1 ∧ Aside0 (swarfref07_Over.l0 kq l1 a2 a3 x9_1 a0_0 a0_1 l0_2 = some r) ∧ Aside0 (kq ≤ k) ∧ Aside0 (w'.heap[gb462]? = some (.cells #[.int .i64 a0_0, .int .i64 a0_1, (.slice A0_2 l0_2.length c0_2)] 59 (0, 0))) ∧ Aside0 (Below w.heap.size w w'))
 case atStart => exact ⟨(0), (by first | rfl | (simp; done) | (simp [*]; done)), H', ⟨Nat.le_refl _⟩, ⟨blk_x BK462.out⟩, ⟨by exact below_y HB.out⟩⟩
 case round =>
  clear H'; obtain ⟨x9_1, rfl, HA, HK1, BK462, HB⟩ := hrel; cases gk with
  | zero => exact absurd HA.out (by simp [swarfref07_Over.l0])
  | succ k1 =>
   have H := HA.out; clear HA; simp only [swarfref07_Over.l0] at H; by_cases c6 : x9_1 < (l0_2.length : Int)
   ·
    rw [if_pos c6] at H; have c6b0 : decide (x9_1 < (l0_2.length : Int)) = true := decide_eq_true c6; clear c6; by_cases c7 : (wrap64 (x9_1 + 1)) < (l0_2.length : Int)
    ·
     rw [if_pos c7] at H; have c7b0 : decide ((wrap64 (x9_1 + 1)) < (l0_2.length : Int)) = true := decide_eq_true c7; clear c7; obtain ⟨ji8, hji8⟩ : ∃ j_ : Int, (wrap64 (x9_1 + 1)) = j_ := ⟨_, rfl⟩; replace H : (if 0 ≤ (ji8) then (if 0 ≤ x9_1 then (if (mx a2 ((rd_T62 l0_2 x9_1).f0)) ≤ (wrap64 (((rd_T62 l0_2 (ji8)).f0) - 1)) then (if x9_1 < (l1.length : Int) then (if (wrap64 (1000 * (rd l1 x9_1))) ≥ a3 then (some (mx a2 ((rd_T62 l0_2 x9_1).f0))) else (swarfref07_Over.l0 k1 l1 a2 a3 ji8 a0_0 a0_1 l0_2)) else (none)) else (swarfref07_Over.l0 k1 l1 a2 a3 ji8 a0_0 a0_1 l0_2)) else (none)) else (none)) = some r := by first | (rw [hji8] at H; exact H) | (simp only [hji8] at H ⊢; exact H)
     (try rw [hji8] at c7b0)
     have hji8w : (IntKind.i64.wrap (x9_1 + 1)) = ji8 := (i64_w _).trans hji8; by_cases c9 : 0 ≤ (ji8)
     ·
      rw [if_pos c9] at H; have c9b0 : decide (0 ≤ (ji8)) = true := decide_eq_true c9; clear c9; by_cases c10 : 0 ≤ x9_1
      ·
       rw [if_pos c10] at H; have c10b0 : decide (0 ≤ x9_1) = true := decide_eq_true c10; clear c10; obtain ⟨ji11, hji11⟩ : ∃ j_ : Int, (mx a2 ((rd_T62 l0_2 x9_1).f0)) = j_ := ⟨_, rfl⟩; (replace H : (if (ji11) ≤ (wrap64 (((rd_T62 l0_2 (ji8)).f0) - 1)) then (if x9_1 < (l1.length : Int) then (if (wrap64 (1000 * (rd l1 x9_1))) ≥ a3 then (some ji11) else (swarfref07_Over.l0 k1 l1 a2 a3 ji8 a0_0 a0_1 l0_2)) else (none)) else (swarfref07_Over.l0 k1 l1 a2 a3 ji8 a0_0 a0_1 l0_2)) = some r := by first | (rw [hji11] at H; exact H) | (simp only [hji11] at H ⊢; exact H)); have hji11_ : (if a2 < ((rd_T62 l0_2 x9_1).f0) then ((rd_T62 l0_2 x9_1).f0) else a2) = ji11 := hji11; by_cases c12 : (ji11) ≤ (wrap64 (((rd_T62 l0_2 (ji8)).f0) - 1))
       ·
        rw [if_pos c12] at H; have c12b0 : decide ((ji11) ≤ (wrap64 (((rd_T62 l0_2 (ji8)).f0) - 1))) = true := decide_eq_true c12; clear c12; by_cases c13 : x9_1 < (l1.length : Int)
        ·
         rw [if_pos c13] at H; have c13b0 : decide (x9_1 < (l1.length : Int)) = true := decide_eq_true c13; clear c13; by_cases c14 : (wrap64 (1000 * (rd l1 x9_1))) ≥ a3
         ·
          rw [if_pos c14] at H; have c14b0 : decide (a3 ≤ (wrap64 (1000 * (rd l1 x9_1)))) = true := decide_eq_true c14; clear c14; obtain rfl := Option.some.inj H; obtain ⟨hfz15_0, _, _, _⟩ := cf3 BK462; have p463 : 0 ≤ ((ji8) : Int) := of_x; have q463 : (ji8) < (l0_2.length : Int) := of_x; obtain ⟨ad463, e463, hx463_0, hx463_1, hx463_2⟩ := at_T62 HR0_2.out (ji8) p463 q463; (cases e463); replace hx463_0 := cell_x HB hx463_0; replace hx463_1 := cell_x HB hx463_1; replace hx463_2 := cell_x HB hx463_2; replace p463 := eq_true p463; replace q463 := eq_true q463; have p464 : 0 ≤ (x9_1 : Int) := of_x; have q464 : x9_1 < (l0_2.length : Int) := of_x; obtain ⟨ad464, e464, hx464_0, hx464_1, hx464_2⟩ := at_T62 HR0_2.out x9_1 p464 q464; obtain rfl : ad463 = ad464 := (by injection e464); replace hx464_0 := cell_x HB hx464_0; replace hx464_1 := cell_x HB hx464_1; replace hx464_2 := cell_x HB hx464_2; replace p464 := eq_true p464; replace q464 := eq_true q464; have p465 : 0 ≤ (x9_1 : Int) := of_x; have q465 : x9_1 < (l1.length : Int) := of_x; obtain ⟨ad465, e465, hx465_0⟩ := Kd.at_int HR1.out x9_1 p465 q465; (cases e465); replace hx465_0 := cell_x HB hx465_0; replace p465 := eq_true p465; replace q465 := eq_true q465; go_wp2; go_ret; exact ⟨by first | rfl | (simp [errW_none, errW_some] <;> rfl) | (simp only [← hji8, ← hji11]; first | rfl | (simp [errW_none, errW_some] <;> rfl)) | (simp [*, errW_none, errW_some] <;> rfl), by exact below_y HB.out⟩
         ·
          rw [if_neg c14] at H; have c14b0 : decide (a3 ≤ (wrap64 (1000 * (rd l1 x9_1)))) = false := decide_eq_false c14; clear c14; have H' := Aside0.mk H; clear H; obtain ⟨hfz16_0, _, _, _⟩ := cf3 BK462; have p463 : 0 ≤ ((ji8) : Int) := of_x; have q463 : (ji8) < (l0_2.length : Int) := of_x; obtain ⟨ad463, e463, hx463_0, hx463_1, hx463_2⟩ := at_T62 HR0_2.out (ji8) p463 q463; (cases e463); replace hx463_0 := cell_x HB hx463_0; replace hx463_1 := cell_x HB hx463_1; replace hx463_2 := cell_x HB hx463_2; replace p463 := eq_true p463; replace q463 := eq_true q463; have p464 : 0 ≤ (x9_1 : Int) := of_x; have q464 : x9_1 < (l0_2.length : Int) := of_x; obtain ⟨ad464, e464, hx464_0, hx464_1, hx464_2⟩ := at_T62 HR0_2.out x9_1 p464 q464; obtain rfl : ad463 = ad464 := (by injection e464); replace hx464_0 := cell_x HB hx464_0; replace hx464_1 := cell_x HB hx464_1; replace hx464_2 := cell_x HB hx464_2; replace p464 := eq_true p464; replace q464 := eq_true q464; have p465 : 0 ≤ (x9_1 : Int) := of_x; have q465 : x9_1 < (l1.length : Int) := of_x; obtain ⟨ad465, e465, hx465_0⟩ := Kd.at_int HR1.out x9_1 p465 q465; (cases e465); replace hx465_0 := cell_x HB hx465_0; replace p465 := eq_true p465; replace q465 := eq_true q465; go_wp2; go_roundg k1
          case measure => have := HK1.out; omega
          case rel => exact ⟨(ji8), (by first | rfl | (simp; done) | (simp only [← hji8] <;> (first | rfl | simp)) | (simp [*]; done)), H', ⟨by have := HK1.out; omega⟩, ⟨blk_x BK462.out⟩, ⟨by exact below_y HB.out⟩⟩
        ·
         rw [if_neg c13] at H; exact absurd H (by simp)
       ·
        rw [if_neg c12] at H; have c12b0 : decide ((ji11) ≤ (wrap64 (((rd_T62 l0_2 (ji8)).f0) - 1))) = false := decide_eq_false c12; clear c12; have H' := Aside0.mk H; clear H; obtain ⟨hfz17_0, _, _, _⟩ := cf3 BK462; have p463 : 0 ≤ ((ji8) : Int) := of_x; have q463 : (ji8) < (l0_2.length : Int) := of_x; obtain ⟨ad463, e463, hx463_0, hx463_1, hx463_2⟩ := at_T62 HR0_2.out (ji8) p463 q463; (cases e463); replace hx463_0 := cell_x HB hx463_0; replace hx463_1 := cell_x HB hx463_1; replace hx463_2 := cell_x HB hx463_2; replace p463 := eq_true p463; replace q463 := eq_true q463; have p464 : 0 ≤ (x9_1 : Int) := of_x; have q464 : x9_1 < (l0_2.length : Int) := of_x; obtain ⟨ad464, e464, hx464_0, hx464_1, hx464_2⟩ := at_T62 HR0_2.out x9_1 p464 q464; obtain rfl : ad463 = ad464 := (by injection e464); replace hx464_0 := cell_x HB hx464_0; replace hx464_1 := cell_x HB hx464_1; replace hx464_2 := cell_x HB hx464_2; replace p464 := eq_true p464; replace q464 := eq_true q464; go_wp2; go_roundg k1
        case measure => have := HK1.out; omega
        case rel => exact ⟨(ji8), (by first | rfl | (simp; done) | (simp only [← hji8] <;> (first | rfl | simp)) | (simp [*]; done)), H', ⟨by have := HK1.out; omega⟩, ⟨blk_x BK462.out⟩, ⟨by exact below_y HB.out⟩⟩
      ·
       rw [if_neg c10] at H; exact absurd H (by simp)
     ·
      rw [if_neg c9] at H; exact absurd H (by simp)
    ·
     rw [if_neg c7] at H; have c7b0 : decide ((wrap64 (x9_1 + 1)) < (l0_2.length : Int)) = false := decide_eq_false c7; clear c7; by_cases c18 : 0 ≤ x9_1
     ·
      rw [if_pos c18] at H; have c18b0 : decide (0 ≤ x9_1) = true := decide_eq_true c18; clear c18; obtain ⟨ji19, hji19⟩ : ∃ j_ : Int, (mx a2 ((rd_T62 l0_2 x9_1).f0)) = j_ := ⟨_, rfl⟩; (replace H : (if (ji19) ≤ 2880 then (if x9_1 < (l1.length : Int) then (if (wrap64 (1000 * (rd l1 x9_1))) ≥ a3 then (some ji19) else (swarfref07_Over.l0 k1 l1 a2 a3 (wrap64 (x9_1 + 1)) a0_0 a0_1 l0_2)) else (none)) else (swarfref07_Over.l0 k1 l1 a2 a3 (wrap64 (x9_1 + 1)) a0_0 a0_1 l0_2)) = some r := by first | (rw [hji19] at H; exact H) | (simp only [hji19] at H ⊢; exact H)); have hji19_ : (if a2 < ((rd_T62 l0_2 x9_1).f0) then ((rd_T62 l0_2 x9_1).f0) else a2) = ji19 := hji19; by_cases c20 : (ji19) ≤ 2880
      ·
       rw [if_pos c20] at H; have c20b0 : decide ((ji19) ≤ 2880) = true := decide_eq_true c20; clear c20; by_cases c21 : x9_1 < (l1.length : Int)
       ·
        rw [if_pos c21] at H; have c21b0 : decide (x9_1 < (l1.length : Int)) = true := decide_eq_true c21; clear c21; by_cases c22 : (wrap64 (1000 * (rd l1 x9_1))) ≥ a3
        ·
         rw [if_pos c22] at H; have c22b0 : decide (a3 ≤ (wrap64 (1000 * (rd l1 x9_1)))) = true := decide_eq_true c22; clear c22; obtain rfl := Option.some.inj H; obtain ⟨hfz23_0, _, _, _⟩ := cf3 BK462; have p466 : 0 ≤ (x9_1 : Int) := of_x; have q466 : x9_1 < (l0_2.length : Int) := of_x; obtain ⟨ad466, e466, hx466_0, hx466_1, hx466_2⟩ := at_T62 HR0_2.out x9_1 p466 q466; (cases e466); replace hx466_0 := cell_x HB hx466_0; replace hx466_1 := cell_x HB hx466_1; replace hx466_2 := cell_x HB hx466_2; replace p466 := eq_true p466; replace q466 := eq_true q466; have p467 : 0 ≤ (x9_1 : Int) := of_x; have q467 : x9_1 < (l1.length : Int) := of_x; obtain ⟨ad467, e467, hx467_0⟩ := Kd.at_int HR1.out x9_1 p467 q467; (cases e467); replace hx467_0 := cell_x HB hx467_0; replace p467 := eq_true p467; replace q467 := eq_true q467; go_wp2; go_ret; exact ⟨by first | rfl | (simp [errW_none, errW_some] <;> rfl) | (simp only [← hji19]; first | rfl | (simp [errW_none, errW_some] <;> rfl)) | (simp [*, errW_none, errW_some] <;> rfl), by exact below_y HB.out⟩
        ·
         rw [if_neg c22] at H; have c22b0 : decide (a3 ≤ (wrap64 (1000 * (rd l1 x9_1)))) = false := decide_eq_false c22; clear c22; have H' := Aside0.mk H; clear H; obtain ⟨hfz24_0, _, _, _⟩ := cf3 BK462; have p466 : 0 ≤ (x9_1 : Int) := of_x; have q466 : x9_1 < (l0_2.length : Int) := of_x; obtain ⟨ad466, e466, hx466_0, hx466_1, hx466_2⟩ := at_T62 HR0_2.out x9_1 p466 q466; (cases e466); replace hx466_0 := cell_x HB hx466_0; replace hx466_1 := cell_x HB hx466_1; replace hx466_2 := cell_x HB hx466_2; replace p466 := eq_true p466; replace q466 := eq_true q466; have p467 : 0 ≤ (x9_1 : Int) := of_x; have q467 : x9_1 < (l1.length : Int) := of_x; obtain ⟨ad467, e467, hx467_0⟩ := Kd.at_int HR1.out x9_1 p467 q467; (cases e467); replace hx467_0 := cell_x HB hx467_0; replace p467 := eq_true p467; replace q467 := eq_true q467; go_wp2; go_roundg k1
         case measure => have := HK1.out; omega
         case rel => exact ⟨(wrap64 (x9_1 + 1)), (by first | rfl | (simp; done) | (simp [*]; done)), H', ⟨by have := HK1.out; omega⟩, ⟨blk_x BK462.out⟩, ⟨by exact below_y HB.out⟩⟩
       ·
        rw [if_neg c21] at H; exact absurd H (by simp)
      ·
       rw [if_neg c20] at H; have c20b0 : decide ((ji19) ≤ 2880) = false := decide_eq_false c20; clear c20; have H' := Aside0.mk H; clear H; obtain ⟨hfz25_0, _, _, _⟩ := cf3 BK462; have p466 : 0 ≤ (x9_1 : Int) := of_x; have q466 : x9_1 < (l0_2.length : Int) := of_x; obtain ⟨ad466, e466, hx466_0, hx466_1, hx466_2⟩ := at_T62 HR0_2.out x9_1 p466 q466; (cases e466); replace hx466_0 := cell_x HB hx466_0; replace hx466_1 := cell_x HB hx466_1; replace hx466_2 := cell_x HB hx466_2; replace p466 := eq_true p466; replace q466 := eq_true q466; go_wp2; go_roundg k1
       case measure => have := HK1.out; omega
       case rel => exact ⟨(wrap64 (x9_1 + 1)), (by first | rfl | (simp; done) | (simp [*]; done)), H', ⟨by have := HK1.out; omega⟩, ⟨blk_x BK462.out⟩, ⟨by exact below_y HB.out⟩⟩
     ·
      rw [if_neg c18] at H; exact absurd H (by simp)
   ·
    rw [if_neg c6] at H; have c6b0 : decide (x9_1 < (l0_2.length : Int)) = false := decide_eq_false c6; clear c6; obtain rfl := Option.some.inj H; obtain ⟨hfz26_0, _, _, _⟩ := cf3 BK462; go_wp2; go_ret; exact rt_y HB
def swarfref07_Depths.l0 : Nat → Bool → List Int → Int → Int → Int → List (S62) → Option (List Int)
 | 0, _, _, _, _, _, _ => none
 | k + 1, x1, x5, x6, x469000, x469001, x469002 => if x6 < (x469002.length : Int) then (if x1 = true then (if 0 ≤ x6 then (if x5.length < 17592186044416 then (swarfref07_Depths.l0 k x1 (x5 ++ [(rd_T62 x469002 x6).f1.f1]) (wrap64 (x6 + 1)) x469000 x469001 x469002) else (none)) else (none)) else (if 0 ≤ x6 then (if x5.length < 17592186044416 then (swarfref07_Depths.l0 k x1 (x5 ++ [(rd_T62 x469002 x6).f1.f0]) (wrap64 (x6 + 1)) x469000 x469001 x469002) else (none)) else (none))) else (some x5)
def swarfref07_Depths.f (k : Nat) (a0_0 : Int) (a0_1 : Int) (l0_2 : List (S62)) (a1 : Bool) : Option (List Int) := swarfref07_Depths.l0 k a1 ([] : List Int) 0 a0_0 a0_1 l0_2
set_option maxHeartbeats 8000000 in
set_option maxRecDepth 100000 in
theorem swarfref07_Depths.calls (k : Nat) (a0_0 : Int) (a0_1 : Int) (A0_2 : Option Addr) (c0_2 : Nat) (l0_2 : List (S62)) (a1 : Bool) (r : List Int) (w : World) (hr0_2 : Kd.C k62 w A0_2 l0_2.length l0_2) (hc0_2 : l0_2.length ≤ c0_2) (h : swarfref07_Depths.f k a0_0 a0_1 l0_2 a1 = some r) :
  Calls Try.prog 89 #[.agg #[.int .i64 a0_0, .int .i64 a0_1, .slice A0_2 l0_2.length c0_2], .bool a1] w fun e w' => ∃ v0_ : Value, e = .returned (v0_) ∧ Kd.R (Kd.int .i64) 3 w' w.heap.size (fun _ => True) v0_ r ∧ Below w.heap.size w w' := by
 have hu59 := Try.underlying59
 have HR0_2 := Aside0.mk hr0_2
 have HC0_2 := Aside0.mk hc0_2
 clear hr0_2 hc0_2
 have HB := Aside0.mk (Below.refl w.heap.size w)
 have H : (swarfref07_Depths.l0 k a1 ([] : List Int) 0 a0_0 a0_1 l0_2) = some r := h
 clear h
 have H' := Aside0.mk H
 clear H
 go_enter Try.func89, Try.ntmps89
 go_wp2_with (first | (refine box_r (N := 2) rfl (cs := #[.int .i64 a0_0, .int .i64 a0_1, .slice A0_2 l0_2.length c0_2]) (t := 59) ?_; intro gb468 hg w3 hbox hb; have BK468 := Aside0.mk (hbox); have GW468 := gw_x hg HB; have GE468 := GW468; replace HB := Aside0.mk (below_step (below_x HB.out) hb); clear hb hbox hg))
 go_loopg [5, 6] k (fun kq v5 v6 w' => ∃ (x5_1 : List Int) (x6_1 : Int), v6 = .int .i64 x6_1 ∧ Aside0 (swarfref07_Depths.l0 kq a1 x5_1 x6_1 a0_0 a0_1 l0_2 = some r) ∧ Aside0 (kq ≤ k) ∧ Aside0 (Kd.R (Kd.int .i64) 3 w' w.heap.size (fun _ => True) v5 x5_1) ∧ Aside0 (w'.heap[gb468]? = some (.cells #[.int .i64 a0_0, .int .i64 a0_1, (.slice A0_2 l0_2.length c0_2)] 59 (0, 0))) ∧ Aside0 (Below w.heap.size w w'))
 case atStart => exact ⟨(([] : List Int)), (0), (by first | rfl | (simp; done) | (simp [*]; done)), H', ⟨Nat.le_refl _⟩, ⟨by first | exact Kd.R_nil _ _ _ _ _ | exact Kd.N_nil _ _ _ _ _ | exact Kd.V_nil _ _ _ _ _ | exact Kd.Q_nil _ _ _ _ _ | exact Kd.S_nil _ _ _ _ _⟩, ⟨blk_x BK468.out⟩, ⟨by exact below_y HB.out⟩⟩
 case round =>
  clear H'; obtain ⟨x5_1, x6_1, rfl, HA, HK1, HO_5, BK468, HB⟩ := hrel; cases gk with
  | zero => exact absurd HA.out (by simp [swarfref07_Depths.l0])
  | succ k1 =>
   have H := HA.out; clear HA; simp only [swarfref07_Depths.l0] at H; by_cases c4 : x6_1 < (l0_2.length : Int)
   ·
    rw [if_pos c4] at H; have c4b0 : decide (x6_1 < (l0_2.length : Int)) = true := decide_eq_true c4; clear c4; by_cases c5 : a1 = true
    ·
     subst c5; (have H1 : (if 0 ≤ x6_1 then (if x5_1.length < 17592186044416 then (swarfref07_Depths.l0 k1 true (x5_1 ++ [(rd_T62 l0_2 x6_1).f1.f1]) (wrap64 (x6_1 + 1)) a0_0 a0_1 l0_2) else (none)) else (none)) = some r := by rw [if_pos rfl] at H; exact H); clear H; have H := H1; clear H1; by_cases c6 : 0 ≤ x6_1
     ·
      rw [if_pos c6] at H; have c6b0 : decide (0 ≤ x6_1) = true := decide_eq_true c6; clear c6; by_cases c7 : x5_1.length < 17592186044416
      ·
       rw [if_pos c7] at H; have LMc7 := Aside0.mk c7; clear c7; obtain ⟨y470, hy470⟩ : ∃ y_ : List Int, y_ = (x5_1 ++ [(rd_T62 l0_2 x6_1).f1.f1]) := ⟨_, rfl⟩; (replace H : (swarfref07_Depths.l0 k1 true y470 (wrap64 (x6_1 + 1)) a0_0 a0_1 l0_2) = some r := by first | (rw [hy470]; with_reducible exact H) | (have H2_ := (Option.bind_some _ _).symm.trans H; rw [hy470]; with_reducible exact H2_) | (have H2_ := (Option.bind_some _ _).symm.trans H; with_reducible exact H2_) | with_reducible exact H | (rw [hy470]; exact H) | exact H); have Ny470 := Aside0.mk hy470; clear hy470; have H' := Aside0.mk H; clear H; obtain ⟨hfz8_0, _, _, _⟩ := cf3 BK468; have p469 : 0 ≤ (x6_1 : Int) := of_x; have q469 : x6_1 < (l0_2.length : Int) := of_x; obtain ⟨ad469, e469, hx469_0, hx469_1, hx469_2⟩ := at_T62 HR0_2.out x6_1 p469 q469; (cases e469); replace hx469_0 := cell_x HB hx469_0; replace hx469_1 := cell_x HB hx469_1; replace hx469_2 := cell_x HB hx469_2; replace p469 := eq_true p469; replace q469 := eq_true q469
       go_wp2_with (first | ((with_reducible refine gate_builtin (b := .append) (xs := #[.tmp 15, .tmp 23]) rfl ?_); at_builtin; refine Kd.R_append (Kd.int .i64) (w0 := w) w.heap.size rfl (.tmp 15) (.tmp 23) 27 3 (.int .i64 0) 8 rfl Try.underlying27 info3 rfl (by decide) (by omega) u5 x5_1 ((rd_T62 l0_2 x6_1).f1.f1) [.int .i64 ((rd_T62 l0_2 x6_1).f1.f1)] (fun _ => True) (fun _ => False) rfl rfl ?aP (fun _ hk => hk.elim) ?aF ?aO ?aB ?aS ?aL ?_; (case aP => exact rfl); (case aB => exact (by exact below_y HB.out)); (case aF => exact (fun _ _ => trivial)); (case aO => exact (Kd.R_x HO_5.out)); (case aS => exact (below_size (by exact below_y HB.out))); (case aL => have := LMc7.out; omega); intro v471 w9 ho hb hg hat; rw [← Ny470.out] at ho; replace BK468 := Aside0.mk (blk_grown (blk_x BK468.out) hg (Kd.R_ne HO_5.out BK468.out (by decide))); replace HB := Aside0.mk (hb); have HO472 := Aside0.mk (ho); clear HO_5; clear ho hb hg hat))
       go_roundg k1
       case measure => have := HK1.out; omega
       case rel => exact ⟨(y470), (wrap64 (x6_1 + 1)), (by first | rfl | (simp; done) | (simp [*]; done)), H', ⟨by have := HK1.out; omega⟩, ⟨by (with_reducible repeat (first | apply Kd.R_alloc | apply Kd.R_drewN | apply Kd.R_drew)); exact HO472.out⟩, ⟨blk_x BK468.out⟩, ⟨by exact below_y HB.out⟩⟩
      ·
       rw [if_neg c7] at H; exact absurd H (by simp)
     ·
      rw [if_neg c6] at H; exact absurd H (by simp)
    ·
     replace c5 := Bool.eq_false_iff.mpr c5; subst c5; replace H : (if 0 ≤ x6_1 then (if x5_1.length < 17592186044416 then (swarfref07_Depths.l0 k1 false (x5_1 ++ [(rd_T62 l0_2 x6_1).f1.f0]) (wrap64 (x6_1 + 1)) a0_0 a0_1 l0_2) else (none)) else (none)) = some r := ifn_x H; by_cases c10 : 0 ≤ x6_1
     ·
      rw [if_pos c10] at H; have c10b0 : decide (0 ≤ x6_1) = true := decide_eq_true c10; clear c10; by_cases c11 : x5_1.length < 17592186044416
      ·
       rw [if_pos c11] at H; have LMc11 := Aside0.mk c11; clear c11; obtain ⟨y474, hy474⟩ : ∃ y_ : List Int, y_ = (x5_1 ++ [(rd_T62 l0_2 x6_1).f1.f0]) := ⟨_, rfl⟩; (replace H : (swarfref07_Depths.l0 k1 false y474 (wrap64 (x6_1 + 1)) a0_0 a0_1 l0_2) = some r := by first | (rw [hy474]; with_reducible exact H) | (have H2_ := (Option.bind_some _ _).symm.trans H; rw [hy474]; with_reducible exact H2_) | (have H2_ := (Option.bind_some _ _).symm.trans H; with_reducible exact H2_) | with_reducible exact H | (rw [hy474]; exact H) | exact H); have Ny474 := Aside0.mk hy474; clear hy474; have H' := Aside0.mk H; clear H; obtain ⟨hfz12_0, _, _, _⟩ := cf3 BK468; have p473 : 0 ≤ (x6_1 : Int) := of_x; have q473 : x6_1 < (l0_2.length : Int) := of_x; obtain ⟨ad473, e473, hx473_0, hx473_1, hx473_2⟩ := at_T62 HR0_2.out x6_1 p473 q473; (cases e473); replace hx473_0 := cell_x HB hx473_0; replace hx473_1 := cell_x HB hx473_1; replace hx473_2 := cell_x HB hx473_2; replace p473 := eq_true p473; replace q473 := eq_true q473
       go_wp2_with (first | ((with_reducible refine gate_builtin (b := .append) (xs := #[.tmp 25, .tmp 33]) rfl ?_); at_builtin; refine Kd.R_append (Kd.int .i64) (w0 := w) w.heap.size rfl (.tmp 25) (.tmp 33) 27 3 (.int .i64 0) 8 rfl Try.underlying27 info3 rfl (by decide) (by omega) u5 x5_1 ((rd_T62 l0_2 x6_1).f1.f0) [.int .i64 ((rd_T62 l0_2 x6_1).f1.f0)] (fun _ => True) (fun _ => False) rfl rfl ?aP (fun _ hk => hk.elim) ?aF ?aO ?aB ?aS ?aL ?_; (case aP => exact rfl); (case aB => exact (by exact below_y HB.out)); (case aF => exact (fun _ _ => trivial)); (case aO => exact (Kd.R_x HO_5.out)); (case aS => exact (below_size (by exact below_y HB.out))); (case aL => have := LMc11.out; omega); intro v475 w13 ho hb hg hat; rw [← Ny474.out] at ho; replace BK468 := Aside0.mk (blk_grown (blk_x BK468.out) hg (Kd.R_ne HO_5.out BK468.out (by decide))); replace HB := Aside0.mk (hb); have HO476 := Aside0.mk (ho); clear HO_5; clear ho hb hg hat))
       go_roundg k1
       case measure => have := HK1.out; omega
       case rel => exact ⟨(y474), (wrap64 (x6_1 + 1)), (by first | rfl | (simp; done) | (simp [*]; done)), H', ⟨by have := HK1.out; omega⟩, ⟨by (with_reducible repeat (first | apply Kd.R_alloc | apply Kd.R_drewN | apply Kd.R_drew)); exact HO476.out⟩, ⟨blk_x BK468.out⟩, ⟨by exact below_y HB.out⟩⟩
      ·
       rw [if_neg c11] at H; exact absurd H (by simp)
     ·
      rw [if_neg c10] at H; exact absurd H (by simp)
   ·
    rw [if_neg c4] at H; have c4b0 : decide (x6_1 < (l0_2.length : Int)) = false := decide_eq_false c4; clear c4; obtain rfl := Option.some.inj H; obtain ⟨hfz14_0, _, _, _⟩ := cf3 BK468; go_wp2; go_ret; exact ⟨_, by first | rfl | (simp [errW_none, errW_some] <;> rfl) | (simp [*, errW_none, errW_some] <;> rfl), by (with_reducible repeat (first | apply Kd.R_alloc | apply Kd.R_drewN | apply Kd.R_drew)); exact HO_5.out, by exact below_y HB.out⟩
mutual
def swarfref07_way.l0 : Nat → Int → Bool → List Int → Int → Int → Int → Int → Int → List (S85) → Int → List (S59) → List (S79) → Option (List Int)
 | 0, _, _, _, _, _, _, _, _, _, _, _, _ => none
 | k + 1, x1, x2, x7, x8, x9, x478000, x478001, x478002, x478003, x478004, x478005, x478006 => if x9 < (x478005.length : Int) then (if 0 ≤ x9 then (if x2 = true then (swarfref07_way.j1 k x1 x2 x7 x9 (wrap64 (x8 + ((rd_T59 x478005 x9).f0.f0))) x478000 x478001 x478002 x478003 x478004 x478005 x478006 ((rd_T59 x478005 x9).f0.f0) ((rd_T59 x478005 x9).f0.f1) ((rd_T59 x478005 x9).f1)) else (swarfref07_way.j1 k x1 x2 x7 x9 (wrap64 (x8 + ((rd_T59 x478005 x9).f0.f1))) x478000 x478001 x478002 x478003 x478004 x478005 x478006 ((rd_T59 x478005 x9).f0.f0) ((rd_T59 x478005 x9).f0.f1) ((rd_T59 x478005 x9).f1))) else (none)) else (some x7)
def swarfref07_way.j1 : Nat → Int → Bool → List Int → Int → Int → Int → Int → Int → List (S85) → Int → List (S59) → List (S79) → Int → Int → List (S62) → Option (List Int)
 | 0, _, _, _, _, _, _, _, _, _, _, _, _, _, _, _ => none
 | k + 1, x1, x2, x7, x9, x11, x478000, x478001, x478002, x478003, x478004, x478005, x478006, x480000, x480001, x480002 => (swarfref07_Depths.f k x480000 x480001 x480002 x2).bind fun t480 => ((swarfref07_Over.f k x480000 x480001 x480002 t480 x11 x1).bind fun t483 => (if t483 < 0 then (some x7) else (if x7.length < 17592186044416 then (swarfref07_way.l0 k x1 x2 (x7 ++ [t483]) t483 (wrap64 (x9 + 1)) x478000 x478001 x478002 x478003 x478004 x478005 x478006) else (none))))
end
def swarfref07_way.f (k : Nat) (a0_0 : Int) (a0_1 : Int) (a0_2 : Int) (l0_3 : List (S85)) (a0_4 : Int) (l0_5 : List (S59)) (l0_6 : List (S79)) (a1 : Int) (a2 : Bool) : Option (List Int) := swarfref07_way.l0 k a1 a2 ([] : List Int) a0_4 0 a0_0 a0_1 a0_2 l0_3 a0_4 l0_5 l0_6
def swarfref07_way.T10 : Bool × List (List Nat × List Nat) := (true, [([], []), ([], []), ([], []), ([1, 2], [1, 2]), ([], []), ([], []), ([0, 3, 4, 5, 3], [0, 3, 4, 5]), ([6, 6, 0, 1, 2, 3, 4, 5, 6], [6])])
def swarfref07_way.B10 : List Nat := [0, 0, 0, 6, 0, 0, 63, 127]
theorem swarfref07_way.tab10 : rtab .any (opsOf Try.f81 10) = swarfref07_way.T10 := by kernel_rfl
theorem swarfref07_way.bits10 : waitsOk swarfref07_way.T10.2 swarfref07_way.B10 = true := by kernel_rfl
set_option maxHeartbeats 8000000 in
set_option maxRecDepth 100000 in
theorem swarfref07_way.calls (k : Nat) (a0_0 : Int) (a0_1 : Int) (a0_2 : Int) (A0_3 : Option Addr) (c0_3 : Nat) (l0_3 : List (S85)) (a0_4 : Int) (A0_5 : Option Addr) (c0_5 : Nat) (l0_5 : List (S59)) (A0_6 : Option Addr) (c0_6 : Nat) (l0_6 : List (S79)) (a1 : Int) (a2 : Bool) (r : List Int) (w : World) (hr0_3 : Kd.C k85 w A0_3 l0_3.length l0_3) (hc0_3 : l0_3.length ≤ c0_3) (hr0_5 : Kd.C k59 w A0_5 l0_5.length l0_5) (hc0_5 : l0_5.length ≤ c0_5) (hr0_6 : Kd.C k79 w A0_6 l0_6.length l0_6) (hc0_6 : l0_6.length ≤ c0_6) (h : swarfref07_way.f k a0_0 a0_1 a0_2 l0_3 a0_4 l0_5 l0_6 a1 a2 = some r) :
  Calls Try.prog 81 #[.agg #[.int .i64 a0_0, .int .i64 a0_1, .int .i64 a0_2, .slice A0_3 l0_3.length c0_3, .int .i64 a0_4, .slice A0_5 l0_5.length c0_5, .slice A0_6 l0_6.length c0_6], .int .i64 a1, .bool a2] w fun e w' => ∃ v0_ : Value, e = .returned (v0_) ∧ Kd.R (Kd.int .i64) 3 w' w.heap.size (fun _ => True) v0_ r ∧ Below w.heap.size w w' := by
 have hu26 := Try.underlying26
 have hu59 := Try.underlying59
 have HR0_3 := Aside0.mk hr0_3
 have HC0_3 := Aside0.mk hc0_3
 clear hr0_3 hc0_3
 have HR0_5 := Aside0.mk hr0_5
 have HC0_5 := Aside0.mk hc0_5
 clear hr0_5 hc0_5
 have HR0_6 := Aside0.mk hr0_6
 have HC0_6 := Aside0.mk hc0_6
 clear hr0_6 hc0_6
 have HB := Aside0.mk (Below.refl w.heap.size w)
 have H : (swarfref07_way.l0 k a1 a2 ([] : List Int) a0_4 0 a0_0 a0_1 a0_2 l0_3 a0_4 l0_5 l0_6) = some r := h
 clear h
 have H' := Aside0.mk H
 clear H
 go_enter Try.func81, Try.ntmps81
 go_wp2_with (first | (refine box_r (N := 3) rfl (cs := #[.int .i64 a0_0, .int .i64 a0_1, .int .i64 a0_2, .slice A0_3 l0_3.length c0_3, .int .i64 a0_4, .slice A0_5 l0_5.length c0_5, .slice A0_6 l0_6.length c0_6]) (t := 26) ?_; intro gb477 hg w4 hbox hb; have BK477 := Aside0.mk (hbox); have GW477 := gw_x hg HB; have GE477 := GW477; replace HB := Aside0.mk (below_step (below_x HB.out) hb); clear hb hbox hg; obtain ⟨hfz5_0, _, _, _, _, _, _, _⟩ := cf7 BK477))
 go_loopg [7, 8, 9] k (fun kq v7 v8 v9 w' => ∃ (x7_1 : List Int) (x8_1 : Int) (x9_1 : Int), v8 = .int .i64 x8_1 ∧ v9 = .int .i64 x9_1 ∧ Aside0 (swarfref07_way.l0 kq a1 a2 x7_1 x8_1 x9_1 a0_0 a0_1 a0_2 l0_3 a0_4 l0_5 l0_6 = some r) ∧ Aside0 (kq ≤ k) ∧ Aside0 (Kd.R (Kd.int .i64) 3 w' w.heap.size (fun _ => True) v7 x7_1) ∧ Aside0 (w'.heap[gb477]? = some (.cells #[.int .i64 a0_0, .int .i64 a0_1, .int .i64 a0_2, (.slice A0_3 l0_3.length c0_3), .int .i64 a0_4, (.slice A0_5 l0_5.length c0_5), (.slice A0_6 l0_6.length c0_6)] 26 (0, 0))) ∧ Aside0 (Below w.heap.size w w'))
 case atStart => exact ⟨(([] : List Int)), (a0_4), (0), (by first | rfl | (simp; done) | (simp [*]; done)), (by first | rfl | (simp; done) | (simp [*]; done)), H', ⟨Nat.le_refl _⟩, ⟨by first | exact Kd.R_nil _ _ _ _ _ | exact Kd.N_nil _ _ _ _ _ | exact Kd.V_nil _ _ _ _ _ | exact Kd.Q_nil _ _ _ _ _ | exact Kd.S_nil _ _ _ _ _⟩, ⟨blk_x BK477.out⟩, ⟨by exact below_y HB.out⟩⟩
 case round =>
  clear H'; obtain ⟨x7_1, x8_1, x9_1, rfl, rfl, HA, HK1, HO_7, BK477, HB⟩ := hrel; cases gk with
  | zero => exact absurd HA.out (by simp [swarfref07_way.l0])
  | succ k1 =>
   have H := HA.out; clear HA; simp only [swarfref07_way.l0] at H; by_cases c6 : x9_1 < (l0_5.length : Int)
   ·
    rw [if_pos c6] at H; have c6b0 : decide (x9_1 < (l0_5.length : Int)) = true := decide_eq_true c6; clear c6; by_cases c7 : 0 ≤ x9_1
    ·
     rw [if_pos c7] at H; have c7b0 : decide (0 ≤ x9_1) = true := decide_eq_true c7; clear c7; have HC8 := Aside0.mk H; clear H; obtain ⟨hfz9_0, _, _, _, _, _, _, _⟩ := cf7 BK477; have p478 : 0 ≤ (x9_1 : Int) := of_x; have q478 : x9_1 < (l0_5.length : Int) := of_x; obtain ⟨ad478, A478_2, c478_2, e478, hx478_0, hx478_1, hx478_2, hl478_2, hi478_2⟩ := at_T59 HR0_5.out x9_1 p478 q478; (cases e478); replace hx478_0 := cell_x HB hx478_0; replace hx478_1 := cell_x HB hx478_1; replace hx478_2 := cell_x HB hx478_2; have HR478_2 := Aside0.mk hi478_2; have HC478_2 := Aside0.mk hl478_2; clear hi478_2 hl478_2; replace p478 := eq_true p478; replace q478 := eq_true q478
     go_upto_if 31 with (first | (refine box_r (N := 10) rfl (cs := #[.int .i64 0, .int .i64 0, .slice none 0 0]) (t := 59) ?_; intro gb479 hg w10 hbox hb; replace HO_7 := Aside0.mk (Kd.R_below (Kd.R_x HO_7.out) hb); have BK479 := Aside0.mk (hbox); have GW479 := gw_x hg HB; have GE479 := GW479; replace HB := bl_x HB hb; have NB477_479 := nb_x hg BK477; have NB479_477 := nb_y hg BK477; replace BK477 := bk_x BK477 hb; clear hb hbox hg; have hnb11 := NB479_477.out; have hnc11 := NB477_479.out; obtain ⟨hfz12_0, _, _, _⟩ := cf3 BK479))
     (try simp only [Act.put, put_x])
     go_cut [11] (fun v11 wc => ∃ (kq : Nat) (x11_7 : Int), v11 = .int .i64 x11_7 ∧ Aside0 (swarfref07_way.j1 kq a1 a2 x7_1 x9_1 x11_7 a0_0 a0_1 a0_2 l0_3 a0_4 l0_5 l0_6 ((rd_T59 l0_5 x9_1).f0.f0) ((rd_T59 l0_5 x9_1).f0.f1) ((rd_T59 l0_5 x9_1).f1) = some r) ∧ Aside0 (kq ≤ k1) ∧ Aside0 (Kd.R (Kd.int .i64) 3 wc w.heap.size (fun _ => True) u7 x7_1) ∧ Aside0 (wc.heap[gb477]? = some (.cells #[.int .i64 a0_0, .int .i64 a0_1, .int .i64 a0_2, (.slice A0_3 l0_3.length c0_3), .int .i64 a0_4, (.slice (some ad478) l0_5.length c0_5), (.slice A0_6 l0_6.length c0_6)] 26 (0, 0))) ∧ Aside0 (wc.heap[gb479]? = some (.cells #[.int .i64 ((rd_T59 l0_5 x9_1).f0.f0), .int .i64 ((rd_T59 l0_5 x9_1).f0.f1), (.slice A478_2 ((rd_T59 l0_5 x9_1).f1).length c478_2)] 59 (0, 0))) ∧ Aside0 (Below w.heap.size w wc))
     case first =>
      have H := HC8.out; clear HC8; by_cases c13 : a2 = true
      ·
       subst c13; (have H1 : (swarfref07_way.j1 k1 a1 true x7_1 x9_1 (wrap64 (x8_1 + ((rd_T59 l0_5 x9_1).f0.f0))) a0_0 a0_1 a0_2 l0_3 a0_4 l0_5 l0_6 ((rd_T59 l0_5 x9_1).f0.f0) ((rd_T59 l0_5 x9_1).f0.f1) ((rd_T59 l0_5 x9_1).f1)) = some r := by rw [if_pos rfl] at H; exact H); clear H; have H := H1; clear H1; have H' := Aside0.mk H; clear H; have hnb14 := NB479_477.out; have hnc14 := NB477_479.out; obtain ⟨hfz15_0, _, _, _⟩ := cf3 BK479; go_wp2; go_meet
       case rel => exact ⟨_, (wrap64 (x8_1 + ((rd_T59 l0_5 x9_1).f0.f0))), (by first | rfl | (simp; done) | (simp [*]; done)), H', ⟨by have := HK1.out; first | omega | exact Nat.le_refl _⟩, ⟨by (with_reducible repeat (first | apply Kd.R_alloc | apply Kd.R_drewN | apply Kd.R_drew)); exact Kd.R_mono (Kd.R_far (p := ⟨gb479, 2, none⟩) (Kd.R_far (p := ⟨gb479, 1, none⟩) (Kd.R_far (p := ⟨gb479, 0, none⟩) (Kd.R_types HO_7.out BK479.out (by decide)) (fun _ hk => hk.2) (.int .i64 ((rd_T59 l0_5 x9_1).f0.f0))) (fun _ hk => hk.2) (.int .i64 ((rd_T59 l0_5 x9_1).f0.f1))) (fun _ hk => hk.2) (.slice A478_2 ((rd_T59 l0_5 x9_1).f1).length c478_2)) (fun _ hk => trivial)⟩, ⟨blk_w BK477.out⟩, ⟨blk_z BK479.out⟩, ⟨by exact below_y HB.out⟩⟩
      ·
       replace c13 := Bool.eq_false_iff.mpr c13; subst c13; replace H : (swarfref07_way.j1 k1 a1 false x7_1 x9_1 (wrap64 (x8_1 + ((rd_T59 l0_5 x9_1).f0.f1))) a0_0 a0_1 a0_2 l0_3 a0_4 l0_5 l0_6 ((rd_T59 l0_5 x9_1).f0.f0) ((rd_T59 l0_5 x9_1).f0.f1) ((rd_T59 l0_5 x9_1).f1)) = some r := ifn_x H; have H' := Aside0.mk H; clear H; go_wp2; go_meet
       case rel => exact ⟨_, (wrap64 (x8_1 + ((rd_T59 l0_5 x9_1).f0.f1))), (by first | rfl | (simp; done) | (simp [*]; done)), H', ⟨by have := HK1.out; first | omega | exact Nat.le_refl _⟩, ⟨by (with_reducible repeat (first | apply Kd.R_alloc | apply Kd.R_drewN | apply Kd.R_drew)); exact Kd.R_mono (Kd.R_far (p := ⟨gb479, 2, none⟩) (Kd.R_far (p := ⟨gb479, 1, none⟩) (Kd.R_far (p := ⟨gb479, 0, none⟩) (Kd.R_types HO_7.out BK479.out (by decide)) (fun _ hk => hk.2) (.int .i64 ((rd_T59 l0_5 x9_1).f0.f0))) (fun _ hk => hk.2) (.int .i64 ((rd_T59 l0_5 x9_1).f0.f1))) (fun _ hk => hk.2) (.slice A478_2 ((rd_T59 l0_5 x9_1).f1).length c478_2)) (fun _ hk => trivial)⟩, ⟨blk_w BK477.out⟩, ⟨blk_z BK479.out⟩, ⟨by exact below_y HB.out⟩⟩
     case rest =>
      clear HC8; obtain ⟨kq, x11_7, rfl, HA, HJ7, HO_7, BK477, BK479, HB⟩ := hcut; cases kq with
      | zero => exact absurd HA.out (by simp [swarfref07_way.j1])
      | succ kj7 =>
       have H := HA.out; clear HA; simp only [swarfref07_way.j1] at H; replace H := Option.bind_eq_some_iff.mp H; obtain ⟨t480, A160, H⟩ := H
       try dsimp only at H
       have A16 := Aside0.mk A160; clear A160; replace H := Option.bind_eq_some_iff.mp H; obtain ⟨t483, A170, H⟩ := H
       try dsimp only at H
       have A17 := Aside0.mk A170; clear A170; by_cases c18 : t483 < 0
       ·
        rw [if_pos c18] at H; have c18b0 : decide (t483 < 0) = true := decide_eq_true c18; clear c18; obtain rfl := Option.some.inj H
        try go_wp2
        replace HO_7 := Aside0.mk (Kd.R_drew HO_7.out); replace BK477 := Aside0.mk (blk_drew BK477.out); replace BK479 := Aside0.mk (blk_drew BK479.out); replace HB := Aside0.mk (below_drew1 HB.out); refine start_ (n := 8) (S := fun w' => w'.cell? ⟨gb479, 0, none⟩ = some (.int .i64 ((rd_T59 l0_5 x9_1).f0.f0)) ∧ w'.cell? ⟨gb479, 1, none⟩ = some (.int .i64 ((rd_T59 l0_5 x9_1).f0.f1)) ∧ w'.cell? ⟨gb479, 2, none⟩ = some (.slice A478_2 ((rd_T59 l0_5 x9_1).f1).length c478_2)) (ds := []) #[false, false, false, false, false, false, false, false] (by kernel_rfl) rfl rfl ⟨(blk_cell BK479.out 0).trans rfl, (blk_cell BK479.out 1).trans rfl, (blk_cell BK479.out 2).trans rfl⟩ (fun hHeld => ?_); refine with_tabW swarfref07_way.tab10 swarfref07_way.bits10 (fun HT_ HW_ => ?_); generalize wc.drew = w19 at HO_7 BK477 BK479 HB hHeld ⊢; refine pure_t 2 (some 39) (bz 8 4) HT_ ?_; refine pure_t 4 (some 41) (bz 8 20) HT_ ?_; refine pure_t 5 (some 42) (bz 8 52) HT_ ?_; refine take_t 0 (some 37) (bz 8 53) HT_ HW_ hHeld ?_; refine take_t 1 (some 38) (bz 8 55) HT_ HW_ hHeld ?_; (refine one_t 3 (some 40) (bz 8 63) HT_ fun K hK => ?_); refine goes_x Try.func89 #[.agg #[.int .i64 ((rd_T59 l0_5 x9_1).f0.f0), .int .i64 ((rd_T59 l0_5 x9_1).f0.f1), .slice A478_2 ((rd_T59 l0_5 x9_1).f1).length c478_2], .bool a2] ?_
        with_reducible refine (swarfref07_Depths.calls kj7 ((rd_T59 l0_5 x9_1).f0.f0) ((rd_T59 l0_5 x9_1).f0.f1) _ _ ((rd_T59 l0_5 x9_1).f1) a2 t480 _ ?side1 ?side2 A16.out).mono ?_
        (case side1 => exact Kd.C_x HR478_2.out HB.out)
        (case side2 => exact HC478_2.out)
        rintro e w20 ⟨v481, rfl, ho0, hb⟩; refine ⟨_, rfl, ?_⟩; have HO482 := Aside0.mk (Kd.R_lower (Kd.R_new' ho0 (Kd.R_lt (Kd.R_x HO_7.out))) (below_size (by exact below_y HB.out))); replace HO_7 := Aside0.mk (Kd.R_elder' (Kd.R_x HO_7.out) (Kd.R_base ho0) hb); replace BK477 := bk_x BK477 hb; replace BK479 := bk_x BK479 hb; replace HB := bl_x HB hb
        (try clear hb)
        (try clear hb2)
        (try clear hk)
        (try clear hi)
        (try clear ho0)
        obtain ⟨Ao21, co21, eo21⟩ := Kd.R_slice HO482.out
        (first | subst eo21 | (injection eo21 with f1_ f2_ f3_; have f4_ := f1_.symm; have f5_ := f3_.symm; clear f1_ f2_ f3_; subst f4_; subst f5_))
        refine hK.out _ _ (bcs_y BK479) (fun hHeld => ?_); clear hK K; refine norm_y (some 40) ?_; (refine one_t 6 (some 43) (bz 8 127) HT_ fun K hK => ?_); refine goes_x Try.func88 #[.agg #[.int .i64 ((rd_T59 l0_5 x9_1).f0.f0), .int .i64 ((rd_T59 l0_5 x9_1).f0.f1), .slice A478_2 ((rd_T59 l0_5 x9_1).f1).length c478_2], .slice Ao21 t480.length co21, .int .i64 x11_7, .int .i64 a1] ?_
        with_reducible refine (swarfref07_Over.calls kj7 ((rd_T59 l0_5 x9_1).f0.f0) ((rd_T59 l0_5 x9_1).f0.f1) _ _ ((rd_T59 l0_5 x9_1).f1) _ _ t480 x11_7 a1 t483 _ ?side1 ?side2 ?side3 ?side4 A17.out).mono ?_
        (case side1 => exact Kd.C_x HR478_2.out HB.out)
        (case side2 => exact HC478_2.out)
        (case side3 => exact Kd.C_y (Kd.R_reads' HO482.out).2.2)
        (case side4 => exact (Kd.R_reads' HO482.out).2.1)
        rintro e w22 ⟨rfl, hb⟩; refine ⟨_, rfl, ?_⟩; replace HO_7 := Aside0.mk (Kd.R_below (Kd.R_x HO_7.out) hb); replace HO482 := Aside0.mk (Kd.R_below (Kd.R_x HO482.out) hb); replace BK477 := bk_x BK477 hb; replace BK479 := bk_x BK479 hb; replace HB := bl_x HB hb
        (try clear hb)
        (try clear hb2)
        (try clear hk)
        (try clear hi)
        refine hK.out _ _ (bcs_y BK479) (fun hHeld => ?_); clear hK K; refine norm_y (some 43) ?_; refine pure_t 7 (some 8) (bz 8 255) HT_ ?_; refine done_ (done_of HT_.out (by kernel_rfl)) ?_
        try go_wp2
        go_ret; exact ⟨_, by first | rfl | (simp [errW_none, errW_some] <;> rfl) | (simp [*, errW_none, errW_some] <;> rfl), by (with_reducible repeat (first | apply Kd.R_alloc | apply Kd.R_drewN | apply Kd.R_drew)); exact Kd.R_mono HO_7.out (fun _ hk => trivial), by exact below_y HB.out⟩
       ·
        rw [if_neg c18] at H; have c18b0 : decide (t483 < 0) = false := decide_eq_false c18; clear c18; by_cases c23 : x7_1.length < 17592186044416
        ·
         rw [if_pos c23] at H; have LMc23 := Aside0.mk c23; clear c23; obtain ⟨y484, hy484⟩ : ∃ y_ : List Int, y_ = (x7_1 ++ [t483]) := ⟨_, rfl⟩; (replace H : (swarfref07_way.l0 kj7 a1 a2 y484 t483 (wrap64 (x9_1 + 1)) a0_0 a0_1 a0_2 l0_3 a0_4 l0_5 l0_6) = some r := by first | (rw [hy484]; with_reducible exact H) | (have H2_ := (Option.bind_some _ _).symm.trans H; rw [hy484]; with_reducible exact H2_) | (have H2_ := (Option.bind_some _ _).symm.trans H; with_reducible exact H2_) | with_reducible exact H | (rw [hy484]; exact H) | exact H); have Ny484 := Aside0.mk hy484; clear hy484; have H' := Aside0.mk H; clear H
         try go_wp2
         replace HO_7 := Aside0.mk (Kd.R_drew HO_7.out); replace BK477 := Aside0.mk (blk_drew BK477.out); replace BK479 := Aside0.mk (blk_drew BK479.out); replace HB := Aside0.mk (below_drew1 HB.out); refine start_ (n := 8) (S := fun w' => w'.cell? ⟨gb479, 0, none⟩ = some (.int .i64 ((rd_T59 l0_5 x9_1).f0.f0)) ∧ w'.cell? ⟨gb479, 1, none⟩ = some (.int .i64 ((rd_T59 l0_5 x9_1).f0.f1)) ∧ w'.cell? ⟨gb479, 2, none⟩ = some (.slice A478_2 ((rd_T59 l0_5 x9_1).f1).length c478_2)) (ds := []) #[false, false, false, false, false, false, false, false] (by kernel_rfl) rfl rfl ⟨(blk_cell BK479.out 0).trans rfl, (blk_cell BK479.out 1).trans rfl, (blk_cell BK479.out 2).trans rfl⟩ (fun hHeld => ?_); refine with_tabW swarfref07_way.tab10 swarfref07_way.bits10 (fun HT_ HW_ => ?_); generalize wc.drew = w24 at HO_7 BK477 BK479 HB hHeld ⊢; refine pure_t 2 (some 39) (bz 8 4) HT_ ?_; refine pure_t 4 (some 41) (bz 8 20) HT_ ?_; refine pure_t 5 (some 42) (bz 8 52) HT_ ?_; refine take_t 0 (some 37) (bz 8 53) HT_ HW_ hHeld ?_; refine take_t 1 (some 38) (bz 8 55) HT_ HW_ hHeld ?_; (refine one_t 3 (some 40) (bz 8 63) HT_ fun K hK => ?_); refine goes_x Try.func89 #[.agg #[.int .i64 ((rd_T59 l0_5 x9_1).f0.f0), .int .i64 ((rd_T59 l0_5 x9_1).f0.f1), .slice A478_2 ((rd_T59 l0_5 x9_1).f1).length c478_2], .bool a2] ?_
         with_reducible refine (swarfref07_Depths.calls kj7 ((rd_T59 l0_5 x9_1).f0.f0) ((rd_T59 l0_5 x9_1).f0.f1) _ _ ((rd_T59 l0_5 x9_1).f1) a2 t480 _ ?side1 ?side2 A16.out).mono ?_
         (case side1 => exact Kd.C_x HR478_2.out HB.out)
         (case side2 => exact HC478_2.out)
         rintro e w25 ⟨v481, rfl, ho0, hb⟩; refine ⟨_, rfl, ?_⟩; have HO482 := Aside0.mk (Kd.R_lower (Kd.R_new' ho0 (Kd.R_lt (Kd.R_x HO_7.out))) (below_size (by exact below_y HB.out))); replace HO_7 := Aside0.mk (Kd.R_elder' (Kd.R_x HO_7.out) (Kd.R_base ho0) hb); replace BK477 := bk_x BK477 hb; replace BK479 := bk_x BK479 hb; replace HB := bl_x HB hb
         (try clear hb)
         (try clear hb2)
         (try clear hk)
         (try clear hi)
         (try clear ho0)
         obtain ⟨Ao26, co26, eo26⟩ := Kd.R_slice HO482.out
         (first | subst eo26 | (injection eo26 with f1_ f2_ f3_; have f4_ := f1_.symm; have f5_ := f3_.symm; clear f1_ f2_ f3_; subst f4_; subst f5_))
         refine hK.out _ _ (bcs_y BK479) (fun hHeld => ?_); clear hK K; refine norm_y (some 40) ?_; (refine one_t 6 (some 43) (bz 8 127) HT_ fun K hK => ?_); refine goes_x Try.func88 #[.agg #[.int .i64 ((rd_T59 l0_5 x9_1).f0.f0), .int .i64 ((rd_T59 l0_5 x9_1).f0.f1), .slice A478_2 ((rd_T59 l0_5 x9_1).f1).length c478_2], .slice Ao26 t480.length co26, .int .i64 x11_7, .int .i64 a1] ?_
         with_reducible refine (swarfref07_Over.calls kj7 ((rd_T59 l0_5 x9_1).f0.f0) ((rd_T59 l0_5 x9_1).f0.f1) _ _ ((rd_T59 l0_5 x9_1).f1) _ _ t480 x11_7 a1 t483 _ ?side1 ?side2 ?side3 ?side4 A17.out).mono ?_
         (case side1 => exact Kd.C_x HR478_2.out HB.out)
         (case side2 => exact HC478_2.out)
         (case side3 => exact Kd.C_y (Kd.R_reads' HO482.out).2.2)
         (case side4 => exact (Kd.R_reads' HO482.out).2.1)
         rintro e w27 ⟨rfl, hb⟩; refine ⟨_, rfl, ?_⟩; replace HO_7 := Aside0.mk (Kd.R_below (Kd.R_x HO_7.out) hb); replace HO482 := Aside0.mk (Kd.R_below (Kd.R_x HO482.out) hb); replace BK477 := bk_x BK477 hb; replace BK479 := bk_x BK479 hb; replace HB := bl_x HB hb
         (try clear hb)
         (try clear hb2)
         (try clear hk)
         (try clear hi)
         refine hK.out _ _ (bcs_y BK479) (fun hHeld => ?_); clear hK K; refine norm_y (some 43) ?_; refine pure_t 7 (some 8) (bz 8 255) HT_ ?_; refine done_ (done_of HT_.out (by kernel_rfl)) ?_
         try go_wp2_with (first | ((with_reducible refine gate_builtin (b := .append) (xs := #[.tmp 47, .tmp 49]) rfl ?_); at_builtin; refine Kd.R_append (Kd.int .i64) (w0 := w) w.heap.size rfl (.tmp 47) (.tmp 49) 27 3 (.int .i64 0) 8 rfl Try.underlying27 info3 rfl (by decide) (by omega) u7 x7_1 t483 [.int .i64 t483] (fun k_ => some k_ ≠ (.slice Ao26 t480.length co26 : Value).ownBlock) (fun _ => False) rfl rfl ?aP (fun _ hk => hk.elim) ?aF ?aO ?aB ?aS ?aL ?_; (case aP => exact rfl); (case aB => exact (by exact below_y HB.out)); (case aF => exact (fun k_ hk => Kd.fresh' (Kd.R_lt (Kd.R_x HO482.out)) k_ hk)); (case aO => exact (by (with_reducible repeat (first | apply Kd.R_alloc | apply Kd.R_drewN | apply Kd.R_drew)); exact Kd.R_mono HO_7.out (fun _ hk => hk.2))); (case aS => exact (below_size (by exact below_y HB.out))); (case aL => have := LMc23.out; omega); intro v485 w28 ho hb hg hat; rw [← Ny484.out] at ho; replace BK477 := Aside0.mk (blk_grown (blk_x BK477.out) hg (Kd.R_ne HO_7.out BK477.out (by decide))); replace BK479 := Aside0.mk (blk_grown (blk_x BK479.out) hg (Kd.R_ne HO_7.out BK479.out (by decide))); replace HO482 := Aside0.mk (Kd.R_after (ok := (fun _ => True)) (Kd.R_x HO482.out) hg hat); replace HB := Aside0.mk (hb); have HO486 := Aside0.mk (ho); clear HO_7; clear ho hb hg hat))
         go_roundg kj7
         case measure => have := HK1.out; have := HJ7.out; omega
         case rel => exact ⟨(y484), (t483), (wrap64 (x9_1 + 1)), (by first | rfl | (simp; done) | (simp [*]; done)), (by first | rfl | (simp; done) | (simp [*]; done)), H', ⟨by have := HK1.out; have := HJ7.out; omega⟩, ⟨by (with_reducible repeat (first | apply Kd.R_alloc | apply Kd.R_drewN | apply Kd.R_drew)); exact Kd.R_mono HO486.out (fun _ hk => trivial)⟩, ⟨blk_x BK477.out⟩, ⟨by exact below_y HB.out⟩⟩
        ·
         rw [if_neg c23] at H; exact absurd H (by simp)
    ·
     rw [if_neg c7] at H; exact absurd H (by simp)
   ·
    rw [if_neg c6] at H; have c6b0 : decide (x9_1 < (l0_5.length : Int)) = false := decide_eq_false c6; clear c6; obtain rfl := Option.some.inj H; obtain ⟨hfz29_0, _, _, _, _, _, _, _⟩ := cf7 BK477; go_wp2; go_ret; exact ⟨_, by first | rfl | (simp [errW_none, errW_some] <;> rfl) | (simp [*, errW_none, errW_some] <;> rfl), by (with_reducible repeat (first | apply Kd.R_alloc | apply Kd.R_drewN | apply Kd.R_drew)); exact HO_7.out, by exact below_y HB.out⟩
def swarfref07_sail.l0 : Nat → List Int → List Int → List (S56) → Int → Int → Int → Int → List (S85) → Int → List (S59) → List (S79) → Option (Int × (List (S56)))
 | 0, _, _, _, _, _, _, _, _, _, _, _ => none
 | k + 1, x8, x9, x10, x11, x488000, x488001, x488002, x488003, x488004, x488005, x488006 => if x11 < (x9.length : Int) then (if 0 ≤ x11 then (if x11 < (x8.length : Int) then (if x10.length < 8796093022208 then (swarfref07_sail.l0 k x8 x9 (x10 ++ [(⟨rd x8 x11, rd x9 x11⟩ : S56)]) (wrap64 (x11 + 1)) x488000 x488001 x488002 x488003 x488004 x488005 x488006) else (none)) else (none)) else (none)) else (if (x9.length : Int) = (x488005.length : Int) then (some (1, x10)) else (if (x8.length : Int) < (x488005.length : Int) then (some (2, x10)) else (some (3, x10))))
def swarfref07_sail.f (k : Nat) (a0_0 : Int) (a0_1 : Int) (a0_2 : Int) (l0_3 : List (S85)) (a0_4 : Int) (l0_5 : List (S59)) (l0_6 : List (S79)) (l1 : List Int) : Option (Int × (List (S56))) := (swarfref07_drafts.f k a0_0 a0_1 a0_2 l0_3 a0_4 l0_5 l0_6 l1).bind fun bt488 => ((swarfref07_way.f k a0_0 a0_1 a0_2 l0_3 a0_4 l0_5 l0_6 (wrap64 ((mx bt488.1 bt488.2.2.1) + (wrap64 (1000 * a0_1)))) true).bind fun t494 => ((swarfref07_way.f k a0_0 a0_1 a0_2 l0_3 a0_4 l0_5 l0_6 (wrap64 ((mx bt488.2.1 bt488.2.2.2) + (wrap64 (1000 * a0_1)))) false).bind fun t497 => (swarfref07_sail.l0 k t494 t497 ([] : List (S56)) 0 a0_0 a0_1 a0_2 l0_3 a0_4 l0_5 l0_6)))
def swarfref07_sail.T8 : Bool × List (List Nat × List Nat) := (true, [([], []), ([], []), ([], []), ([1, 2], [1, 2]), ([3], [3]), ([], []), ([], []), ([5, 6], [5, 6]), ([7], [7]), ([4, 8], [4, 8]), ([9], [9]), ([0, 10], [0, 10]), ([11, 11, 0, 1, 2, 3, 4, 5, 6, 7, 8, 9, 10, 11], [0, 11])])
def swarfref07_sail.B8 : List Nat := [0, 0, 0, 6, 14, 0, 0, 96, 224, 510, 1022, 2047, 4095]
theorem swarfref07_sail.tab8 : rtab .any (opsOf Try.f57 8) = swarfref07_sail.T8 := by kernel_rfl
theorem swarfref07_sail.bits8 : waitsOk swarfref07_sail.T8.2 swarfref07_sail.B8 = true := by kernel_rfl
set_option maxHeartbeats 8000000 in
set_option maxRecDepth 100000 in
theorem swarfref07_sail.calls (k : Nat) (a0_0 : Int) (a0_1 : Int) (a0_2 : Int) (A0_3 : Option Addr) (c0_3 : Nat) (l0_3 : List (S85)) (a0_4 : Int) (A0_5 : Option Addr) (c0_5 : Nat) (l0_5 : List (S59)) (A0_6 : Option Addr) (c0_6 : Nat) (l0_6 : List (S79)) (A1 : Option Addr) (c1 : Nat) (l1 : List Int) (r1 : Int) (r2 : List (S56)) (w : World) (hr0_3 : Kd.C k85 w A0_3 l0_3.length l0_3) (hc0_3 : l0_3.length ≤ c0_3) (hr0_5 : Kd.C k59 w A0_5 l0_5.length l0_5) (hc0_5 : l0_5.length ≤ c0_5) (hr0_6 : Kd.C k79 w A0_6 l0_6.length l0_6) (hc0_6 : l0_6.length ≤ c0_6) (hr1 : Kd.C (Kd.int .i64) w A1 l1.length l1) (hc1 : l1.length ≤ c1) (h : swarfref07_sail.f k a0_0 a0_1 a0_2 l0_3 a0_4 l0_5 l0_6 l1 = some (r1, r2)) :
  Calls Try.prog 57 #[.agg #[.int .i64 a0_0, .int .i64 a0_1, .int .i64 a0_2, .slice A0_3 l0_3.length c0_3, .int .i64 a0_4, .slice A0_5 l0_5.length c0_5, .slice A0_6 l0_6.length c0_6], .slice A1 l1.length c1] w fun e w' => ∃ v1_ : Value, e = .returned (.tuple #[.int .i64 r1, v1_]) ∧ Kd.R k56 56 w' w.heap.size (fun _ => True) v1_ r2 ∧ Below w.heap.size w w' := by
 have hu26 := Try.underlying26
 have hu56 := Try.underlying56
 have HR0_3 := Aside0.mk hr0_3
 have HC0_3 := Aside0.mk hc0_3
 clear hr0_3 hc0_3
 have HR0_5 := Aside0.mk hr0_5
 have HC0_5 := Aside0.mk hc0_5
 clear hr0_5 hc0_5
 have HR0_6 := Aside0.mk hr0_6
 have HC0_6 := Aside0.mk hc0_6
 clear hr0_6 hc0_6
 have HR1 := Aside0.mk hr1
 have HC1 := Aside0.mk hc1
 clear hr1 hc1
 have HB := Aside0.mk (Below.refl w.heap.size w)
 have H : ((swarfref07_drafts.f k a0_0 a0_1 a0_2 l0_3 a0_4 l0_5 l0_6 l1).bind fun bt488 => ((swarfref07_way.f k a0_0 a0_1 a0_2 l0_3 a0_4 l0_5 l0_6 (wrap64 ((mx bt488.1 bt488.2.2.1) + (wrap64 (1000 * a0_1)))) true).bind fun t494 => ((swarfref07_way.f k a0_0 a0_1 a0_2 l0_3 a0_4 l0_5 l0_6 (wrap64 ((mx bt488.2.1 bt488.2.2.2) + (wrap64 (1000 * a0_1)))) false).bind fun t497 => (swarfref07_sail.l0 k t494 t497 ([] : List (S56)) 0 a0_0 a0_1 a0_2 l0_3 a0_4 l0_5 l0_6)))) = some (r1, r2) := h
 clear h
 replace H := Option.bind_eq_some_iff.mp H
 obtain ⟨⟨t488, t489, t490, t491⟩, A30, H⟩ := H
 try dsimp only at H
 have A3 := Aside0.mk A30
 clear A30
 obtain ⟨ji4, hji4⟩ : ∃ j_ : Int, (mx t488 t490) = j_ := ⟨_, rfl⟩
 replace H : ((swarfref07_way.f k a0_0 a0_1 a0_2 l0_3 a0_4 l0_5 l0_6 (wrap64 ((ji4) + (wrap64 (1000 * a0_1)))) true).bind fun t494 => ((swarfref07_way.f k a0_0 a0_1 a0_2 l0_3 a0_4 l0_5 l0_6 (wrap64 ((mx t489 t491) + (wrap64 (1000 * a0_1)))) false).bind fun t497 => (swarfref07_sail.l0 k t494 t497 ([] : List (S56)) 0 a0_0 a0_1 a0_2 l0_3 a0_4 l0_5 l0_6))) = some (r1, r2) := by first | (rw [hji4] at H; exact H) | (simp only [hji4] at H ⊢; exact H)
 (try rw [hji4] at A3)
 have hji4_ : (if t488 < t490 then t490 else t488) = ji4 := hji4
 replace H := Option.bind_eq_some_iff.mp H
 obtain ⟨t494, A50, H⟩ := H
 try dsimp only at H
 have A5 := Aside0.mk A50
 clear A50
 obtain ⟨ji6, hji6⟩ : ∃ j_ : Int, (mx t489 t491) = j_ := ⟨_, rfl⟩
 replace H : ((swarfref07_way.f k a0_0 a0_1 a0_2 l0_3 a0_4 l0_5 l0_6 (wrap64 ((ji6) + (wrap64 (1000 * a0_1)))) false).bind fun t497 => (swarfref07_sail.l0 k t494 t497 ([] : List (S56)) 0 a0_0 a0_1 a0_2 l0_3 a0_4 l0_5 l0_6)) = some (r1, r2) := by first | (rw [hji6] at H; exact H) | (simp only [hji6] at H ⊢; exact H)
 (try rw [hji6] at A3)
 (try rw [hji6] at A5)
 have hji6_ : (if t489 < t491 then t491 else t489) = ji6 := hji6
 replace H := Option.bind_eq_some_iff.mp H
 obtain ⟨t497, A70, H⟩ := H
 try dsimp only at H
 have A7 := Aside0.mk A70
 clear A70
 have H' := Aside0.mk H
 clear H
 go_enter Try.func57, Try.ntmps57
 go_wp2_with (first | (refine box_r (N := 2) rfl (cs := #[.int .i64 a0_0, .int .i64 a0_1, .int .i64 a0_2, .slice A0_3 l0_3.length c0_3, .int .i64 a0_4, .slice A0_5 l0_5.length c0_5, .slice A0_6 l0_6.length c0_6]) (t := 26) ?_; intro gb487 hg w8 hbox hb; have BK487 := Aside0.mk (hbox); have GW487 := gw_x hg HB; have GE487 := GW487; replace HB := Aside0.mk (below_step (below_x HB.out) hb); clear hb hbox hg; obtain ⟨hfz9_0, _, _, _, _, _, _, _⟩ := cf7 BK487) | (refine goesG_x 70 rfl (some 15) Try.func70 #[.agg #[.int .i64 a0_0, .int .i64 a0_1, .int .i64 a0_2, .slice A0_3 l0_3.length c0_3, .int .i64 a0_4, .slice A0_5 l0_5.length c0_5, .slice A0_6 l0_6.length c0_6], .slice A1 l1.length c1] ?_; (with_reducible refine (swarfref07_drafts.calls k a0_0 a0_1 a0_2 _ _ l0_3 a0_4 _ _ l0_5 _ _ l0_6 _ _ l1 t488 t489 t490 t491 _ ?side1 ?side2 ?side3 ?side4 ?side5 ?side6 ?side7 ?side8 A3.out).mono ?_); (case side1 => exact Kd.C_x HR0_3.out HB.out); (case side2 => exact HC0_3.out); (case side3 => exact Kd.C_x HR0_5.out HB.out); (case side4 => exact HC0_5.out); (case side5 => exact Kd.C_x HR0_6.out HB.out); (case side6 => exact HC0_6.out); (case side7 => exact Kd.C_x HR1.out HB.out); (case side8 => exact HC1.out); rintro e w10 ⟨rfl, hb⟩; refine ⟨_, rfl, ?_⟩; replace BK487 := bk_x BK487 hb; replace HB := bl_x HB hb; (try clear hb); (try clear hk); (try clear hi)) | (refine box_r (N := 6) rfl (cs := #[.int .i64 0, .int .i64 0]) (t := 56) ?_; intro gb492 hg w11 hbox hb; have BK492 := Aside0.mk (hbox); have GW492 := gw_x hg HB; have GE492 := GW492; replace HB := bl_x HB hb; have NB487_492 := nb_x hg BK487; have NB492_487 := nb_y hg BK487; replace BK487 := bk_x BK487 hb; clear hb hbox hg) | (refine box_r (N := 7) rfl (cs := #[.int .i64 0, .int .i64 0]) (t := 56) ?_; intro gb493 hg w12 hbox hb; have BK493 := Aside0.mk (hbox); have GW493 := gw_x hg HB; have GE493 := GW493; replace HB := bl_x HB hb; have NB487_493 := nb_x hg BK487; have NB493_487 := nb_y hg BK487; replace BK487 := bk_x BK487 hb; have NB492_493 := nb_x hg BK492; have NB493_492 := nb_y hg BK492; replace BK492 := bk_x BK492 hb; clear hb hbox hg; have hnb13 := NB492_487.out; have hnc13 := NB487_492.out; have hnb14 := NB492_493.out; have hnc14 := NB493_492.out; obtain ⟨hfz15_0, _, _⟩ := cf2 BK492; have hnb16 := NB493_487.out; have hnc16 := NB487_493.out; obtain ⟨hfz17_0, _, _⟩ := cf2 BK493; obtain ⟨hfz18_0, _, _, _, _, _, _, _⟩ := cf7 BK487) | ((with_reducible refine gate_callee (f := 81) rfl ?_); refine goesL_ (some 28) rfl rfl Try.func81 (by kernel_rfl) rfl #[.agg #[.int .i64 a0_0, .int .i64 a0_1, .int .i64 a0_2, .slice A0_3 l0_3.length c0_3, .int .i64 a0_4, .slice A0_5 l0_5.length c0_5, .slice A0_6 l0_6.length c0_6], .int .i64 (wrap64 ((ji4) + (wrap64 (1000 * a0_1)))), .bool true] rfl (by (try simp only [List.map_toArray, List.map_cons, List.map_nil]); first | done | (simp only [hji4]; rfl) | rfl | (simp only [List.length_drop, List.length_take]; rfl)) ?_; (with_reducible refine (swarfref07_way.calls k a0_0 a0_1 a0_2 _ _ l0_3 a0_4 _ _ l0_5 _ _ l0_6 (wrap64 ((ji4) + (wrap64 (1000 * a0_1)))) true t494 _ ?side1 ?side2 ?side3 ?side4 ?side5 ?side6 A5.out).mono ?_); (case side1 => exact Kd.C_below HR0_3.out (by exact below_y HB.out)); (case side2 => exact HC0_3.out); (case side3 => exact Kd.C_below HR0_5.out (by exact below_y HB.out)); (case side4 => exact HC0_5.out); (case side5 => exact Kd.C_below HR0_6.out (by exact below_y HB.out)); (case side6 => exact HC0_6.out); rintro e w19 ⟨v495, rfl, ho0, hb⟩; refine ⟨_, rfl, ?_⟩; have HO496 := Aside0.mk (Kd.R_lower ho0 (below_size (by exact below_y HB.out))); replace BK487 := Aside0.mk (blk_below (g := gb487) (o := .cells #[.int .i64 a0_0, .int .i64 a0_1, .int .i64 a0_2, .slice A0_3 l0_3.length c0_3, .int .i64 a0_4, .slice A0_5 l0_5.length c0_5, .slice A0_6 l0_6.length c0_6] 26 (0, 0)) (blk_w BK487.out) hb); replace BK492 := Aside0.mk (blk_below (g := gb492) (o := .cells #[.int .i64 t488, .int .i64 t489] 56 (0, 0)) (blk_z BK492.out) hb); replace BK493 := Aside0.mk (blk_below (g := gb493) (o := .cells #[.int .i64 t490, .int .i64 t491] 56 (0, 0)) (by (with_reducible repeat (first | refine blk_drewN ?_ _ | refine blk_drew ?_ | refine blk_alloc ?_ _)); refine blk_put (cs := #[.int .i64 t490, .int .i64 0]) ?_ 1 _ rfl; (with_reducible repeat (first | refine blk_drewN ?_ _ | refine blk_drew ?_ | refine blk_alloc ?_ _)); refine blk_put (cs := #[.int .i64 0, .int .i64 0]) ?_ 0 _ rfl; exact blk_w BK493.out) hb); replace HB := bl_x HB hb; (try clear hb); (try clear hk); (try clear hi); (try clear ho0); obtain ⟨hfz20_0, _, _, _, _, _, _, _⟩ := cf7 BK487; obtain ⟨hfz21_0, _, _⟩ := cf2 BK492; obtain ⟨hfz22_0, _, _⟩ := cf2 BK493) | ((with_reducible refine gate_callee (f := 81) rfl ?_); refine goesL_ (some 39) rfl rfl Try.func81 (by kernel_rfl) rfl #[.agg #[.int .i64 a0_0, .int .i64 a0_1, .int .i64 a0_2, .slice A0_3 l0_3.length c0_3, .int .i64 a0_4, .slice A0_5 l0_5.length c0_5, .slice A0_6 l0_6.length c0_6], .int .i64 (wrap64 ((ji6) + (wrap64 (1000 * a0_1)))), .bool false] rfl (by (try simp only [List.map_toArray, List.map_cons, List.map_nil]); first | done | (simp only [hji6]; rfl) | rfl | (simp only [List.length_drop, List.length_take]; rfl)) ?_; (with_reducible refine (swarfref07_way.calls k a0_0 a0_1 a0_2 _ _ l0_3 a0_4 _ _ l0_5 _ _ l0_6 (wrap64 ((ji6) + (wrap64 (1000 * a0_1)))) false t497 _ ?side1 ?side2 ?side3 ?side4 ?side5 ?side6 A7.out).mono ?_); (case side1 => exact Kd.C_x HR0_3.out HB.out); (case side2 => exact HC0_3.out); (case side3 => exact Kd.C_x HR0_5.out HB.out); (case side4 => exact HC0_5.out); (case side5 => exact Kd.C_x HR0_6.out HB.out); (case side6 => exact HC0_6.out); rintro e w23 ⟨v498, rfl, ho0, hb⟩; refine ⟨_, rfl, ?_⟩; have HO499 := Aside0.mk (Kd.R_lower (Kd.R_new' ho0 (Kd.R_lt (Kd.R_x HO496.out))) (below_size (by exact below_y HB.out))); replace HO496 := Aside0.mk (Kd.R_elder' (Kd.R_x HO496.out) (Kd.R_base ho0) hb); replace BK487 := bk_x BK487 hb; replace BK492 := bk_x BK492 hb; replace BK493 := bk_x BK493 hb; replace HB := bl_x HB hb; (try clear hb); (try clear hk); (try clear hi); (try clear ho0)))
 go_loopg [10, 11] k (fun kq v10 v11 w' => ∃ (x10_1 : List (S56)) (x11_1 : Int), v11 = .int .i64 x11_1 ∧ Aside0 (swarfref07_sail.l0 kq t494 t497 x10_1 x11_1 a0_0 a0_1 a0_2 l0_3 a0_4 l0_5 l0_6 = some (r1, r2)) ∧ Aside0 (kq ≤ k) ∧ Aside0 (Kd.R (Kd.int .i64) 3 w' w.heap.size (fun k_ => some k_ ≠ (v498 : Value).ownBlock) v495 t494) ∧ Aside0 (Kd.R (Kd.int .i64) 3 w' w.heap.size (fun k_ => some k_ ≠ (v495 : Value).ownBlock) v498 t497) ∧ Aside0 (Kd.R k56 56 w' w.heap.size (fun k_ => k_ ≠ gb492 ∧ k_ ≠ gb493) v10 x10_1) ∧ Aside0 (w'.heap[gb487]? = some (.cells #[.int .i64 a0_0, .int .i64 a0_1, .int .i64 a0_2, (.slice A0_3 l0_3.length c0_3), .int .i64 a0_4, (.slice A0_5 l0_5.length c0_5), (.slice A0_6 l0_6.length c0_6)] 26 (0, 0))) ∧ Aside0 (w'.heap[gb492]? = some (.cells #[.int .i64 t488, .int .i64 t489] 56 (0, 0))) ∧ Aside0 (w'.heap[gb493]? = some (.cells #[.int .i64 t490, .int .i64 t491] 56 (0, 0))) ∧ Aside0 (Below w.heap.size w w'))
 case atStart => exact ⟨(([] : List (S56))), (0), (by first | rfl | (simp; done) | (simp [*]; done)), H', ⟨Nat.le_refl _⟩, ⟨by (with_reducible repeat (first | apply Kd.R_alloc | apply Kd.R_drewN | apply Kd.R_drew)); exact Kd.R_mono HO496.out (fun _ hk => hk.2)⟩, ⟨by (with_reducible repeat (first | apply Kd.R_alloc | apply Kd.R_drewN | apply Kd.R_drew)); exact Kd.R_mono HO499.out (fun _ hk => hk.2)⟩, ⟨by first | exact Kd.R_nil _ _ _ _ _ | exact Kd.N_nil _ _ _ _ _ | exact Kd.V_nil _ _ _ _ _ | exact Kd.Q_nil _ _ _ _ _ | exact Kd.S_nil _ _ _ _ _⟩, ⟨blk_x BK487.out⟩, ⟨blk_x BK492.out⟩, ⟨blk_x BK493.out⟩, ⟨by exact below_y HB.out⟩⟩
 case round =>
  clear H'; obtain ⟨x10_1, x11_1, rfl, HA, HK1, HO_8, HO_9, HO_10, BK487, BK492, BK493, HB⟩ := hrel; cases gk with
  | zero => exact absurd HA.out (by simp [swarfref07_sail.l0])
  | succ k1 =>
   have H := HA.out; clear HA; simp only [swarfref07_sail.l0] at H; by_cases c24 : x11_1 < (t497.length : Int)
   ·
    rw [if_pos c24] at H; have c24b0 : decide (x11_1 < (t497.length : Int)) = true := decide_eq_true c24; clear c24; by_cases c25 : 0 ≤ x11_1
    ·
     rw [if_pos c25] at H; have c25b0 : decide (0 ≤ x11_1) = true := decide_eq_true c25; clear c25; by_cases c26 : x11_1 < (t494.length : Int)
     ·
      rw [if_pos c26] at H; have c26b0 : decide (x11_1 < (t494.length : Int)) = true := decide_eq_true c26; clear c26; by_cases c27 : x10_1.length < 8796093022208
      ·
       rw [if_pos c27] at H; have LMc27 := Aside0.mk c27; clear c27; obtain ⟨y502, hy502⟩ : ∃ y_ : List (S56), y_ = (x10_1 ++ [(⟨rd t494 x11_1, rd t497 x11_1⟩ : S56)]) := ⟨_, rfl⟩; (replace H : (swarfref07_sail.l0 k1 t494 t497 y502 (wrap64 (x11_1 + 1)) a0_0 a0_1 a0_2 l0_3 a0_4 l0_5 l0_6) = some (r1, r2) := by first | (rw [hy502]; with_reducible exact H) | (have H2_ := (Option.bind_some _ _).symm.trans H; rw [hy502]; with_reducible exact H2_) | (have H2_ := (Option.bind_some _ _).symm.trans H; with_reducible exact H2_) | with_reducible exact H | (rw [hy502]; exact H) | exact H); have Ny502 := Aside0.mk hy502; clear hy502; have H' := Aside0.mk H; clear H; obtain ⟨Ao28, co28, eo28⟩ := Kd.R_slice HO_9.out; subst eo28
       try go_wp2
       replace HO_8 := Aside0.mk (Kd.R_drew HO_8.out); replace HO_9 := Aside0.mk (Kd.R_drew HO_9.out); replace HO_10 := Aside0.mk (Kd.R_drew HO_10.out); replace BK487 := Aside0.mk (blk_drew BK487.out); replace BK492 := Aside0.mk (blk_drew BK492.out); replace BK493 := Aside0.mk (blk_drew BK493.out); replace HB := Aside0.mk (below_drew1 HB.out); obtain ⟨Ao30, co30, eo30⟩ := Kd.R_slice HO_8.out
       (first | subst eo30 | (injection eo30 with f1_ f2_ f3_; have f4_ := f1_.symm; have f5_ := f3_.symm; clear f1_ f2_ f3_; subst f4_; subst f5_))
       have p500 : 0 ≤ (x11_1 : Int) := of_x; have q500 : x11_1 < (t494.length : Int) := of_x; obtain ⟨ad500, e500, hx500_0⟩ := Kd.at_int (Kd.R_reads' HO_8.out).2.2 x11_1 p500 q500; (cases e500); replace p500 := eq_true p500; replace q500 := eq_true q500; have p501 : 0 ≤ (x11_1 : Int) := of_x; have q501 : x11_1 < (t497.length : Int) := of_x; obtain ⟨ad501, e501, hx501_0⟩ := Kd.at_int (Kd.R_reads' HO_9.out).2.2 x11_1 p501 q501; (cases e501); replace p501 := eq_true p501; replace q501 := eq_true q501; refine start_ (n := 13) (S := fun w' => w'.cell? (ad500.add (x11_1).toNat) = some (.int .i64 (rd t494 x11_1)) ∧ w'.cell? (ad501.add (x11_1).toNat) = some (.int .i64 (rd t497 x11_1))) (ds := [10]) #[false, false, false, false, false, false, false, false, false, false, false, false, false] (by kernel_rfl) rfl rfl ⟨hx500_0, hx501_0⟩ (fun hHeld => ?_); refine with_tabW swarfref07_sail.tab8 swarfref07_sail.bits8 (fun HT_ HW_ => ?_); generalize wr.drew = w29 at HO_8 HO_9 HO_10 BK487 BK492 BK493 HB hx500_0 hx501_0 hHeld ⊢; refine pure_t 0 (some 46) (bz 13 1) HT_ ?_; refine pure_t 1 (some 47) (bz 13 3) HT_ ?_; refine pure_t 2 (some 48) (bz 13 7) HT_ ?_; refine pure_t 3 (some 49) (bz 13 15) HT_ ?_; refine pure_t 5 (some 51) (bz 13 47) HT_ ?_; refine pure_t 6 (some 52) (bz 13 111) HT_ ?_; refine pure_t 7 (some 53) (bz 13 239) HT_ ?_; refine take_t 4 (some 50) (bz 13 255) HT_ HW_ hHeld ?_; refine take_t 8 (some 54) (bz 13 511) HT_ HW_ hHeld ?_; refine pure_t 9 (some 55) (bz 13 1023) HT_ ?_; refine last_ (i := 10) (N := some 56) (bz 13 2047) rfl rfl (one_of HT_.out (by kernel_rfl)) (by decide) (fun K hK => ?_); refine value_ (w1 := ?_) (v := ?_) (by rfl) rfl ?_ ?_; rotate_left 2
       ·
        go_simp
        constructor
        ·
         rfl
        ·
         rfl
       refine hK.out _ _ ?_; clear hK K; refine norm_y (some 56) ?_; (refine one_t 11 (some 57) (bz 13 4095) HT_ fun K hK => ?_); refine Kd.R_append_step k56 (w0 := w) w.heap.size (by rfl) (.tmp 46) (.tmp 56) 39 56 (.agg #[(.int .i64 0), (.int .i64 0)]) 16 rfl Try.underlying39 info56 rfl (by decide) (by omega) u10 x10_1 (⟨rd t494 x11_1, rd t497 x11_1⟩ : S56) [.int .i64 (rd t494 x11_1), .int .i64 (rd t497 x11_1)] (fun k_ => k_ ≠ gb492 ∧ k_ ≠ gb493) (fun _ => False) rfl rfl ?aP (fun _ hk => hk.elim) ?aF ?aO ?aB ?aS ?aL ?_
       (case aP => exact k56_mkM _ _ _ (⟨rd t494 x11_1, rd t497 x11_1⟩ : S56))
       (case aB => exact (by exact below_y HB.out))
       (case aF => exact (fun k_ hk => ⟨Kd.freshB (g := gb492) (o := .cells #[.int .i64 t488, .int .i64 t489] 56 (0, 0)) (blk_x BK492.out) k_ hk, Kd.freshB (g := gb493) (o := .cells #[.int .i64 t490, .int .i64 t491] 56 (0, 0)) (blk_x BK493.out) k_ hk⟩))
       (case aO => exact (Kd.R_x HO_10.out))
       (case aS => exact (below_size (by exact below_y HB.out)))
       (case aL => have := LMc27.out; omega)
       intro v503 w31 ho hb hg hat
       (first | have HS0_ := cell_grown hg (hHeld.1) (by first | exact (by obtain ⟨_, hz_⟩ := Kd.R_typed HO_8.out _ rfl; exact Kd.R_ne HO_10.out hz_ (by decide)) | (rw [add_block]; exact (by obtain ⟨_, hz_⟩ := Kd.R_typed HO_8.out _ rfl; exact Kd.R_ne HO_10.out hz_ (by decide))) | (show some (Addr.add _ _).block ≠ _; rw [add_block]; exact (by obtain ⟨_, hz_⟩ := Kd.R_typed HO_8.out _ rfl; exact Kd.R_ne HO_10.out hz_ (by decide)))) | have HS0_ := cell_grown hg (cell_unalloc (hHeld.1) (by first | exact (by obtain ⟨_, hz_⟩ := Kd.R_typed HO_8.out _ rfl; exact blk_lt hz_) | (rw [add_block]; exact (by obtain ⟨_, hz_⟩ := Kd.R_typed HO_8.out _ rfl; exact blk_lt hz_)) | (show (Addr.add _ _).block < _; rw [add_block]; exact (by obtain ⟨_, hz_⟩ := Kd.R_typed HO_8.out _ rfl; exact blk_lt hz_)))) (by first | exact (by obtain ⟨_, hz_⟩ := Kd.R_typed HO_8.out _ rfl; exact Kd.R_ne HO_10.out hz_ (by decide)) | (rw [add_block]; exact (by obtain ⟨_, hz_⟩ := Kd.R_typed HO_8.out _ rfl; exact Kd.R_ne HO_10.out hz_ (by decide))) | (show some (Addr.add _ _).block ≠ _; rw [add_block]; exact (by obtain ⟨_, hz_⟩ := Kd.R_typed HO_8.out _ rfl; exact Kd.R_ne HO_10.out hz_ (by decide)))))
       (first | have HS1_ := cell_grown hg (hHeld.2) (by first | exact (by obtain ⟨_, hz_⟩ := Kd.R_typed HO_9.out _ rfl; exact Kd.R_ne HO_10.out hz_ (by decide)) | (rw [add_block]; exact (by obtain ⟨_, hz_⟩ := Kd.R_typed HO_9.out _ rfl; exact Kd.R_ne HO_10.out hz_ (by decide))) | (show some (Addr.add _ _).block ≠ _; rw [add_block]; exact (by obtain ⟨_, hz_⟩ := Kd.R_typed HO_9.out _ rfl; exact Kd.R_ne HO_10.out hz_ (by decide)))) | have HS1_ := cell_grown hg (cell_unalloc (hHeld.2) (by first | exact (by obtain ⟨_, hz_⟩ := Kd.R_typed HO_9.out _ rfl; exact blk_lt hz_) | (rw [add_block]; exact (by obtain ⟨_, hz_⟩ := Kd.R_typed HO_9.out _ rfl; exact blk_lt hz_)) | (show (Addr.add _ _).block < _; rw [add_block]; exact (by obtain ⟨_, hz_⟩ := Kd.R_typed HO_9.out _ rfl; exact blk_lt hz_)))) (by first | exact (by obtain ⟨_, hz_⟩ := Kd.R_typed HO_9.out _ rfl; exact Kd.R_ne HO_10.out hz_ (by decide)) | (rw [add_block]; exact (by obtain ⟨_, hz_⟩ := Kd.R_typed HO_9.out _ rfl; exact Kd.R_ne HO_10.out hz_ (by decide))) | (show some (Addr.add _ _).block ≠ _; rw [add_block]; exact (by obtain ⟨_, hz_⟩ := Kd.R_typed HO_9.out _ rfl; exact Kd.R_ne HO_10.out hz_ (by decide)))))
       rw [← Ny502.out] at ho; replace HO_8 := Aside0.mk (Kd.R_over' (Kd.R_x HO_8.out) (Kd.R_typed (Kd.R_x HO_10.out)) (by decide) hg); replace HO_9 := Aside0.mk (Kd.R_over' (Kd.R_x HO_9.out) (Kd.R_typed (Kd.R_x HO_10.out)) (by decide) hg); replace BK487 := Aside0.mk (blk_grown (blk_x BK487.out) hg (Kd.R_ne HO_10.out BK487.out (by decide))); replace BK492 := Aside0.mk (blk_grown (blk_x BK492.out) hg (Kd.R_away HO_10.out (fun _ hk => hk.1))); replace BK493 := Aside0.mk (blk_grown (blk_x BK493.out) hg (Kd.R_away HO_10.out (fun _ hk => hk.2))); replace HB := Aside0.mk (hb); have HO504 := Aside0.mk (ho); clear HO_10 ho hb hg hat; refine hK.out _ _ ⟨HS0_, HS1_⟩ (fun hHeld => ?_); clear hK K; refine norm_y (some 57) ?_; refine pure_t 12 (some 10) (bz 13 8191) HT_ ?_; refine done_ (done_of HT_.out (by kernel_rfl)) ?_
       try go_wp2
       go_roundg k1
       case measure => have := HK1.out; omega
       case rel => exact ⟨(y502), (wrap64 (x11_1 + 1)), (by first | rfl | (simp; done) | (simp [*]; done)), H', ⟨by have := HK1.out; omega⟩, ⟨by (with_reducible repeat (first | apply Kd.R_alloc | apply Kd.R_drewN | apply Kd.R_drew)); exact HO_8.out⟩, ⟨by (with_reducible repeat (first | apply Kd.R_alloc | apply Kd.R_drewN | apply Kd.R_drew)); exact HO_9.out⟩, ⟨by (with_reducible repeat (first | apply Kd.R_alloc | apply Kd.R_drewN | apply Kd.R_drew)); exact HO504.out⟩, ⟨blk_x BK487.out⟩, ⟨blk_x BK492.out⟩, ⟨blk_x BK493.out⟩, ⟨by exact below_y HB.out⟩⟩
      ·
       rw [if_neg c27] at H; exact absurd H (by simp)
     ·
      rw [if_neg c26] at H; exact absurd H (by simp)
    ·
     rw [if_neg c25] at H; exact absurd H (by simp)
   ·
    rw [if_neg c24] at H; have c24b0 : decide (x11_1 < (t497.length : Int)) = false := decide_eq_false c24; clear c24; by_cases c32 : (t497.length : Int) = (l0_5.length : Int)
    ·
     rw [if_pos c32] at H; have c32b0 : ((t497.length : Int) == (l0_5.length : Int)) = true := beq_iff_eq.mpr c32; have c32b1 : ((t497.length : Int) != (l0_5.length : Int)) = false := bne_eq_false_iff_eq.mpr c32; (have c32b2 : (t497.length == l0_5.length) = true := by first | simpa using c32 | (simp at c32 ⊢; omega)); clear c32; simp only [Option.some.injEq, Prod.mk.injEq] at H; obtain ⟨rfl, rfl⟩ := H; obtain ⟨Ao33, co33, eo33⟩ := Kd.R_slice HO_9.out; subst eo33; have hnb34 := NB487_492.out; have hnc34 := NB492_487.out; have hnb35 := NB487_493.out; have hnc35 := NB493_487.out; obtain ⟨hfz36_0, _, _, _, _, _, _, _⟩ := cf7 BK487; go_wp2
     go_ret2
     exact ⟨_, by first | rfl | (simp [errW_none, errW_some] <;> rfl) | (simp only [← hji4, ← hji6]; first | rfl | (simp [errW_none, errW_some] <;> rfl)) | (simp [*, errW_none, errW_some] <;> rfl), by (with_reducible repeat (first | apply Kd.R_alloc | apply Kd.R_drewN | apply Kd.R_drew)); exact Kd.R_mono HO_10.out (fun _ hk => trivial), by exact below_y HB.out⟩
    ·
     rw [if_neg c32] at H; have c32b0 : ((t497.length : Int) == (l0_5.length : Int)) = false := beq_eq_false_iff_ne.mpr c32; have c32b1 : ((t497.length : Int) != (l0_5.length : Int)) = true := bne_iff_ne.mpr c32; (have c32b2 : (t497.length == l0_5.length) = false := by first | simpa using c32 | (simp at c32 ⊢; omega)); by_cases c37 : (t494.length : Int) < (l0_5.length : Int)
     ·
      rw [if_pos c37] at H; have c37b0 : decide ((t494.length : Int) < (l0_5.length : Int)) = true := decide_eq_true c37; have c37b1 : decide (t494.length < l0_5.length) = true := decide_eq_true (Int.ofNat_lt.mp c37); clear c37; simp only [Option.some.injEq, Prod.mk.injEq] at H; obtain ⟨rfl, rfl⟩ := H; obtain ⟨Ao38, co38, eo38⟩ := Kd.R_slice HO_9.out; subst eo38; have hnb39 := NB487_492.out; have hnc39 := NB492_487.out; have hnb40 := NB487_493.out; have hnc40 := NB493_487.out; obtain ⟨hfz41_0, _, _, _, _, _, _, _⟩ := cf7 BK487; obtain ⟨Ao42, co42, eo42⟩ := Kd.R_slice HO_8.out; subst eo42; go_wp2
      go_ret2
      exact ⟨_, by first | rfl | (simp [errW_none, errW_some] <;> rfl) | (simp only [← hji4, ← hji6]; first | rfl | (simp [errW_none, errW_some] <;> rfl)) | (simp [*, errW_none, errW_some] <;> rfl), by (with_reducible repeat (first | apply Kd.R_alloc | apply Kd.R_drewN | apply Kd.R_drew)); exact Kd.R_mono HO_10.out (fun _ hk => trivial), by exact below_y HB.out⟩
     ·
      rw [if_neg c37] at H; have c37b0 : decide ((t494.length : Int) < (l0_5.length : Int)) = false := decide_eq_false c37; have c37b1 : decide (t494.length < l0_5.length) = false := decide_eq_false (fun h => c37 (Int.ofNat_lt.mpr h)); clear c37; simp only [Option.some.injEq, Prod.mk.injEq] at H; obtain ⟨rfl, rfl⟩ := H; obtain ⟨Ao43, co43, eo43⟩ := Kd.R_slice HO_9.out; subst eo43; have hnb44 := NB487_492.out; have hnc44 := NB492_487.out; have hnb45 := NB487_493.out; have hnc45 := NB493_487.out; obtain ⟨hfz46_0, _, _, _, _, _, _, _⟩ := cf7 BK487; obtain ⟨Ao47, co47, eo47⟩ := Kd.R_slice HO_8.out; subst eo47; go_wp2
      go_ret2
      exact ⟨_, by first | rfl | (simp [errW_none, errW_some] <;> rfl) | (simp only [← hji4, ← hji6]; first | rfl | (simp [errW_none, errW_some] <;> rfl)) | (simp [*, errW_none, errW_some] <;> rfl), by (with_reducible repeat (first | apply Kd.R_alloc | apply Kd.R_drewN | apply Kd.R_drew)); exact Kd.R_mono HO_10.out (fun _ hk => trivial), by exact below_y HB.out⟩
def swarfref07_Sail.f (k : Nat) (a0_0 : Int) (a0_1 : Int) (a0_2 : Int) (l0_3 : List (S85)) (a0_4 : Int) (l0_5 : List (S59)) (l0_6 : List (S79)) (l1 : List Int) : Option (Int × (List (S56)) × Int) := (swarfref07_CheckStowage.f k a0_0 a0_1 a0_2 l0_3 a0_4 l0_5 l0_6 l1).bind fun t506 => (if t506 = 0 then ((swarfref07_sail.f k a0_0 a0_1 a0_2 l0_3 a0_4 l0_5 l0_6 l1).bind fun bt507 => (some (bt507.1, bt507.2, 0))) else (some (0, ([] : List (S56)), t506)))
set_option maxHeartbeats 8000000 in
set_option maxRecDepth 100000 in
theorem swarfref07_Sail.calls (k : Nat) (a0_0 : Int) (a0_1 : Int) (a0_2 : Int) (A0_3 : Option Addr) (c0_3 : Nat) (l0_3 : List (S85)) (a0_4 : Int) (A0_5 : Option Addr) (c0_5 : Nat) (l0_5 : List (S59)) (A0_6 : Option Addr) (c0_6 : Nat) (l0_6 : List (S79)) (A1 : Option Addr) (c1 : Nat) (l1 : List Int) (r1 : Int) (r2 : List (S56)) (r3 : Int) (w : World) (hr0_3 : Kd.C k85 w A0_3 l0_3.length l0_3) (hc0_3 : l0_3.length ≤ c0_3) (hr0_5 : Kd.C k59 w A0_5 l0_5.length l0_5) (hc0_5 : l0_5.length ≤ c0_5) (hr0_6 : Kd.C k79 w A0_6 l0_6.length l0_6) (hc0_6 : l0_6.length ≤ c0_6) (hr1 : Kd.C (Kd.int .i64) w A1 l1.length l1) (hc1 : l1.length ≤ c1) (h : swarfref07_Sail.f k a0_0 a0_1 a0_2 l0_3 a0_4 l0_5 l0_6 l1 = some (r1, r2, r3)) :
  Calls Try.prog 23 #[.agg #[.int .i64 a0_0, .int .i64 a0_1, .int .i64 a0_2, .slice A0_3 l0_3.length c0_3, .int .i64 a0_4, .slice A0_5 l0_5.length c0_5, .slice A0_6 l0_6.length c0_6], .slice A1 l1.length c1] w fun e w' => ∃ v1_ : Value, e = .returned (.tuple #[.int .i64 r1, v1_, .int .i64 r3]) ∧ Kd.R k56 56 w' w.heap.size (fun _ => True) v1_ r2 ∧ Below w.heap.size w w' := by
 have hu26 := Try.underlying26
 have HR0_3 := Aside0.mk hr0_3
 have HC0_3 := Aside0.mk hc0_3
 clear hr0_3 hc0_3
 have HR0_5 := Aside0.mk hr0_5
 have HC0_5 := Aside0.mk hc0_5
 clear hr0_5 hc0_5
 have HR0_6 := Aside0.mk hr0_6
 have HC0_6 := Aside0.mk hc0_6
 clear hr0_6 hc0_6
 have HR1 := Aside0.mk hr1
 have HC1 := Aside0.mk hc1
 clear hr1 hc1
 have HB := Aside0.mk (Below.refl w.heap.size w)
 have H : ((swarfref07_CheckStowage.f k a0_0 a0_1 a0_2 l0_3 a0_4 l0_5 l0_6 l1).bind fun t506 => (if t506 = 0 then ((swarfref07_sail.f k a0_0 a0_1 a0_2 l0_3 a0_4 l0_5 l0_6 l1).bind fun bt507 => (some (bt507.1, bt507.2, 0))) else (some (0, ([] : List (S56)), t506)))) = some (r1, r2, r3) := h
 clear h
 replace H := Option.bind_eq_some_iff.mp H
 obtain ⟨t506, A30, H⟩ := H
 try dsimp only at H
 have A3 := Aside0.mk A30
 clear A30
 by_cases c4 : t506 = 0
 ·
  rw [if_pos c4] at H; have c4b0 : (t506 == 0) = true := beq_iff_eq.mpr c4; have c4b1 : (t506 != 0) = false := bne_eq_false_iff_eq.mpr c4; clear c4; replace H := Option.bind_eq_some_iff.mp H; obtain ⟨⟨t507, t508⟩, A50, H⟩ := H; replace H : (some (t507, t508, 0)) = some (r1, r2, r3) := H; have A5 := Aside0.mk A50; clear A50; simp only [Option.some.injEq, Prod.mk.injEq] at H; obtain ⟨rfl, rfl, rfl⟩ := H; go_enter Try.func23, Try.ntmps23
  go_wp2_with (first | (refine box_r (N := 2) rfl (cs := #[.int .i64 a0_0, .int .i64 a0_1, .int .i64 a0_2, .slice A0_3 l0_3.length c0_3, .int .i64 a0_4, .slice A0_5 l0_5.length c0_5, .slice A0_6 l0_6.length c0_6]) (t := 26) ?_; intro gb505 hg w6 hbox hb; have BK505 := Aside0.mk (hbox); have GW505 := gw_x hg HB; have GE505 := GW505; replace HB := Aside0.mk (below_step (below_x HB.out) hb); clear hb hbox hg; obtain ⟨hfz7_0, _, _, _, _, _, _, _⟩ := cf7 BK505) | (refine goesG_x 41 rfl (some 12) Try.func41 #[.agg #[.int .i64 a0_0, .int .i64 a0_1, .int .i64 a0_2, .slice A0_3 l0_3.length c0_3, .int .i64 a0_4, .slice A0_5 l0_5.length c0_5, .slice A0_6 l0_6.length c0_6], .slice A1 l1.length c1] ?_; (with_reducible refine (swarfref07_CheckStowage.calls k a0_0 a0_1 a0_2 _ _ l0_3 a0_4 _ _ l0_5 _ _ l0_6 _ _ l1 t506 _ ?side1 ?side2 ?side3 ?side4 ?side5 ?side6 ?side7 ?side8 A3.out).mono ?_); (case side1 => exact Kd.C_x HR0_3.out HB.out); (case side2 => exact HC0_3.out); (case side3 => exact Kd.C_x HR0_5.out HB.out); (case side4 => exact HC0_5.out); (case side5 => exact Kd.C_x HR0_6.out HB.out); (case side6 => exact HC0_6.out); (case side7 => exact Kd.C_x HR1.out HB.out); (case side8 => exact HC1.out); rintro e w8 ⟨rfl, hb⟩; refine ⟨_, rfl, ?_⟩; replace BK505 := bk_x BK505 hb; replace HB := bl_x HB hb; (try clear hb); (try clear hk); (try clear hi); obtain ⟨hfz9_0, _, _, _, _, _, _, _⟩ := cf7 BK505) | (refine goesG_x 57 rfl (some 19) Try.func57 #[.agg #[.int .i64 a0_0, .int .i64 a0_1, .int .i64 a0_2, .slice A0_3 l0_3.length c0_3, .int .i64 a0_4, .slice A0_5 l0_5.length c0_5, .slice A0_6 l0_6.length c0_6], .slice A1 l1.length c1] ?_; (with_reducible refine (swarfref07_sail.calls k a0_0 a0_1 a0_2 _ _ l0_3 a0_4 _ _ l0_5 _ _ l0_6 _ _ l1 t507 t508 _ ?side1 ?side2 ?side3 ?side4 ?side5 ?side6 ?side7 ?side8 A5.out).mono ?_); (case side1 => exact Kd.C_x HR0_3.out HB.out); (case side2 => exact HC0_3.out); (case side3 => exact Kd.C_x HR0_5.out HB.out); (case side4 => exact HC0_5.out); (case side5 => exact Kd.C_x HR0_6.out HB.out); (case side6 => exact HC0_6.out); (case side7 => exact Kd.C_x HR1.out HB.out); (case side8 => exact HC1.out); rintro e w10 ⟨v509, rfl, ho0, hb⟩; refine ⟨_, rfl, ?_⟩; have HO510 := Aside0.mk (Kd.R_lower ho0 (below_size (by exact below_y HB.out))); replace BK505 := bk_x BK505 hb; replace HB := bl_x HB hb; (try clear hb); (try clear hk); (try clear hi); (try clear ho0)))
  go_ret3
  exact ⟨_, by first | rfl | (simp [errW_none, errW_some] <;> rfl) | (simp [*, errW_none, errW_some] <;> rfl), by (with_reducible repeat (first | apply Kd.R_alloc | apply Kd.R_drewN | apply Kd.R_drew)); exact HO510.out, by exact below_y HB.out⟩
 ·
  rw [if_neg c4] at H; have c4b0 : (t506 == 0) = false := beq_eq_false_iff_ne.mpr c4; have c4b1 : (t506 != 0) = true := bne_iff_ne.mpr c4; simp only [Option.some.injEq, Prod.mk.injEq] at H; obtain ⟨rfl, rfl, rfl⟩ := H; go_enter Try.func23, Try.ntmps23
  go_wp2_with (first | (refine box_r (N := 2) rfl (cs := #[.int .i64 a0_0, .int .i64 a0_1, .int .i64 a0_2, .slice A0_3 l0_3.length c0_3, .int .i64 a0_4, .slice A0_5 l0_5.length c0_5, .slice A0_6 l0_6.length c0_6]) (t := 26) ?_; intro gb505 hg w11 hbox hb; have BK505 := Aside0.mk (hbox); have GW505 := gw_x hg HB; have GE505 := GW505; replace HB := Aside0.mk (below_step (below_x HB.out) hb); clear hb hbox hg; obtain ⟨hfz12_0, _, _, _, _, _, _, _⟩ := cf7 BK505) | (refine goesG_x 41 rfl (some 12) Try.func41 #[.agg #[.int .i64 a0_0, .int .i64 a0_1, .int .i64 a0_2, .slice A0_3 l0_3.length c0_3, .int .i64 a0_4, .slice A0_5 l0_5.length c0_5, .slice A0_6 l0_6.length c0_6], .slice A1 l1.length c1] ?_; (with_reducible refine (swarfref07_CheckStowage.calls k a0_0 a0_1 a0_2 _ _ l0_3 a0_4 _ _ l0_5 _ _ l0_6 _ _ l1 t506 _ ?side1 ?side2 ?side3 ?side4 ?side5 ?side6 ?side7 ?side8 A3.out).mono ?_); (case side1 => exact Kd.C_x HR0_3.out HB.out); (case side2 => exact HC0_3.out); (case side3 => exact Kd.C_x HR0_5.out HB.out); (case side4 => exact HC0_5.out); (case side5 => exact Kd.C_x HR0_6.out HB.out); (case side6 => exact HC0_6.out); (case side7 => exact Kd.C_x HR1.out HB.out); (case side8 => exact HC1.out); rintro e w13 ⟨rfl, hb⟩; refine ⟨_, rfl, ?_⟩; replace BK505 := bk_x BK505 hb; replace HB := bl_x HB hb; (try clear hb); (try clear hk); (try clear hi)))
  go_ret3
  exact ⟨_, by first | rfl | (simp [errW_none, errW_some] <;> rfl) | (simp [*, errW_none, errW_some] <;> rfl), by first | exact Kd.R_nil _ _ _ _ _ | exact Kd.N_nil _ _ _ _ _ | exact Kd.V_nil _ _ _ _ _ | exact Kd.Q_nil _ _ _ _ _ | exact Kd.S_nil _ _ _ _ _, by exact below_y HB.out⟩
end Go.Proofs.Ytodmemndaaiolaa.PC7
namespace Go.Proofs.Ytodmemndaaiolaa.PC7
set_option linter.unusedVariables false
set_option linter.unusedSimpArgs false
open Go.RowKit Go.Proofs.YtodmemndaaiolaaW.PrintWords Go.Proofs.YtodmemndaaiolaaW.PrintLast Go.Proofs.YtodmemndaaiolaaW.PrintMore
def LevBd (x : S62) : Prop := (0 ≤ x.f0 ∧ x.f0 ≤ 2880) ∧ 0 ≤ x.f1.f0 ∧ x.f1.f0 ≤ x.f1.f1 ∧ x.f1.f1 ≤ 10000
def LevB : List S62 → Prop
  | [] => True
  | [a] => LevBd a
  | a :: b :: r => LevBd a ∧ a.f0 < b.f0 ∧ LevB (b :: r)
structure SillB (s : S59) : Prop where
  tr : 0 ≤ s.f0.f0 ∧ s.f0.f0 ≤ s.f0.f1 ∧ s.f0.f1 ≤ 2880
  ne : 1 ≤ s.f1.length ∧ s.f1.length ≤ 6
  lv : LevB s.f1
  zero : (s.f1.getD 0 z62).f0 = 0
theorem levB_mem : ∀ l : List S62, LevB l → ∀ x, x ∈ l → LevBd x
  | [], _, x, hx => by cases hx
  | [a], h, x, hx => by rw [List.mem_singleton.1 hx]; exact h
  | a :: b :: r, h, x, hx => by
    rcases List.mem_cons.1 hx with rfl | hx
    · exact h.1
    · exact levB_mem (b :: r) h.2.2 x hx
theorem levE_zero : ∀ (l : List S62) (i : Nat) (p : Int), levE i p l = 0 → LevB l ∧ (i = 0 → 0 < l.length → (l.getD 0 z62).f0 = 0) ∧ (0 < i → 0 < l.length → p < (l.getD 0 z62).f0)
  | [], i, p, h => ⟨trivial, fun _ h => by simp at h, fun _ h => by simp at h⟩
  | x :: r, i, p, h => by
    simp only [levE] at h
    by_cases h1 : 0 ≤ x.f0 ∧ x.f0 ≤ 2880
    · rw [if_pos h1] at h
      by_cases h2 : i = 0 ∧ x.f0 ≠ 0
      · rw [if_pos h2] at h; cases h
      · rw [if_neg h2] at h
        by_cases h3 : 0 < i ∧ x.f0 ≤ p
        · rw [if_pos h3] at h; cases h
        · rw [if_neg h3] at h
          by_cases h4 : rangeE x.f1.f0 x.f1.f1 10000 = 0
          · rw [if_pos h4] at h
            obtain ⟨ih, _, ih2⟩ := levE_zero r (i + 1) x.f0 h
            have hb : LevBd x := ⟨h1, rangeE_zero h4⟩
            refine ⟨?_, fun hi _ => ?_, fun hi _ => ?_⟩
            · cases r with
              | nil => exact hb
              | cons y r => exact ⟨hb, by simpa using ih2 (by omega) (by simp), ih⟩
            · simp only [List.getD_cons_zero]; by_cases e : x.f0 = 0
              · exact e
              · exact absurd ⟨hi, e⟩ h2
            · simp only [List.getD_cons_zero]; by_cases e : x.f0 ≤ p
              · exact absurd ⟨hi, e⟩ h3
              · omega
          · rw [if_neg h4] at h; exact absurd h h4
    · rw [if_neg h1] at h; cases h
theorem sillE_zero {s : S59} (h : sillE s = 0) : SillB s := by
  unfold sillE at h
  by_cases h1 : rangeE s.f0.f0 s.f0.f1 2880 = 0
  · rw [if_pos h1] at h
    by_cases h2 : s.f1.length = 0
    · rw [if_pos h2] at h; cases h
    · rw [if_neg h2] at h
      by_cases h3 : s.f1.length > 6
      · rw [if_pos h3] at h; cases h
      · rw [if_neg h3] at h
        obtain ⟨a, b, _⟩ := levE_zero s.f1 0 0 h
        exact ⟨rangeE_zero h1, by omega, a, b rfl (by omega)⟩
  · rw [if_neg h1] at h; exact absurd h h1
theorem sailW_eqB (soon : Bool) (needs : Int) : ∀ (ss : List S59), (∀ s, s ∈ ss → SillB s) → ∀ now, 0 ≤ now → now ≤ 2880 → sailW soon ss now needs = sailL (ss.map (plainS soon)) now needs
  | [], _, _, _, _ => rfl
  | s :: ss, h, now, h0, h1 => by
    obtain ⟨⟨a1, a2, a3⟩, a4, a5, a6⟩ := h s (by simp)
    have hw : wrap64 (now + travelOf soon s) = now + travelOf soon s := by
      unfold travelOf
      cases soon <;> simp only [if_true, Bool.false_eq_true, if_false] <;> exact wrap64_id (by omega) (by omega)
    have htr : 0 ≤ travelOf soon s := by unfold travelOf; cases soon <;> simp <;> omega
    simp only [sailW, List.map_cons, plainS, sailL, hw, passW_eq soon needs s.f1 (fun x hx => (levB_mem _ a5 x hx).2)]
    cases hp : pass (s.f1.map fun l => (l.f0, waterOf soon l)) (now + travelOf soon s) needs with
    | none => rfl
    | some t =>
      have t1 := pass_le _ _ _ _ hp
      have t2 := pass_ge _ _ _ _ hp
      simp only
      rw [sailW_eqB soon needs ss (fun x hx => h x (List.mem_cons_of_mem _ hx)) t (by omega) t1]
theorem rises_B (soon : Bool) : ∀ l : List S62, LevB l → rises (l.map fun l => (l.f0, waterOf soon l))
  | [], _ => trivial
  | [_], _ => trivial
  | a :: b :: r, h => ⟨h.2.1, rises_B soon (b :: r) h.2.2⟩
theorem sillOK_B {s : S59} (h : SillB s) (soon : Bool) : SillOK (plainS soon s) := by
  obtain ⟨⟨a1, a2, a3⟩, ⟨a4, a7⟩, a5, a6⟩ := h
  refine ⟨?_, rises_B soon s.f1 a5, ?_, ?_⟩
  · intro e
    have : s.f1 = [] := by simpa [plainS] using e
    rw [this] at a4; simp at a4
  · cases hs : s.f1 with
    | nil => rw [hs] at a4; simp at a4
    | cons b r => rw [hs] at a6; simpa [plainS, hs, from0] using a6
  · show 0 ≤ travelOf soon s
    unfold travelOf; cases soon <;> simp <;> omega
theorem sillsOK_B {ss : List S59} (h : ∀ s, s ∈ ss → SillB s) (soon : Bool) : ∀ p, p ∈ ss.map (plainS soon) → SillOK p := by
  intro p hp
  obtain ⟨s, hs, rfl⟩ := List.mem_map.1 hp
  exact sillOK_B (h s hs) soon
theorem better_soonB : ∀ (ss : List S59), (∀ s, s ∈ ss → SillB s) → Better (ss.map (plainS false)) (ss.map (plainS true))
  | [], _ => trivial
  | s :: r, h => by
    obtain ⟨⟨a1, a2, a3⟩, a4, a5, a6⟩ := h s (by simp)
    exact ⟨⟨by simpa [travelOf] using a2, fun t => dep_le t s.f1 fun x hx => by simpa [waterOf] using (levB_mem _ a5 x hx).2.2.1⟩, better_soonB r (fun x hx => h x (List.mem_cons_of_mem _ hx))⟩
def HoldB (h : S85) : Prop := (0 ≤ h.f1 ∧ h.f1 ≤ 10000) ∧ (0 ≤ h.f2 ∧ h.f2 ≤ 10000)
def LotB (c : S79) : Prop := 0 ≤ c.f0.f0 ∧ c.f0.f0 ≤ c.f0.f1 ∧ c.f0.f1 ≤ 5000
theorem ladS_okB {B : Int} {h : S85} {c : S79} {q : Q4} (hh : HoldB h) (hc : LotB c) (hB : 0 ≤ B ∧ B ≤ 1000000000000) (hq : QOK B q) : QOK (B + 50000000) (ladS h c.f0 q) := by
  obtain ⟨⟨a3, a4⟩, a5, a6⟩ := hh
  obtain ⟨c1, c2, c3⟩ := hc
  obtain ⟨⟨q1, q2⟩, ⟨q3, q4⟩, q5, q6⟩ := hq
  have m1 := mul_bd (A := 5000) (B := 10000) c1 (by omega) a3 a4
  have m2 := mul_bd (A := 5000) (B := 10000) c1 (by omega) a5 a6
  have m3 := mul_bd (A := 5000) (B := 10000) (show 0 ≤ c.f0.f1 by omega) (by omega) a3 a4
  have m4 := mul_bd (A := 5000) (B := 10000) (show 0 ≤ c.f0.f1 by omega) (by omega) a5 a6
  have m5 := Int.mul_le_mul_of_nonneg_right c2 a3
  have m6 := Int.mul_le_mul_of_nonneg_right c2 a5
  have e : ladS h c.f0 q = ⟨q.b0 + c.f0.f0 * h.f1, q.b1 + c.f0.f0 * h.f2, q.h0 + c.f0.f1 * h.f1, q.h1 + c.f0.f1 * h.f2⟩ := by
    unfold ladS
    rw [wrap64_id (n := c.f0.f0 * h.f1) (by omega) (by omega), wrap64_id (n := c.f0.f0 * h.f2) (by omega) (by omega), wrap64_id (n := c.f0.f1 * h.f1) (by omega) (by omega), wrap64_id (n := c.f0.f1 * h.f2) (by omega) (by omega),
      wrap64_id (by omega) (by omega), wrap64_id (by omega) (by omega), wrap64_id (by omega) (by omega), wrap64_id (by omega) (by omega)]
  rw [e]
  refine ⟨⟨?_, ?_⟩, ⟨?_, ?_⟩, ?_, ?_⟩ <;> simp only <;> omega
theorem lad_both (L U R V : Int) (holds : List S85) (sills : List S59) (lots : List S79) (hho : ∀ h, h ∈ holds → HoldB h) (hlo : ∀ c, c ∈ lots → LotB c) (hhn : holds.length ≤ 1000) (hln : lots.length ≤ 1000) (s : List Int) (hs : s.length = lots.length) (hr : ∀ y, y ∈ s → -1 ≤ y ∧ y < (holds.length : Int)) (d : Nat) :
    ∀ (i : Nat) (q : Q4), i + d = lots.length → QOK (10000000 + 50000000 * (i : Int)) q → ∃ r, ladO holds lots i (s.drop i) q = some r ∧ QOK (10000000 + 50000000 * (lots.length : Int)) r ∧
      Ev (fun k => swarfref07_Ends.l0 k s (lots.map fun c => c.f0.f0) q.b0 q.b1 (i : Int) L U R holds V sills lots) (r.b0, r.b1) ∧ Ev (fun k => swarfref07_Ends.l0 k s (lots.map fun c => c.f0.f1) q.h0 q.h1 (i : Int) L U R holds V sills lots) (r.h0, r.h1) := by
  induction d with
  | zero =>
    intro i q hi hq
    refine ⟨q, by rw [List.drop_eq_nil_of_le (by omega)]; rfl, by rw [show lots.length = i by omega]; exact hq, Ev.succ ?_, Ev.succ ?_⟩
    · simp (disch := omega) only [swarfref07_Ends.l0, if_neg]; exact Ev.now _
    · simp (disch := omega) only [swarfref07_Ends.l0, if_neg]; exact Ev.now _
  | succ d ih =>
    intro i q hi hq
    have hil : i < lots.length := by omega
    have his : i < s.length := by omega
    obtain ⟨r1, r2⟩ := hr _ (getD_mem s i 0 his)
    have hcl := hlo _ (getD_mem lots i z79 hil)
    have e1 : rd (lots.map fun c => c.f0.f0) (i : Int) = (lots.getD i z79).f0.f0 := by rw [rdI]; simp [List.getD, hil]
    have e2 : rd (lots.map fun c => c.f0.f1) (i : Int) = (lots.getD i z79).f0.f1 := by rw [rdI]; simp [List.getD, hil]
    have l1 : (lots.map fun c => c.f0.f0).length = lots.length := List.length_map _
    have l2 : (lots.map fun c => c.f0.f1).length = lots.length := List.length_map _
    rw [drop_cons_of s i his 0]
    by_cases ha : s.getD i 0 < 0
    · obtain ⟨r, k1, k2, k3, k4⟩ := ih (i + 1) q (by omega) ⟨hq.b0, hq.b1, by have := hq.h0; omega, by have := hq.h1; omega⟩
      refine ⟨r, by simp only [ladO, if_pos ha]; exact k1, k2, Ev.succ ?_, Ev.succ ?_⟩
      · simp (disch := omega) only [swarfref07_Ends.l0, if_pos, if_neg, rdI]; rw [wrapS (by omega)]; exact k3
      · simp (disch := omega) only [swarfref07_Ends.l0, if_pos, if_neg, rdI]; rw [wrapS (by omega)]; exact k4
    · obtain ⟨g, hg⟩ := Int.eq_ofNat_of_zero_le (show 0 ≤ s.getD i 0 by omega)
      have hho' := hho _ (getD_mem holds g z85 (by omega))
      have hq' := ladS_okB hho' hcl (B := 10000000 + 50000000 * (i : Int)) ⟨by omega, by omega⟩ hq
      obtain ⟨r, k1, k2, k3, k4⟩ := ih (i + 1) (ladS (holds.getD g z85) (lots.getD i z79).f0 q) (by omega) (by rw [show 10000000 + 50000000 * ((i + 1 : Nat) : Int) = 10000000 + 50000000 * (i : Int) + 50000000 by omega]; exact hq')
      refine ⟨r, ?_, k2, Ev.succ ?_, Ev.succ ?_⟩
      · simp only [ladO, if_neg ha, if_pos r2, if_pos hil, rd79]; rw [hg, rd85]; exact k1
      · simp (disch := omega) only [swarfref07_Ends.l0, if_pos, rdI s, e1, l1]
        rw [hg, rd85, wrapS (by omega)]; exact k3
      · simp (disch := omega) only [swarfref07_Ends.l0, if_pos, rdI s, e2, l2]
        rw [hg, rd85, wrapS (by omega)]; exact k4
theorem lightest_ev (L U R V : Int) (holds : List S85) (sills : List S59) (lots : List S79) (hl : lots.length ≤ 1000) (d : Nat) : ∀ (i : Nat) (acc : List Int), i + d = lots.length → acc.length = i → Ev (fun k => swarfref07_Lightest.l0 k acc (i : Int) L U R holds V sills lots) (acc ++ (lots.drop i).map fun c => c.f0.f0) := by
  induction d with
  | zero =>
    intro i acc hi ha
    rw [List.drop_eq_nil_of_le (by omega), List.map_nil, List.append_nil]
    refine Ev.succ ?_
    simp (disch := omega) only [swarfref07_Lightest.l0, if_neg]; exact Ev.now _
  | succ d ih =>
    intro i acc hi ha
    rw [drop_cons_of lots i (by omega) z79, List.map_cons]
    refine Ev.succ ?_
    simp (disch := omega) only [swarfref07_Lightest.l0, if_pos, rd79]
    rw [wrapS (by omega)]
    have h := ih (i + 1) (acc ++ [(lots.getD i z79).f0.f0]) (by omega) (by simp [ha])
    rw [List.append_assoc] at h
    exact h
theorem heaviest_ev (L U R V : Int) (holds : List S85) (sills : List S59) (lots : List S79) (hl : lots.length ≤ 1000) (d : Nat) : ∀ (i : Nat) (acc : List Int), i + d = lots.length → acc.length = i → Ev (fun k => swarfref07_Heaviest.l0 k acc (i : Int) L U R holds V sills lots) (acc ++ (lots.drop i).map fun c => c.f0.f1) := by
  induction d with
  | zero =>
    intro i acc hi ha
    rw [List.drop_eq_nil_of_le (by omega), List.map_nil, List.append_nil]
    refine Ev.succ ?_
    simp (disch := omega) only [swarfref07_Heaviest.l0, if_neg]; exact Ev.now _
  | succ d ih =>
    intro i acc hi ha
    rw [drop_cons_of lots i (by omega) z79, List.map_cons]
    refine Ev.succ ?_
    simp (disch := omega) only [swarfref07_Heaviest.l0, if_pos, rd79]
    rw [wrapS (by omega)]
    have h := ih (i + 1) (acc ++ [(lots.getD i z79).f0.f1]) (by omega) (by simp [ha])
    rw [List.append_assoc] at h
    exact h
theorem depths_ev (p q : Int) (l : List S62) (most : Bool) (hl : l.length ≤ 1000) (d : Nat) : ∀ (i : Nat) (acc : List Int), i + d = l.length → acc.length = i → Ev (fun k => swarfref07_Depths.l0 k most acc (i : Int) p q l) (acc ++ (l.drop i).map (waterOf most)) := by
  induction d with
  | zero =>
    intro i acc hi ha
    rw [List.drop_eq_nil_of_le (by omega), List.map_nil, List.append_nil]
    refine Ev.succ ?_
    simp (disch := omega) only [swarfref07_Depths.l0, if_neg]; exact Ev.now _
  | succ d ih =>
    intro i acc hi ha
    rw [drop_cons_of l i (by omega) z62, List.map_cons]
    refine Ev.succ ?_
    have h := ih (i + 1) (acc ++ [waterOf most (l.getD i z62)]) (by omega) (by simp [ha])
    rw [List.append_assoc] at h
    cases most
    · simp (disch := omega) only [swarfref07_Depths.l0, if_pos, rd62, Bool.false_eq_true, if_false]
      rw [wrapS (by omega)]; exact h
    · simp (disch := omega) only [swarfref07_Depths.l0, if_pos, rd62]
      rw [wrapS (by omega)]; exact h
def ansO : Option Int → Int
  | some t => t
  | none => -1
theorem levB_drop : ∀ (l : List S62) (i : Nat), LevB l → LevB (l.drop i)
  | l, 0, h => h
  | [], i + 1, _ => trivial
  | [a], i + 1, _ => by simp [LevB]
  | a :: b :: r, i + 1, h => levB_drop (b :: r) i h.2.2
theorem over_ev (soon : Bool) (p q : Int) (l : List S62) (hl : l.length ≤ 1000) (hb : LevB l) (comes needs : Int) (d : Nat) :
    ∀ (i : Nat) (now : Int), i + d = l.length → (now = comes ∨ (comes ≤ now ∧ (i < l.length → now < (l.getD i z62).f0))) → Ev (fun k => swarfref07_Over.l0 k (l.map (waterOf soon)) comes needs (i : Int) p q l) (ansO (passW soon (l.drop i) now needs)) := by
  have ll : (l.map (waterOf soon)).length = l.length := List.length_map _
  have hrd : ∀ i : Nat, i < l.length → rd (l.map (waterOf soon)) (i : Int) = waterOf soon (l.getD i z62) := fun i hi => by rw [rdI]; simp [List.getD, hi]
  induction d with
  | zero =>
    intro i now hi hv
    rw [List.drop_eq_nil_of_le (by omega)]
    refine Ev.succ ?_
    simp (disch := omega) only [swarfref07_Over.l0, if_neg]; exact Ev.now _
  | succ d ih =>
    intro i now hi hv
    have hil : i < l.length := by omega
    have hbi := levB_drop l i hb
    rw [drop_cons_of l i hil z62] at hbi ⊢
    obtain ⟨x, hx⟩ : ∃ x, x = l.getD i z62 := ⟨_, rfl⟩
    have hrx := hrd i hil
    rw [← hx] at hv hbi hrx ⊢
    have hm : mx now x.f0 = mx comes x.f0 := by
      rw [mx_max, mx_max]
      rcases hv with rfl | ⟨h1, h2⟩
      · rfl
      · have := h2 hil; omega
    by_cases hi2 : i + 1 < l.length
    · rw [drop_cons_of l (i + 1) hi2 z62] at hbi ⊢
      have ih' := ih (i + 1)
      rw [drop_cons_of l (i + 1) hi2 z62] at ih'
      obtain ⟨y, hy⟩ : ∃ y, y = l.getD (i + 1) z62 := ⟨_, rfl⟩
      rw [← hy] at hbi ih' ⊢
      obtain ⟨hbx, hxy, hbr⟩ := hbi
      have hby := levB_mem _ hbr y (by simp)
      have hiff : y.f0 ≤ now ↔ y.f0 ≤ comes := by
        rcases hv with rfl | ⟨h1, h2⟩
        · exact Iff.rfl
        · have := h2 hil; omega
      refine Ev.succ ?_
      rw [show passW soon (x :: y :: l.drop (i + 1 + 1)) now needs = if y.f0 ≤ now then passW soon (y :: l.drop (i + 1 + 1)) now needs else if mx now x.f0 ≤ 2880 ∧ needs ≤ wrap64 (1000 * waterOf soon x) then some (mx now x.f0) else passW soon (y :: l.drop (i + 1 + 1)) (mx now x.f0) needs from rfl]
      have hy0 := hby.1; have hx0 := hbx.1
      simp (disch := omega) only [swarfref07_Over.l0, if_pos, rd62, wrapS, hrx]
      rw [← hx, ← hy, wrap64_id (n := y.f0 - 1) (by omega) (by omega)]
      by_cases h1 : y.f0 ≤ comes
      · rw [if_pos (hiff.2 h1)]
        have h2 : ¬ mx comes x.f0 ≤ y.f0 - 1 := by rw [mx_max]; omega
        simp only [if_neg h2]
        refine ih' now (by omega) (.inl ?_)
        rcases hv with h | ⟨h3, h4⟩
        · exact h
        · have := h4 hil; have := hiff.2 h1; omega
      · rw [if_neg (fun h => h1 (hiff.1 h)), hm]
        have h2 : mx comes x.f0 ≤ y.f0 - 1 := by rw [mx_max]; omega
        simp only [if_pos h2]
        by_cases h3 : wrap64 (1000 * waterOf soon x) ≥ needs
        · rw [if_pos (show mx comes x.f0 ≤ 2880 ∧ needs ≤ wrap64 (1000 * waterOf soon x) from ⟨by omega, h3⟩)]
          simp only [if_pos h3]; exact Ev.now _
        · rw [if_neg (fun h => h3 h.2)]
          simp only [if_neg h3]
          exact ih' (mx comes x.f0) (by omega) (.inr ⟨by rw [mx_max]; omega, fun _ => by omega⟩)
    · rw [List.drop_eq_nil_of_le (show l.length ≤ i + 1 by omega)] at hbi ⊢
      have hend := ih (i + 1) comes (by omega) (.inl rfl)
      rw [List.drop_eq_nil_of_le (show l.length ≤ i + 1 by omega)] at hend
      refine Ev.succ ?_
      rw [show passW soon [x] now needs = if mx now x.f0 ≤ 2880 ∧ needs ≤ wrap64 (1000 * waterOf soon x) then some (mx now x.f0) else none from rfl, hm]
      simp (disch := omega) only [swarfref07_Over.l0, if_pos, if_neg, rd62, wrapS, hrx]
      rw [← hx]
      by_cases h2 : mx comes x.f0 ≤ 2880
      · simp only [if_pos h2]
        by_cases h3 : wrap64 (1000 * waterOf soon x) ≥ needs
        · rw [if_pos (show mx comes x.f0 ≤ 2880 ∧ needs ≤ wrap64 (1000 * waterOf soon x) from ⟨h2, h3⟩)]
          simp only [if_pos h3]; exact Ev.now _
        · rw [if_neg (fun h => h3 h.2)]
          simp only [if_neg h3]; exact hend
      · rw [if_neg (fun h => h2 h.1)]
        simp only [if_neg h2]; exact hend
theorem passW_nn (soon : Bool) (needs : Int) : ∀ (l : List S62) (now t : Int), LevB l → passW soon l now needs = some t → 0 ≤ t
  | [], _, _, _, h => by simp [passW] at h
  | [a], now, t, hb, h => by
    simp only [passW] at h
    by_cases hc : mx now a.f0 ≤ 2880 ∧ needs ≤ wrap64 (1000 * waterOf soon a)
    · rw [if_pos hc] at h; injection h with h; have := hb.1; rw [mx_max] at h; omega
    · rw [if_neg hc] at h; cases h
  | a :: b :: r, now, t, hb, h => by
    simp only [passW] at h
    by_cases h1 : b.f0 ≤ now
    · rw [if_pos h1] at h; exact passW_nn soon needs (b :: r) now t hb.2.2 h
    · rw [if_neg h1] at h
      by_cases hc : mx now a.f0 ≤ 2880 ∧ needs ≤ wrap64 (1000 * waterOf soon a)
      · rw [if_pos hc] at h; injection h with h; have := hb.1.1; rw [mx_max] at h; omega
      · rw [if_neg hc] at h; exact passW_nn soon needs (b :: r) _ t hb.2.2 h
theorem way_ev (L U R V : Int) (holds : List S85) (sills : List S59) (lots : List S79) (needs : Int) (soon : Bool) (hl : sills.length ≤ 1000) (hs : ∀ s, s ∈ sills → SillB s) (d : Nat) :
    ∀ (i : Nat) (at_ : Int) (acc : List Int), i + d = sills.length → acc.length = i → Ev (fun k => swarfref07_way.l0 k needs soon acc at_ (i : Int) L U R holds V sills lots) (acc ++ sailW soon (sills.drop i) at_ needs) := by
  induction d with
  | zero =>
    intro i at_ acc hi ha
    rw [List.drop_eq_nil_of_le (by omega)]
    simp only [sailW, List.append_nil]
    refine Ev.succ ?_
    simp (disch := omega) only [swarfref07_way.l0, if_neg]; exact Ev.now _
  | succ d ih =>
    intro i at_ acc hi ha
    have hil : i < sills.length := by omega
    have hsb := hs _ (getD_mem sills i z59 hil)
    have hne := hsb.ne
    rw [drop_cons_of sills i hil z59]
    have tail : ∀ c : Int, c = wrap64 (at_ + travelOf soon (sills.getD i z59)) → Ev (fun k => swarfref07_way.j1 k needs soon acc (i : Int) c L U R holds V sills lots (sills.getD i z59).f0.f0 (sills.getD i z59).f0.f1 (sills.getD i z59).f1) (acc ++ sailW soon (sills.getD i z59 :: sills.drop (i + 1)) at_ needs) := fun c hc => by
      refine Ev.succ ?_
      simp only [swarfref07_way.j1]
      have hd := depths_ev (sills.getD i z59).f0.f0 (sills.getD i z59).f0.f1 (sills.getD i z59).f1 soon (by omega) (sills.getD i z59).f1.length 0 [] (by omega) rfl
      rw [List.drop_zero, List.nil_append] at hd
      refine Ev.bind (show Ev (fun k => swarfref07_Depths.f k (sills.getD i z59).f0.f0 (sills.getD i z59).f0.f1 (sills.getD i z59).f1 soon) _ from hd) ?_
      have ho := over_ev soon (sills.getD i z59).f0.f0 (sills.getD i z59).f0.f1 (sills.getD i z59).f1 (by omega) hsb.lv c needs (sills.getD i z59).f1.length 0 c (by omega) (.inl rfl)
      rw [List.drop_zero] at ho
      refine Ev.bind (show Ev (fun k => swarfref07_Over.f k (sills.getD i z59).f0.f0 (sills.getD i z59).f0.f1 (sills.getD i z59).f1 ((sills.getD i z59).f1.map (waterOf soon)) c needs) _ from ho) ?_
      simp only [sailW, ← hc]
      cases hp : passW soon (sills.getD i z59).f1 c needs with
      | none =>
        simp only [ansO, show (-1 : Int) < 0 from by decide, if_true, List.append_nil]; exact Ev.now _
      | some t =>
        have ht := passW_nn soon needs _ _ _ hsb.lv hp
        have h := ih (i + 1) t (acc ++ [t]) (by omega) (by simp [ha])
        rw [List.append_assoc] at h
        simp (disch := omega) only [ansO, if_neg, if_pos]
        rw [wrapS (by omega)]
        exact h
    refine Ev.succ ?_
    cases soon
    · simp (disch := omega) only [swarfref07_way.l0, if_pos, rd59, Bool.false_eq_true, if_false]
      exact tail _ rfl
    · simp (disch := omega) only [swarfref07_way.l0, if_pos, rd59]
      exact tail _ rfl
theorem sail_l0 (L U R V : Int) (holds : List S85) (sills : List S59) (lots : List S79) (well badly : List Int) (h1 : badly.length ≤ well.length) (h2 : badly.length ≤ 1000) (d : Nat) :
    ∀ i : Nat, i + d = badly.length → Ev (fun k => swarfref07_sail.l0 k well badly ((overE well badly).take i) (i : Int) L U R holds V sills lots) (verdictE sills.length well badly, overE well badly) := by
  have hol : (overE well badly).length = badly.length := by simp [overE]
  induction d with
  | zero =>
    intro i hi
    refine Ev.succ ?_
    rw [List.take_of_length_le (by omega)]
    unfold verdictE
    simp (disch := omega) only [swarfref07_sail.l0, if_neg]
    by_cases c1 : badly.length = sills.length
    · simp (disch := omega) only [if_pos c1, if_pos]; exact Ev.now _
    · by_cases c2 : well.length < sills.length
      · simp (disch := omega) only [if_neg c1, if_pos c2, if_neg, if_pos]; exact Ev.now _
      · simp (disch := omega) only [if_neg c1, if_neg c2, if_neg]; exact Ev.now _
  | succ d ih =>
    intro i hi
    refine Ev.succ ?_
    have hlt : ((overE well badly).take i).length < 8796093022208 := by rw [List.length_take]; omega
    simp (disch := omega) only [swarfref07_sail.l0, if_pos]
    rw [wrapS (by omega), ← overE_take well badly i (by omega)]
    exact ih (i + 1) (by omega)
theorem sail_both {L U R V : Int} {holds : List S85} {sills : List S59} {lots : List S79} (hn : Narrow holds sills lots) (s : List Int) (hsl : s.length ≤ 1000) :
    ∃ (v : Int) (o : List S56) (e : Int), o.length ≤ 1000 ∧ ship_Sail.f L U R holds V sills lots s = some (v, o, e) ∧ Ev (fun k => swarfref07_Sail.f k L U R holds V sills lots s) (v, o, e) := by
  have hc := limO_of (shipCS_ev (L := L) (U := U) (R := R) (V := V) hn s hsl)
  have hr := refCS_ev (L := L) (U := U) (R := R) (V := V) hn s hsl
  by_cases h0 : stowingE L U R holds V sills lots s = 0
  · obtain ⟨hv, hs, hrg⟩ := stowing_zero h0
    rw [h0] at hc hr
    have hsi : ∀ x, x ∈ sills → SillB x := fun x hx => sillE_zero (hv.si x hx)
    have hli := hv.light; have hun := hv.under; have hle := hv.leaves; have hln := hv.ln; have hsn := hv.sn
    have hw : wrap64 (1000 * L) = 1000 * L := wrap64_id (by omega) (by omega)
    have hq0 : QOK (10000000 + 50000000 * ((0 : Nat) : Int)) ⟨wrap64 (1000 * L), wrap64 (1000 * L), wrap64 (1000 * L), wrap64 (1000 * L)⟩ := by
      rw [hw]; exact ⟨⟨by show 0 ≤ 1000 * L; omega, Int.le_refl _⟩, ⟨by show 0 ≤ 1000 * L; omega, Int.le_refl _⟩, by show 1000 * L ≤ _; omega, by show 1000 * L ≤ _; omega⟩
    obtain ⟨q, k1, k2, k3, k4⟩ := lad_both L U R V holds sills lots (fun x hx => ⟨(hv.ho x hx).2.1, (hv.ho x hx).2.2⟩) (fun c hc => by obtain ⟨a, b, c, _⟩ := hv.lo c hc; exact ⟨a, b, c⟩) hn.h hn.l s hs hrg lots.length 0 _ (by omega) hq0
    rw [List.drop_zero] at k1
    have oq : QOK 10000000000 q := ⟨k2.b0, k2.b1, by have := k2.h0; omega, by have := k2.h1; omega⟩
    have n1 := needsW_eq oq hun true
    have n2 := needsW_eq oq hun false
    simp only [if_true, Bool.false_eq_true, if_false] at n1 n2
    have b0 := oq.b0; have b1 := oq.b1
    have hlen : (sailO U V sills q false).length ≤ (sailO U V sills q true).length := by
      unfold sailO
      rw [sailW_eqB false _ sills hsi V hle.1 hle.2, sailW_eqB true _ sills hsi V hle.1 hle.2]
      exact (sailL_le _ _ V V _ _ (better_soonB sills hsi) (sillsOK_B hsi false) (sillsOK_B hsi true) hle.1 (Int.le_refl _) (by omega)).1
    have htop : (sailO U V sills q false).length ≤ sills.length := sailW_len _ _ _ _
    refine ⟨verdictE sills.length (sailO U V sills q true) (sailO U V sills q false), overE (sailO U V sills q true) (sailO U V sills q false), 0, by simp only [overE, List.length_map, List.length_range]; omega, ?_, ?_⟩
    · unfold ship_Sail.f
      refine Option.bind_eq_some_iff.2 ⟨_, hc, ?_⟩
      rw [if_pos rfl, if_pos ⟨by omega, by omega, fun x hx => by have := (hsi x hx).ne; omega⟩]
      refine Option.bind_eq_some_iff.2 ⟨_, k1, ?_⟩
      unfold sailR
      rw [if_pos hlen]
    · unfold swarfref07_Sail.f
      refine Ev.bind hr ?_
      simp only [if_true]
      have hlg := lightest_ev L U R V holds sills lots (by omega) lots.length 0 [] (by omega) rfl
      have hhv := heaviest_ev L U R V holds sills lots (by omega) lots.length 0 [] (by omega) rfl
      rw [List.drop_zero, List.nil_append] at hlg hhv
      have hdr : Ev (fun k => swarfref07_drafts.f k L U R holds V sills lots s) (q.b0, q.h0, q.b1, q.h1) := by
        unfold swarfref07_drafts.f
        refine Ev.bind (show Ev (fun k => swarfref07_Lightest.f k L U R holds V sills lots) _ from hlg) ?_
        refine Ev.bind (show Ev (fun k => swarfref07_Ends.f k L U R holds V sills lots s (lots.map fun c => c.f0.f0)) _ from k3) ?_
        refine Ev.bind (show Ev (fun k => swarfref07_Heaviest.f k L U R holds V sills lots) _ from hhv) ?_
        exact Ev.bind (show Ev (fun k => swarfref07_Ends.f k L U R holds V sills lots s (lots.map fun c => c.f0.f1)) _ from k4) (Ev.now _)
      have hwl := way_ev L U R V holds sills lots (needsW U q true) true (by omega) hsi sills.length 0 V [] (by omega) rfl
      have hbd := way_ev L U R V holds sills lots (needsW U q false) false (by omega) hsi sills.length 0 V [] (by omega) rfl
      rw [List.drop_zero, List.nil_append] at hwl hbd
      have hsail : Ev (fun k => swarfref07_sail.f k L U R holds V sills lots s) (verdictE sills.length (sailO U V sills q true) (sailO U V sills q false), overE (sailO U V sills q true) (sailO U V sills q false)) := by
        unfold swarfref07_sail.f
        refine Ev.bind hdr ?_
        refine Ev.bind (show Ev (fun k => swarfref07_way.f k L U R holds V sills lots (wrap64 (mx q.b0 q.b1 + wrap64 (1000 * U))) true) _ from hwl) ?_
        refine Ev.bind (show Ev (fun k => swarfref07_way.f k L U R holds V sills lots (wrap64 (mx q.h0 q.h1 + wrap64 (1000 * U))) false) _ from hbd) ?_
        exact sail_l0 L U R V holds sills lots _ _ hlen (by omega) (sailO U V sills q false).length 0 (by omega)
      exact Ev.bind hsail (Ev.now _)
  · refine ⟨0, [], stowingE L U R holds V sills lots s, by simp, ?_, ?_⟩
    · unfold ship_Sail.f
      exact Option.bind_eq_some_iff.2 ⟨_, hc, by rw [if_neg h0]⟩
    · unfold swarfref07_Sail.f
      refine Ev.bind hr ?_
      simp only [if_neg h0]; exact Ev.now _
end Go.Proofs.Ytodmemndaaiolaa.PC7
namespace Go.Proofs.Ytodmemndaaiolaa.PC7
open Go.RowKit Go.Proofs.YtodmemndaaiolaaW.PrintWords Go.Proofs.YtodmemndaaiolaaW.PrintLast Go.Proofs.YtodmemndaaiolaaW.PrintMore
attribute [local go_sem] max2_int min2_int max_two min_two max_three min_three max_four min_four
set_option linter.unusedVariables false
set_option linter.unusedSimpArgs false
mutual
def swarflaw07_wide.l0 : Nat → Int → Int → Int → Int → List (S85) → Int → List (S59) → List (S79) → Option (Bool)
 | 0, _, _, _, _, _, _, _, _ => none
 | k + 1, x3, x158000, x158001, x158002, x158003, x158004, x158005, x158006 => if x3 < (x158005.length : Int) then (swarflaw07_wide.j1 k x3 (decide (x3 < 20)) x158000 x158001 x158002 x158003 x158004 x158005 x158006) else (swarflaw07_wide.j1 k x3 false x158000 x158001 x158002 x158003 x158004 x158005 x158006)
def swarflaw07_wide.j1 : Nat → Int → Bool → Int → Int → Int → List (S85) → Int → List (S59) → List (S79) → Option (Bool)
 | 0, _, _, _, _, _, _, _, _, _ => none
 | k + 1, x3, x12, x158000, x158001, x158002, x158003, x158004, x158005, x158006 => if x12 = true then (if 0 ≤ x3 then (if x3 < (x158005.length : Int) then (if (((rd_T59 x158005 x3).f1).length : Int) > 20 then (some true) else (swarflaw07_wide.l0 k (wrap64 (x3 + 1)) x158000 x158001 x158002 x158003 x158004 x158005 x158006)) else (none)) else (none)) else (if (x158003.length : Int) > 20 then (some true) else (if (x158005.length : Int) > 20 then (some true) else (some (decide ((x158006.length : Int) > 20)))))
end
def swarflaw07_wide.f (k : Nat) (a0_0 : Int) (a0_1 : Int) (a0_2 : Int) (l0_3 : List (S85)) (a0_4 : Int) (l0_5 : List (S59)) (l0_6 : List (S79)) : Option (Bool) := swarflaw07_wide.l0 k 0 a0_0 a0_1 a0_2 l0_3 a0_4 l0_5 l0_6
set_option maxHeartbeats 8000000 in
set_option maxRecDepth 100000 in
theorem swarflaw07_wide.calls (k : Nat) (a0_0 : Int) (a0_1 : Int) (a0_2 : Int) (A0_3 : Option Addr) (c0_3 : Nat) (l0_3 : List (S85)) (a0_4 : Int) (A0_5 : Option Addr) (c0_5 : Nat) (l0_5 : List (S59)) (A0_6 : Option Addr) (c0_6 : Nat) (l0_6 : List (S79)) (r : Bool) (w : World) (hr0_3 : Kd.C k85 w A0_3 l0_3.length l0_3) (hc0_3 : l0_3.length ≤ c0_3) (hr0_5 : Kd.C k59 w A0_5 l0_5.length l0_5) (hc0_5 : l0_5.length ≤ c0_5) (hr0_6 : Kd.C k79 w A0_6 l0_6.length l0_6) (hc0_6 : l0_6.length ≤ c0_6) (h : swarflaw07_wide.f k a0_0 a0_1 a0_2 l0_3 a0_4 l0_5 l0_6 = some r) :
  Calls Try.prog 14 #[.agg #[.int .i64 a0_0, .int .i64 a0_1, .int .i64 a0_2, .slice A0_3 l0_3.length c0_3, .int .i64 a0_4, .slice A0_5 l0_5.length c0_5, .slice A0_6 l0_6.length c0_6]] w fun e w' => e = .returned (.bool r) ∧ Below w.heap.size w w' := by
 have hu26 := Try.underlying26
 have HR0_3 := Aside0.mk hr0_3
 have HC0_3 := Aside0.mk hc0_3
 clear hr0_3 hc0_3
 have HR0_5 := Aside0.mk hr0_5
 have HC0_5 := Aside0.mk hc0_5
 clear hr0_5 hc0_5
 have HR0_6 := Aside0.mk hr0_6
 have HC0_6 := Aside0.mk hc0_6
 clear hr0_6 hc0_6
 have HB := Aside0.mk (Below.refl w.heap.size w)
 have H : (swarflaw07_wide.l0 k 0 a0_0 a0_1 a0_2 l0_3 a0_4 l0_5 l0_6) = some r := h
 clear h
 have H' := Aside0.mk H
 clear H
 go_enter Try.func14, Try.ntmps14
 go_wp2_with (first | ((with_reducible refine gate_dst (N := 1) rfl ?_); (try (refine gate_guard (by rfl) ?_; dsimp only)); refine box_x (N := 1) (cs := #[.int .i64 a0_0, .int .i64 a0_1, .int .i64 a0_2, .slice A0_3 l0_3.length c0_3, .int .i64 a0_4, .slice A0_5 l0_5.length c0_5, .slice A0_6 l0_6.length c0_6]) (t := 26) ?_; intro gb157 hg w2 hbox hb; have BK157 := Aside0.mk (hbox); have GW157 := gw_x hg HB; have GE157 := GW157; replace HB := Aside0.mk (below_step (below_x HB.out) hb); clear hb hbox hg))
 go_loopg [3] k (fun kq v3 w' => ∃ (x3_1 : Int), v3 = .int .i64 x3_1 ∧ Aside0 (swarflaw07_wide.l0 kq x3_1 a0_0 a0_1 a0_2 l0_3 a0_4 l0_5 l0_6 = some r) ∧ Aside0 (kq ≤ k) ∧ Aside0 (w'.heap[gb157]? = some (.cells #[.int .i64 a0_0, .int .i64 a0_1, .int .i64 a0_2, (.slice A0_3 l0_3.length c0_3), .int .i64 a0_4, (.slice A0_5 l0_5.length c0_5), (.slice A0_6 l0_6.length c0_6)] 26 (0, 0))) ∧ Aside0 (Below w.heap.size w w'))
 case atStart => exact ⟨(0), (by first | rfl | (simp; done) | (simp [*]; done)), H', ⟨Nat.le_refl _⟩, ⟨blk_x BK157.out⟩, ⟨by exact below_y HB.out⟩⟩
 case round =>
  clear H'; obtain ⟨x3_1, rfl, HA, HK1, BK157, HB⟩ := hrel; cases gk with
  | zero => exact absurd HA.out (by simp [swarflaw07_wide.l0])
  | succ k1 =>
   have H := HA.out; clear HA; simp only [swarflaw07_wide.l0] at H; have HC3 := Aside0.mk H; clear H
   go_upto_region 2 with (fail)
   go_cut [12] (fun v12 wc => ∃ (kq : Nat) (x12_2 : Bool), v12 = .bool x12_2 ∧ Aside0 (swarflaw07_wide.j1 kq x3_1 x12_2 a0_0 a0_1 a0_2 l0_3 a0_4 l0_5 l0_6 = some r) ∧ Aside0 (kq ≤ k1) ∧ Aside0 (wc.heap[gb157]? = some (.cells #[.int .i64 a0_0, .int .i64 a0_1, .int .i64 a0_2, (.slice A0_3 l0_3.length c0_3), .int .i64 a0_4, (.slice A0_5 l0_5.length c0_5), (.slice A0_6 l0_6.length c0_6)] 26 (0, 0))) ∧ Aside0 (Below w.heap.size w wc))
   case first =>
    have H := HC3.out; clear HC3; by_cases c4 : x3_1 < (l0_5.length : Int)
    ·
     rw [if_pos c4] at H; have c4b0 : decide (x3_1 < (l0_5.length : Int)) = true := decide_eq_true c4; clear c4
     (first | rw [c4b0] | (simp only [i64_w, i32_w]; rw [c4b0]) | skip)
     have H' := Aside0.mk H; clear H; obtain ⟨hfz5_0, _, _, _, _, _, _, _⟩ := cf7 BK157; go_wp2; go_meet
     case rel => exact ⟨_, (decide (x3_1 < 20)), (by first | rfl | (simp; done) | (simp [*]; done)), H', ⟨by have := HK1.out; first | omega | exact Nat.le_refl _⟩, ⟨blk_x BK157.out⟩, ⟨by exact below_y HB.out⟩⟩
    ·
     rw [if_neg c4] at H; have c4b0 : decide (x3_1 < (l0_5.length : Int)) = false := decide_eq_false c4; clear c4
     (first | rw [c4b0] | (simp only [i64_w, i32_w]; rw [c4b0]) | skip)
     have H' := Aside0.mk H; clear H; obtain ⟨hfz6_0, _, _, _, _, _, _, _⟩ := cf7 BK157; go_wp2; go_meet
     case rel => exact ⟨_, (false), (by first | rfl | (simp; done) | (simp [*]; done)), H', ⟨by have := HK1.out; first | omega | exact Nat.le_refl _⟩, ⟨blk_x BK157.out⟩, ⟨by exact below_y HB.out⟩⟩
   case rest =>
    clear HC3; obtain ⟨kq, x12_2, rfl, HA, HJ2, BK157, HB⟩ := hcut; cases kq with
    | zero => exact absurd HA.out (by simp [swarflaw07_wide.j1])
    | succ kj2 =>
     have H := HA.out; clear HA; simp only [swarflaw07_wide.j1] at H; by_cases c7 : x12_2 = true
     ·
      subst c7; (have H1 : (if 0 ≤ x3_1 then (if x3_1 < (l0_5.length : Int) then (if (((rd_T59 l0_5 x3_1).f1).length : Int) > 20 then (some true) else (swarflaw07_wide.l0 kj2 (wrap64 (x3_1 + 1)) a0_0 a0_1 a0_2 l0_3 a0_4 l0_5 l0_6)) else (none)) else (none)) = some r := by rw [if_pos rfl] at H; exact H); clear H; have H := H1; clear H1; by_cases c8 : 0 ≤ x3_1
      ·
       rw [if_pos c8] at H; have c8b0 : decide (0 ≤ x3_1) = true := decide_eq_true c8; clear c8; by_cases c9 : x3_1 < (l0_5.length : Int)
       ·
        rw [if_pos c9] at H; have c9b0 : decide (x3_1 < (l0_5.length : Int)) = true := decide_eq_true c9; clear c9; by_cases c10 : (((rd_T59 l0_5 x3_1).f1).length : Int) > 20
        ·
         rw [if_pos c10] at H; have c10b0 : decide (20 < (((rd_T59 l0_5 x3_1).f1).length : Int)) = true := decide_eq_true c10; have c10b1 : decide (20 < ((rd_T59 l0_5 x3_1).f1).length) = true := decide_eq_true (by omega); clear c10; obtain rfl := Option.some.inj H; obtain ⟨hfz11_0, _, _, _, _, _, _, _⟩ := cf7 BK157; have p158 : 0 ≤ (x3_1 : Int) := of_x; have q158 : x3_1 < (l0_5.length : Int) := of_x; obtain ⟨ad158, A158_2, c158_2, e158, hx158_0, hx158_1, hx158_2, hl158_2, hi158_2⟩ := at_T59 HR0_5.out x3_1 p158 q158; (cases e158); replace hx158_0 := cell_x HB hx158_0; replace hx158_1 := cell_x HB hx158_1; replace hx158_2 := cell_x HB hx158_2; have HR158_2 := Aside0.mk hi158_2; have HC158_2 := Aside0.mk hl158_2; clear hi158_2 hl158_2; replace p158 := eq_true p158; replace q158 := eq_true q158; go_wp2; go_ret; exact rt_y HB
        ·
         rw [if_neg c10] at H; have c10b0 : decide (20 < (((rd_T59 l0_5 x3_1).f1).length : Int)) = false := decide_eq_false c10; have c10b1 : decide (20 < ((rd_T59 l0_5 x3_1).f1).length) = false := decide_eq_false (by omega); clear c10; have H' := Aside0.mk H; clear H; obtain ⟨hfz12_0, _, _, _, _, _, _, _⟩ := cf7 BK157; have p158 : 0 ≤ (x3_1 : Int) := of_x; have q158 : x3_1 < (l0_5.length : Int) := of_x; obtain ⟨ad158, A158_2, c158_2, e158, hx158_0, hx158_1, hx158_2, hl158_2, hi158_2⟩ := at_T59 HR0_5.out x3_1 p158 q158; (cases e158); replace hx158_0 := cell_x HB hx158_0; replace hx158_1 := cell_x HB hx158_1; replace hx158_2 := cell_x HB hx158_2; have HR158_2 := Aside0.mk hi158_2; have HC158_2 := Aside0.mk hl158_2; clear hi158_2 hl158_2; replace p158 := eq_true p158; replace q158 := eq_true q158; go_wp2; go_roundg kj2
         case measure => have := HK1.out; have := HJ2.out; omega
         case rel => exact ⟨(wrap64 (x3_1 + 1)), (by first | rfl | (simp; done) | (simp [*]; done)), H', ⟨by have := HK1.out; have := HJ2.out; omega⟩, ⟨blk_x BK157.out⟩, ⟨by exact below_y HB.out⟩⟩
       ·
        rw [if_neg c9] at H; exact absurd H (by simp)
      ·
       rw [if_neg c8] at H; exact absurd H (by simp)
     ·
      replace c7 := Bool.eq_false_iff.mpr c7; subst c7; replace H : (if (l0_3.length : Int) > 20 then (some true) else (if (l0_5.length : Int) > 20 then (some true) else (some (decide ((l0_6.length : Int) > 20))))) = some r := ifn_x H; by_cases c13 : (l0_3.length : Int) > 20
      ·
       rw [if_pos c13] at H; have c13b0 : decide (20 < (l0_3.length : Int)) = true := decide_eq_true c13; have c13b1 : decide (20 < l0_3.length) = true := decide_eq_true (by omega); clear c13; obtain rfl := Option.some.inj H; obtain ⟨hfz14_0, _, _, _, _, _, _, _⟩ := cf7 BK157; go_wp2; go_ret; exact rt_y HB
      ·
       rw [if_neg c13] at H; have c13b0 : decide (20 < (l0_3.length : Int)) = false := decide_eq_false c13; have c13b1 : decide (20 < l0_3.length) = false := decide_eq_false (by omega); clear c13; by_cases c15 : (l0_5.length : Int) > 20
       ·
        rw [if_pos c15] at H; have c15b0 : decide (20 < (l0_5.length : Int)) = true := decide_eq_true c15; have c15b1 : decide (20 < l0_5.length) = true := decide_eq_true (by omega); clear c15; obtain rfl := Option.some.inj H; obtain ⟨hfz16_0, _, _, _, _, _, _, _⟩ := cf7 BK157; go_wp2; go_ret; exact rt_y HB
       ·
        rw [if_neg c15] at H; have c15b0 : decide (20 < (l0_5.length : Int)) = false := decide_eq_false c15; have c15b1 : decide (20 < l0_5.length) = false := decide_eq_false (by omega); clear c15; obtain rfl := Option.some.inj H; obtain ⟨hfz17_0, _, _, _, _, _, _, _⟩ := cf7 BK157; go_wp2; go_ret; exact rt_y HB
end Go.Proofs.Ytodmemndaaiolaa.PC7
namespace Go.Proofs.Ytodmemndaaiolaa.PC7
set_option linter.unusedVariables false
set_option linter.unusedSimpArgs false
open Go.RowKit Go.Proofs.YtodmemndaaiolaaW.PrintWords Go.Proofs.YtodmemndaaiolaaW.PrintLast Go.Proofs.YtodmemndaaiolaaW.PrintMore
theorem wide_l0 (L U R V : Int) (holds : List S85) (sills : List S59) (lots : List S79) (d : Nat) :
    ∀ i : Nat, i + d = min sills.length 20 → (∀ j, j < i → (sills.getD j z59).f1.length ≤ 20) → Res (fun k => swarflaw07_wide.l0 k (i : Int) L U R holds V sills lots) (fun b => b = false → holds.length ≤ 20 ∧ sills.length ≤ 20 ∧ lots.length ≤ 20 ∧ ∀ j, j < sills.length → (sills.getD j z59).f1.length ≤ 20) := by
  induction d with
  | zero =>
    intro i hi hj
    have fin : Res (fun k => swarflaw07_wide.j1 k (i : Int) false L U R holds V sills lots) (fun b => b = false → holds.length ≤ 20 ∧ sills.length ≤ 20 ∧ lots.length ≤ 20 ∧ ∀ j, j < sills.length → (sills.getD j z59).f1.length ≤ 20) := by
      refine Res.succ ?_
      simp only [swarflaw07_wide.j1, Bool.false_eq_true, if_false]
      by_cases h1 : (holds.length : Int) > 20
      · simp only [if_pos h1]; exact Res.now (fun h => by cases h)
      · by_cases h2 : (sills.length : Int) > 20
        · simp only [if_neg h1, if_pos h2]; exact Res.now (fun h => by cases h)
        · simp only [if_neg h1, if_neg h2]
          refine Res.now (fun h => ?_)
          have h3 := of_decide_eq_false h
          exact ⟨by omega, by omega, by omega, fun j hjl => hj j (by omega)⟩
    refine Res.succ ?_
    by_cases h : (i : Int) < (sills.length : Int)
    · simp only [swarflaw07_wide.l0, if_pos h]
      rw [decide_eq_false (by omega)]; exact fin
    · simp only [swarflaw07_wide.l0, if_neg h]; exact fin
  | succ d ih =>
    intro i hi hj
    refine Res.succ ?_
    simp (disch := omega) only [swarflaw07_wide.l0, if_pos]
    rw [decide_eq_true (by omega)]
    refine Res.succ ?_
    simp (disch := omega) only [swarflaw07_wide.j1, if_true, if_pos, rd59]
    by_cases h : ((sills.getD i z59).f1.length : Int) > 20
    · simp only [if_pos h]; exact Res.now (fun h => by cases h)
    · simp only [if_neg h]
      rw [wrapS (by omega)]
      refine ih (i + 1) (by omega) (fun j hji => ?_)
      by_cases e : j = i
      · subst e; omega
      · exact hj j (by omega)
theorem wide_res (L U R V : Int) (holds : List S85) (sills : List S59) (lots : List S79) : Res (fun k => swarflaw07_wide.f k L U R holds V sills lots) (fun b => b = false → Narrow holds sills lots ∧ holds.length ≤ 20 ∧ sills.length ≤ 20 ∧ lots.length ≤ 20 ∧ ∀ s, s ∈ sills → s.f1.length ≤ 20) := by
  refine (wide_l0 L U R V holds sills lots (min sills.length 20) 0 (by omega) (fun j h => by omega)).mono fun b hb h => ?_
  obtain ⟨a, b, c, d⟩ := hb h
  have hs : ∀ s, s ∈ sills → s.f1.length ≤ 20 := fun s hs => by
    obtain ⟨i, hi, rfl⟩ := List.getElem_of_mem hs
    have := d i hi
    rwa [getD_get _ _ _ hi] at this
  exact ⟨⟨by omega, by omega, fun s h => by have := hs s h; omega, by omega⟩, a, b, c, hs⟩
end Go.Proofs.Ytodmemndaaiolaa.PC7
namespace Go.Proofs.Ytodmemndaaiolaa.PC7
open Go.RowKit Go.Proofs.YtodmemndaaiolaaW.PrintWords Go.Proofs.YtodmemndaaiolaaW.PrintLast Go.Proofs.YtodmemndaaiolaaW.PrintMore
attribute [local go_sem] max2_int min2_int max_two min_two max_three min_three max_four min_four
set_option linter.unusedVariables false
set_option linter.unusedSimpArgs false
mutual
def swarfkit_StowageOf.l0 : Nat → List Int → List Int → Int → Int → Int → Int → Int → List (S85) → Int → List (S59) → List (S79) → Option (List Int × Int)
 | 0, _, _, _, _, _, _, _, _, _, _, _ => none
 | k + 1, x5, x6, x7, x1000, x363000, x363001, x363002, x363003, x363004, x363005, x363006 => if x7 < (x363006.length : Int) then ((swarfkit_Feed_Between.f x1000 (-1) (wrap64 ((x363003.length : Int) - 1))).bind fun bt366 => (if bt366.1 ≥ 0 then (if 0 ≤ bt366.1 then (if bt366.1 < (x6.length : Int) then (if 0 ≤ x7 then (if bt366.1 < (x363003.length : Int) then (swarfkit_StowageOf.j1 k x5 x6 x7 bt366.1 (decide ((wrap64 ((rd x6 bt366.1) + ((rd_T79 x363006 x7).f0.f1))) > ((rd_T85 x363003 bt366.1).f0))) bt366.2 x363000 x363001 x363002 x363003 x363004 x363005 x363006) else (none)) else (none)) else (none)) else (none)) else (swarfkit_StowageOf.j1 k x5 x6 x7 bt366.1 false bt366.2 x363000 x363001 x363002 x363003 x363004 x363005 x363006))) else (some (x5, x1000))
def swarfkit_StowageOf.j1 : Nat → List Int → List Int → Int → Int → Bool → Int → Int → Int → Int → List (S85) → Int → List (S59) → List (S79) → Option (List Int × Int)
 | 0, _, _, _, _, _, _, _, _, _, _, _, _, _ => none
 | k + 1, x5, x6, x7, x8, x48, x1000, x363000, x363001, x363002, x363003, x363004, x363005, x363006 => if x48 = true then (if (-1) ≥ 0 then (if 0 ≤ (-1) then (if (-1) < (x6.length : Int) then (if 0 ≤ x7 then (if x7 < (x363006.length : Int) then (if x5.length < 17592186044416 then (swarfkit_StowageOf.l0 k (x5 ++ [(-1)]) (x6.set ((-1) : Int).toNat (wrap64 ((rd x6 (-1)) + ((rd_T79 x363006 x7).f0.f1)))) (wrap64 (x7 + 1)) x1000 x363000 x363001 x363002 x363003 x363004 x363005 x363006) else (none)) else (none)) else (none)) else (none)) else (none)) else (if x5.length < 17592186044416 then (swarfkit_StowageOf.l0 k (x5 ++ [(-1)]) x6 (wrap64 (x7 + 1)) x1000 x363000 x363001 x363002 x363003 x363004 x363005 x363006) else (none))) else (if x8 ≥ 0 then (if 0 ≤ x8 then (if x8 < (x6.length : Int) then (if 0 ≤ x7 then (if x7 < (x363006.length : Int) then (if x5.length < 17592186044416 then (swarfkit_StowageOf.l0 k (x5 ++ [x8]) (x6.set (x8 : Int).toNat (wrap64 ((rd x6 x8) + ((rd_T79 x363006 x7).f0.f1)))) (wrap64 (x7 + 1)) x1000 x363000 x363001 x363002 x363003 x363004 x363005 x363006) else (none)) else (none)) else (none)) else (none)) else (none)) else (if x5.length < 17592186044416 then (swarfkit_StowageOf.l0 k (x5 ++ [x8]) x6 (wrap64 (x7 + 1)) x1000 x363000 x363001 x363002 x363003 x363004 x363005 x363006) else (none)))
end
def swarfkit_StowageOf.f (k : Nat) (s0_0 : Int) (a1_0 : Int) (a1_1 : Int) (a1_2 : Int) (l1_3 : List (S85)) (a1_4 : Int) (l1_5 : List (S59)) (l1_6 : List (S79)) : Option (List Int × Int) := if 0 ≤ (l1_3.length : Int) then (if ((l1_3.length : Int) : Int).toNat ≤ 35184372088832 then (swarfkit_StowageOf.l0 k ([] : List Int) (List.replicate ((l1_3.length : Int) : Int).toNat 0) 0 s0_0 a1_0 a1_1 a1_2 l1_3 a1_4 l1_5 l1_6) else (none)) else (none)
def swarfkit_StowageOf.T7 : Bool × List (List Nat × List Nat) := (true, [([], []), ([0], [0]), ([1], [1]), ([2], [2]), ([2], [2]), ([3, 4, 2], [2, 3, 4]), ([5, 2], [2, 5]), ([2], [2]), ([7, 2], [2, 7]), ([2], [2]), ([8, 9, 2], [2, 8, 9]), ([10, 2], [2, 10]), ([11, 2], [2, 11]), ([12, 2], [2, 12]), ([6, 13, 2], [2, 6, 13]), ([2], [2]), ([15, 2], [2, 15]), ([2], [2]), ([16, 17, 2], [2, 16, 17]), ([18, 2], [2, 18]), ([19, 2], [2, 19]), ([14, 20, 2], [2, 14, 20]), ([2, 21], [2, 21])])
def swarfkit_StowageOf.B7 : List Nat := [0, 1, 3, 7, 7, 31, 63, 7, 135, 7, 903, 1927, 3975, 8071, 16383, 7, 32775, 7, 229383, 491527, 1015815, 2097151, 4194303]
theorem swarfkit_StowageOf.tab7 : rtab .any (opsOf Try.f19 7) = swarfkit_StowageOf.T7 := by kernel_rfl
theorem swarfkit_StowageOf.bits7 : waitsOk swarfkit_StowageOf.T7.2 swarfkit_StowageOf.B7 = true := by kernel_rfl
def swarfkit_StowageOf.T10 : Bool × List (List Nat × List Nat) := (true, [([], []), ([], []), ([], []), ([], []), ([2, 3], [2, 3]), ([4], [4]), ([], []), ([6], [6]), ([], []), ([7, 8], [7, 8]), ([9], [9]), ([10], [10]), ([11], [11]), ([5, 12], [5, 12]), ([0, 1, 0, 1, 2, 3, 4, 5, 6, 7, 8, 9, 10, 11, 12, 13], [0, 1]), ([14, 13, 0, 1, 2, 3, 4, 5, 6, 7, 8, 9, 10, 11, 12, 13], [13, 14])])
def swarfkit_StowageOf.B10 : List Nat := [0, 0, 0, 0, 12, 28, 0, 64, 0, 448, 960, 1984, 4032, 8188, 16383, 32767]
theorem swarfkit_StowageOf.tab10 : rtab .any (opsOf Try.f19 10) = swarfkit_StowageOf.T10 := by kernel_rfl
theorem swarfkit_StowageOf.bits10 : waitsOk swarfkit_StowageOf.T10.2 swarfkit_StowageOf.B10 = true := by kernel_rfl
set_option maxHeartbeats 8000000 in
set_option maxRecDepth 100000 in
theorem swarfkit_StowageOf.calls (k : Nat) (g : Nat) (s0_0 : Int) (a1_0 : Int) (a1_1 : Int) (a1_2 : Int) (A1_3 : Option Addr) (c1_3 : Nat) (l1_3 : List (S85)) (a1_4 : Int) (A1_5 : Option Addr) (c1_5 : Nat) (l1_5 : List (S59)) (A1_6 : Option Addr) (c1_6 : Nat) (l1_6 : List (S79)) (r1 : List Int) (r2 : Int) (w0 w : World) (hI : IsS90 w0 w g s0_0) (hB : Below w0.heap.size w0 w) (hr1_3 : ∀ W_, KeepBut w W_ g none → Kd.C k85 W_ A1_3 l1_3.length l1_3) (hc1_3 : l1_3.length ≤ c1_3) (hr1_5 : ∀ W_, KeepBut w W_ g none → Kd.C k59 W_ A1_5 l1_5.length l1_5) (hc1_5 : l1_5.length ≤ c1_5) (hr1_6 : ∀ W_, KeepBut w W_ g none → Kd.C k79 W_ A1_6 l1_6.length l1_6) (hc1_6 : l1_6.length ≤ c1_6) (h : swarfkit_StowageOf.f k s0_0 a1_0 a1_1 a1_2 l1_3 a1_4 l1_5 l1_6 = some (r1, r2)) :
  Calls Try.prog 19 #[.pointer (some ⟨g, 0, none⟩), .agg #[.int .i64 a1_0, .int .i64 a1_1, .int .i64 a1_2, .slice A1_3 l1_3.length c1_3, .int .i64 a1_4, .slice A1_5 l1_5.length c1_5, .slice A1_6 l1_6.length c1_6]] w fun e w' => ∃ v0_ : Value, e = .returned (v0_) ∧ Kd.R (Kd.int .i64) 3 w' w.heap.size (fun _ => True) v0_ r1 ∧ IsS90 w0 w' g r2 ∧ Below w0.heap.size w0 w' ∧ KeepBut w w' g none := by
 have hu26 := Try.underlying26
 have HR1_3 := Aside0.mk hr1_3
 have HC1_3 := Aside0.mk hc1_3
 clear hr1_3 hc1_3
 have HR1_5 := Aside0.mk hr1_5
 have HC1_5 := Aside0.mk hc1_5
 clear hr1_5 hc1_5
 have HR1_6 := Aside0.mk hr1_6
 have HC1_6 := Aside0.mk hc1_6
 clear hr1_6 hc1_6
 have HI0 := Aside0.mk hI
 have HK := Aside0.mk (KeepBut.refl w g none)
 have HL := Aside0.mk hB.size
 clear hI
 have HW0 := Aside0.mk hB.size
 have HB := Aside0.mk hB
 clear hB
 have H : (if 0 ≤ (l1_3.length : Int) then (if ((l1_3.length : Int) : Int).toNat ≤ 35184372088832 then (swarfkit_StowageOf.l0 k ([] : List Int) (List.replicate ((l1_3.length : Int) : Int).toNat 0) 0 s0_0 a1_0 a1_1 a1_2 l1_3 a1_4 l1_5 l1_6) else (none)) else (none)) = some (r1, r2) := h
 clear h
 by_cases c3 : 0 ≤ (l1_3.length : Int)
 ·
  rw [if_pos c3] at H; have c3b0 := eq_true c3; have c3b1 : decide (0 ≤ (l1_3.length : Int)) = true := decide_eq_true c3; clear c3; by_cases c4 : ((l1_3.length : Int) : Int).toNat ≤ 35184372088832
  ·
   rw [if_pos c4] at H; have c4b0 := eq_true c4; have c4b1 : decide (((l1_3.length : Int) : Int).toNat ≤ 35184372088832) = true := decide_eq_true c4; clear c4; obtain ⟨y363, hy363⟩ : ∃ y_ : List Int, y_ = (List.replicate ((l1_3.length : Int) : Int).toNat 0) := ⟨_, rfl⟩; (replace H : (swarfkit_StowageOf.l0 k ([] : List Int) y363 0 s0_0 a1_0 a1_1 a1_2 l1_3 a1_4 l1_5 l1_6) = some (r1, r2) := by first | (rw [hy363]; with_reducible exact H) | (have H2_ := (Option.bind_some _ _).symm.trans H; rw [hy363]; with_reducible exact H2_) | (have H2_ := (Option.bind_some _ _).symm.trans H; with_reducible exact H2_) | with_reducible exact H | (rw [hy363]; exact H) | exact H); have Ny363 := Aside0.mk hy363; clear hy363; have H' := Aside0.mk H; clear H; go_enter Try.func19, Try.ntmps19
   go_wp2_with (first | (refine box_r (N := 3) rfl (cs := #[.int .i64 a1_0, .int .i64 a1_1, .int .i64 a1_2, .slice A1_3 l1_3.length c1_3, .int .i64 a1_4, .slice A1_5 l1_5.length c1_5, .slice A1_6 l1_6.length c1_6]) (t := 26) ?_; intro gb362 hg w5 hbox hb; replace HB := bl_x HB hb; have BK362 := Aside0.mk (hbox); have GW362 := Aside0.mk ((by rw [hg]; exact (keep_size (w := w) (g := g) (row := none) (by exact keep_y HK.out)) : w.heap.size ≤ gb362)); have GE362 := Aside0.mk ((Nat.le_trans HW0.out (by rw [hg]; exact (keep_size (w := w) (g := g) (row := none) (by exact keep_y HK.out)) : w.heap.size ≤ gb362) : w0.heap.size ≤ gb362)); replace HK := Aside0.mk (KeepBut.trans (by exact keep_y HK.out) (KeepBut.of_below hb g none) (.inl rfl)); have NB0_362 := Aside0.mk ((by rw [hg]; exact Nat.ne_of_lt (IsS90.lt (show IsS90 w0 _ g s0_0 from by exact IsS90.up HI0.out)) : g ≠ gb362)); have NB362_0 := Aside0.mk ((by rw [hg]; exact Nat.ne_of_gt (IsS90.lt (show IsS90 w0 _ g s0_0 from by exact IsS90.up HI0.out)) : gb362 ≠ g)); replace HI0 := Aside0.mk (IsS90.below (by exact IsS90.up HI0.out) hb); clear hb hbox hg; have hnb6 := NB362_0.out; have hnc6 := NB0_362.out; obtain ⟨hfz7_0, _, _, _, _, _, _, _⟩ := cf7 BK362) | ((with_reducible refine gate_dst (N := 12) rfl ?_); refine Kd.R_make (Kd.int .i64) _ 3 rfl (N := 12) rfl 27 _ _ rfl (l1_3.length : Int) rfl rfl Try.underlying27 (.int .i64 0) 8 info3 rfl (by decide) (by omega) 0 (ok := fun _ => True) (okp := fun _ => True) rfl (fun _ hk => hk) trivial (of_x) (Nat.le_trans (Nat.mul_le_mul_right _ (of_x : (l1_3.length : Int).toNat ≤ 35184372088832)) (by omega)) (Below.refl _ _) (Nat.le_refl _) ?_; intro v364 w8 ho9 hb hg_ hnew_; clear hg_ hnew_; (first | rw [← Ny363.out] at ho9 | (simp only [Int.reduceToNat] at ho9; rw [← Ny363.out] at ho9)); have HO365 := Aside0.mk (Kd.R_lower ho9 (keep_size (w := w) (g := g) (row := none) (by exact keep_y HK.out))); replace HI0 := Aside0.mk (IsS90.below (by exact IsS90.up HI0.out) hb); replace BK362 := bk_x BK362 hb; replace HK := Aside0.mk (KeepBut.trans (by exact keep_y HK.out) (KeepBut.of_below hb g none) (.inl rfl)); replace HB := bl_x HB hb; clear hb ho9))
   go_loopg [5, 7] k (fun kq v5 v7 w' => ∃ (x5_1 : List Int) (x6_1 : List Int) (x7_1 : Int) (x1000_1 : Int), v7 = .int .i64 x7_1 ∧ Aside0 (swarfkit_StowageOf.l0 kq x5_1 x6_1 x7_1 x1000_1 a1_0 a1_1 a1_2 l1_3 a1_4 l1_5 l1_6 = some (r1, r2)) ∧ Aside0 (kq ≤ k) ∧ Aside0 (Kd.R (Kd.int .i64) 3 w' w.heap.size (fun k_ => some k_ ≠ (v364 : Value).ownBlock) v5 x5_1) ∧ Aside0 (Kd.R (Kd.int .i64) 3 w' w.heap.size (fun k_ => some k_ ≠ (v5 : Value).ownBlock) v364 x6_1) ∧ Aside0 (w'.heap[gb362]? = some (.cells #[.int .i64 a1_0, .int .i64 a1_1, .int .i64 a1_2, (.slice A1_3 l1_3.length c1_3), .int .i64 a1_4, (.slice A1_5 l1_5.length c1_5), (.slice A1_6 l1_6.length c1_6)] 26 (0, 0))) ∧ Aside0 (IsS90 w0 w' g x1000_1) ∧ Aside0 (KeepBut w w' g none) ∧ Aside0 (Below w0.heap.size w0 w'))
   case atStart => exact ⟨(([] : List Int)), (y363), (0), (s0_0), (by first | rfl | (simp; done) | (simp [*]; done)), H', ⟨Nat.le_refl _⟩, ⟨by first | exact Kd.R_nil _ _ _ _ _ | exact Kd.N_nil _ _ _ _ _ | exact Kd.V_nil _ _ _ _ _ | exact Kd.Q_nil _ _ _ _ _ | exact Kd.S_nil _ _ _ _ _⟩, ⟨by (with_reducible repeat (first | apply Kd.R_alloc | apply Kd.R_drewN | apply Kd.R_drew)); exact Kd.R_mono HO365.out (fun _ hk => (by simp [Value.ownBlock]))⟩, ⟨blk_x BK362.out⟩, ⟨by exact IsS90.up HI0.out⟩, ⟨by exact keep_y HK.out⟩, ⟨by exact below_y HB.out⟩⟩
   case round =>
    clear H'; obtain ⟨x5_1, x6_1, x7_1, x1000_1, rfl, HA, HK1, HO_5, HO_6, BK362, HI0, HK, HB⟩ := hrel; cases gk with
    | zero => exact absurd HA.out (by simp [swarfkit_StowageOf.l0])
    | succ k1 =>
     have H := HA.out; clear HA; simp only [swarfkit_StowageOf.l0] at H; by_cases c10 : x7_1 < (l1_6.length : Int)
     ·
      rw [if_pos c10] at H; have c10b0 : decide (x7_1 < (l1_6.length : Int)) = true := decide_eq_true c10; clear c10; replace H := Option.bind_eq_some_iff.mp H; obtain ⟨⟨t366, t367⟩, A110, H⟩ := H
      try dsimp only at H
      have A11 := Aside0.mk A110; clear A110; have HC12 := Aside0.mk H; clear H; have hnb13 := NB362_0.out; have hnc13 := NB0_362.out; obtain ⟨hfz14_0, _, _, _, _, _, _, _⟩ := cf7 BK362
      go_upto_region 7 with (first | (refine goesG_x 31 rfl (some 25) Try.func31 #[.pointer (some ⟨g, 0, none⟩), .int .i64 (-1), .int .i64 (wrap64 ((l1_3.length : Int) - 1))] ?_; (with_reducible refine (swarfkit_Feed_Between.calls g x1000_1 (-1) (wrap64 ((l1_3.length : Int) - 1)) t366 t367 w0 _ ?side1 ?side2 A11.out).mono ?_); (case side1 => exact IsS90.up HI0.out); (case side2 => exact below_y HB.out); rintro e w15 ⟨rfl, hi, hb, hk⟩; refine ⟨_, rfl, ?_⟩; replace HO_5 := Aside0.mk (Kd.R_mono (Kd.R_keep (IsS90.apart (show IsS90 w0 _ g x1000_1 from by exact IsS90.up HI0.out) (Kd.R_x HO_5.out) (by decide)) hk (fun _ h => h.2)) (fun _ h => h.1)); replace HO_6 := Aside0.mk (Kd.R_mono (Kd.R_keep (IsS90.apart (show IsS90 w0 _ g x1000_1 from by exact IsS90.up HI0.out) (Kd.R_x HO_6.out) (by decide)) hk (fun _ h => h.2)) (fun _ h => h.1)); replace BK362 := Aside0.mk (KeepBut.blk hk (blk_x BK362.out) NB362_0.out (by simp)); replace HK := Aside0.mk (KeepBut.trans (by exact keep_y HK.out) hk (.inl rfl)); replace HB := Aside0.mk (hb); replace HI0 := Aside0.mk (hi); (try clear hb); (try clear hk); (try clear hi)))
      (try simp only [Act.put, put_x])
      go_cut [48] (fun v48 wc => ∃ (kq : Nat) (x48_11 : Bool), v48 = .bool x48_11 ∧ Aside0 (swarfkit_StowageOf.j1 kq x5_1 x6_1 x7_1 t366 x48_11 t367 a1_0 a1_1 a1_2 l1_3 a1_4 l1_5 l1_6 = some (r1, r2)) ∧ Aside0 (kq ≤ k1) ∧ Aside0 (Kd.R (Kd.int .i64) 3 wc w.heap.size (fun k_ => some k_ ≠ (v364 : Value).ownBlock) u5 x5_1) ∧ Aside0 (Kd.R (Kd.int .i64) 3 wc w.heap.size (fun k_ => some k_ ≠ (u5 : Value).ownBlock) v364 x6_1) ∧ Aside0 (wc.heap[gb362]? = some (.cells #[.int .i64 a1_0, .int .i64 a1_1, .int .i64 a1_2, (.slice A1_3 l1_3.length c1_3), .int .i64 a1_4, (.slice A1_5 l1_5.length c1_5), (.slice A1_6 l1_6.length c1_6)] 26 (0, 0))) ∧ Aside0 (IsS90 w0 wc g t367) ∧ Aside0 (KeepBut w wc g none) ∧ Aside0 (Below w0.heap.size w0 wc))
      case first =>
       have H := HC12.out; clear HC12; by_cases c16 : t366 ≥ 0
       ·
        rw [if_pos c16] at H; have c16b0 : decide (0 ≤ t366) = true := decide_eq_true c16; clear c16
        (first | rw [c16b0] | (simp only [i64_w, i32_w]; rw [c16b0]) | skip)
        by_cases c17 : 0 ≤ t366
        ·
         rw [if_pos c17] at H; have c17b0 : decide (0 ≤ t366) = true := decide_eq_true c17; clear c17; by_cases c18 : t366 < (x6_1.length : Int)
         ·
          rw [if_pos c18] at H; have c18b0 : decide (t366 < (x6_1.length : Int)) = true := decide_eq_true c18; clear c18; by_cases c19 : 0 ≤ x7_1
          ·
           rw [if_pos c19] at H; have c19b0 : decide (0 ≤ x7_1) = true := decide_eq_true c19; clear c19; by_cases c20 : t366 < (l1_3.length : Int)
           ·
            rw [if_pos c20] at H; have c20b0 : decide (t366 < (l1_3.length : Int)) = true := decide_eq_true c20; clear c20; have H' := Aside0.mk H; clear H
            try go_wp2
            replace HO_5 := Aside0.mk (Kd.R_drew HO_5.out); replace HO_6 := Aside0.mk (Kd.R_drew HO_6.out); replace BK362 := Aside0.mk (blk_drew BK362.out); replace HI0 := Aside0.mk (IsS90.drew HI0.out); replace HK := Aside0.mk (keep_drew HK.out); replace HB := Aside0.mk (below_drew1 HB.out); obtain ⟨Ao22, co22, eo22⟩ := Kd.R_slice HO_6.out
            (first | subst eo22 | (injection eo22 with f1_ f2_ f3_; have f4_ := f1_.symm; have f5_ := f3_.symm; clear f1_ f2_ f3_; subst f4_; subst f5_))
            have p368 : 0 ≤ (t366 : Int) := of_x; have q368 : t366 < (x6_1.length : Int) := of_x; obtain ⟨ad368, e368, hx368_0⟩ := Kd.at_int (Kd.R_reads' HO_6.out).2.2 t366 p368 q368; (cases e368); replace p368 := eq_true p368; replace q368 := eq_true q368; have p369 : 0 ≤ (x7_1 : Int) := of_x; have q369 : x7_1 < (l1_6.length : Int) := of_x; obtain ⟨ad369, e369, hx369_0, hx369_1, hx369_2⟩ := at_T79 (Kd.C_foot_now HR1_6.out HK.out) x7_1 p369 q369; have hw369_2 := hx369_2; have hw369_1 := hx369_1; have hw369_0 := hx369_0; (cases e369); have hne369_2 := (show (⟨(ad369.add ((x7_1).toNat * 3)).block, (ad369.add ((x7_1).toNat * 3)).off + 2, none⟩ : Addr).block ≠ g from by first | (rw [add_block]; exact Kd.foot_ne HR1_6.out (by omega) (by decide)) | (show (Addr.add _ _).block ≠ _; rw [add_block]; exact Kd.foot_ne HR1_6.out (by omega) (by decide)) | exact Kd.foot_ne HR1_6.out (by omega) (by decide) | (dsimp only; exact Kd.foot_ne HR1_6.out (by omega) (by decide))); have hlt369_2 := (Kd.foot_lt HR1_6.out (by omega) (by decide)); have hne369_1 := (show (⟨(ad369.add ((x7_1).toNat * 3)).block, (ad369.add ((x7_1).toNat * 3)).off + 1, none⟩ : Addr).block ≠ g from by first | (rw [add_block]; exact Kd.foot_ne HR1_6.out (by omega) (by decide)) | (show (Addr.add _ _).block ≠ _; rw [add_block]; exact Kd.foot_ne HR1_6.out (by omega) (by decide)) | exact Kd.foot_ne HR1_6.out (by omega) (by decide) | (dsimp only; exact Kd.foot_ne HR1_6.out (by omega) (by decide))); have hlt369_1 := (Kd.foot_lt HR1_6.out (by omega) (by decide)); have hne369_0 := (show ((ad369.add ((x7_1).toNat * 3)) : Addr).block ≠ g from by first | (rw [add_block]; exact Kd.foot_ne HR1_6.out (by omega) (by decide)) | (show (Addr.add _ _).block ≠ _; rw [add_block]; exact Kd.foot_ne HR1_6.out (by omega) (by decide)) | exact Kd.foot_ne HR1_6.out (by omega) (by decide) | (dsimp only; exact Kd.foot_ne HR1_6.out (by omega) (by decide))); have hlt369_0 := (Kd.foot_lt HR1_6.out (by omega) (by decide)); replace p369 := eq_true p369; replace q369 := eq_true q369; have p370 : 0 ≤ (t366 : Int) := of_x; have q370 : t366 < (l1_3.length : Int) := of_x; obtain ⟨ad370, e370, hx370_0, hx370_1, hx370_2⟩ := at_T85 (Kd.C_foot_now HR1_3.out HK.out) t366 p370 q370; have hw370_2 := hx370_2; have hw370_1 := hx370_1; have hw370_0 := hx370_0; (cases e370); have hne370_2 := (show (⟨(ad370.add ((t366).toNat * 3)).block, (ad370.add ((t366).toNat * 3)).off + 2, none⟩ : Addr).block ≠ g from by first | (rw [add_block]; exact Kd.foot_ne HR1_3.out (by omega) (by decide)) | (show (Addr.add _ _).block ≠ _; rw [add_block]; exact Kd.foot_ne HR1_3.out (by omega) (by decide)) | exact Kd.foot_ne HR1_3.out (by omega) (by decide) | (dsimp only; exact Kd.foot_ne HR1_3.out (by omega) (by decide))); have hlt370_2 := (Kd.foot_lt HR1_3.out (by omega) (by decide)); have hne370_1 := (show (⟨(ad370.add ((t366).toNat * 3)).block, (ad370.add ((t366).toNat * 3)).off + 1, none⟩ : Addr).block ≠ g from by first | (rw [add_block]; exact Kd.foot_ne HR1_3.out (by omega) (by decide)) | (show (Addr.add _ _).block ≠ _; rw [add_block]; exact Kd.foot_ne HR1_3.out (by omega) (by decide)) | exact Kd.foot_ne HR1_3.out (by omega) (by decide) | (dsimp only; exact Kd.foot_ne HR1_3.out (by omega) (by decide))); have hlt370_1 := (Kd.foot_lt HR1_3.out (by omega) (by decide)); have hne370_0 := (show ((ad370.add ((t366).toNat * 3)) : Addr).block ≠ g from by first | (rw [add_block]; exact Kd.foot_ne HR1_3.out (by omega) (by decide)) | (show (Addr.add _ _).block ≠ _; rw [add_block]; exact Kd.foot_ne HR1_3.out (by omega) (by decide)) | exact Kd.foot_ne HR1_3.out (by omega) (by decide) | (dsimp only; exact Kd.foot_ne HR1_3.out (by omega) (by decide))); have hlt370_0 := (Kd.foot_lt HR1_3.out (by omega) (by decide)); replace p370 := eq_true p370; replace q370 := eq_true q370; refine start_ (n := 23) (S := fun w' => w'.cell? ⟨gb362, 0, none⟩ = some (.int .i64 a1_0) ∧ w'.cell? ⟨gb362, 1, none⟩ = some (.int .i64 a1_1) ∧ w'.cell? ⟨gb362, 2, none⟩ = some (.int .i64 a1_2) ∧ w'.cell? ⟨gb362, 3, none⟩ = some (.slice (some ad370) l1_3.length c1_3) ∧ w'.cell? ⟨gb362, 4, none⟩ = some (.int .i64 a1_4) ∧ w'.cell? ⟨gb362, 5, none⟩ = some (.slice A1_5 l1_5.length c1_5) ∧ w'.cell? ⟨gb362, 6, none⟩ = some (.slice (some ad369) l1_6.length c1_6) ∧ w'.cell? (ad368.add (t366).toNat) = some (.int .i64 (rd x6_1 t366)) ∧ w'.cell? (ad369.add ((x7_1).toNat * 3)) = some (.int .i64 ((rd_T79 l1_6 x7_1).f0.f0)) ∧ w'.cell? ⟨(ad369.add ((x7_1).toNat * 3)).block, (ad369.add ((x7_1).toNat * 3)).off + 1, none⟩ = some (.int .i64 ((rd_T79 l1_6 x7_1).f0.f1)) ∧ w'.cell? ⟨(ad369.add ((x7_1).toNat * 3)).block, (ad369.add ((x7_1).toNat * 3)).off + 2, none⟩ = some (.int .i64 ((rd_T79 l1_6 x7_1).f1)) ∧ w'.cell? (ad370.add ((t366).toNat * 3)) = some (.int .i64 ((rd_T85 l1_3 t366).f0)) ∧ w'.cell? ⟨(ad370.add ((t366).toNat * 3)).block, (ad370.add ((t366).toNat * 3)).off + 1, none⟩ = some (.int .i64 ((rd_T85 l1_3 t366).f1)) ∧ w'.cell? ⟨(ad370.add ((t366).toNat * 3)).block, (ad370.add ((t366).toNat * 3)).off + 2, none⟩ = some (.int .i64 ((rd_T85 l1_3 t366).f2))) (ds := []) #[false, false, false, false, false, false, false, false, false, false, false, false, false, false, false, false, false, false, false, false, false, false, false] (by kernel_rfl) rfl rfl ⟨(blk_cell BK362.out 0).trans rfl, (blk_cell BK362.out 1).trans rfl, (blk_cell BK362.out 2).trans rfl, (blk_cell BK362.out 3).trans rfl, (blk_cell BK362.out 4).trans rfl, (blk_cell BK362.out 5).trans rfl, (blk_cell BK362.out 6).trans rfl, hx368_0, hx369_0, hx369_1, hx369_2, hx370_0, hx370_1, hx370_2⟩ (fun hHeld => ?_); refine with_tabW swarfkit_StowageOf.tab7 swarfkit_StowageOf.bits7 (fun HT_ HW_ => ?_); generalize w15.drew = w21 at HO_5 HO_6 BK362 HI0 HK HB hx368_0 hx369_0 hx369_1 hx369_2 hx370_0 hx370_1 hx370_2 hHeld ⊢; refine pure_t 0 (some 26) (bz 23 1) HT_ ?_; refine pure_t 1 (some 27) (bz 23 3) HT_ ?_; refine pure_t 2 (some 28) (bz 23 7) HT_ ?_; refine pure_t 3 (some 29) (bz 23 15) HT_ ?_; refine pure_t 4 (some 30) (bz 23 31) HT_ ?_; refine pure_t 5 (some 31) (bz 23 63) HT_ ?_; refine pure_t 7 (some 33) (bz 23 191) HT_ ?_; refine pure_t 9 (some 35) (bz 23 703) HT_ ?_; refine pure_t 15 (some 41) (bz 23 33471) HT_ ?_; refine pure_t 17 (some 43) (bz 23 164543) HT_ ?_; refine take_t 6 (some 32) (bz 23 164607) HT_ HW_ hHeld ?_; refine take_t 8 (some 34) (bz 23 164863) HT_ HW_ hHeld ?_; refine pure_t 10 (some 36) (bz 23 165887) HT_ ?_; refine pure_t 11 (some 37) (bz 23 167935) HT_ ?_; refine pure_t 12 (some 38) (bz 23 172031) HT_ ?_; refine take_t 13 (some 39) (bz 23 180223) HT_ HW_ hHeld ?_; refine pure_t 14 (some 40) (bz 23 196607) HT_ ?_; refine take_t 16 (some 42) (bz 23 262143) HT_ HW_ hHeld ?_; refine pure_t 18 (some 44) (bz 23 524287) HT_ ?_; refine pure_t 19 (some 45) (bz 23 1048575) HT_ ?_; refine take_t 20 (some 46) (bz 23 2097151) HT_ HW_ hHeld ?_; refine pure_t 21 (some 47) (bz 23 4194303) HT_ ?_; refine pure_t 22 (some 48) (bz 23 8388607) HT_ ?_; refine done_ (done_of HT_.out (by kernel_rfl)) ?_
            try go_wp2
            go_meet
            case rel => exact ⟨_, (decide ((wrap64 ((rd x6_1 t366) + ((rd_T79 l1_6 x7_1).f0.f1))) > ((rd_T85 l1_3 t366).f0))), (by first | rfl | (simp; done) | (simp [*]; done)), H', ⟨by have := HK1.out; first | omega | exact Nat.le_refl _⟩, ⟨by (with_reducible repeat (first | apply Kd.R_alloc | apply Kd.R_drewN | apply Kd.R_drew)); exact HO_5.out⟩, ⟨by (with_reducible repeat (first | apply Kd.R_alloc | apply Kd.R_drewN | apply Kd.R_drew)); exact HO_6.out⟩, ⟨blk_x BK362.out⟩, ⟨by exact IsS90.up HI0.out⟩, ⟨by exact keep_y HK.out⟩, ⟨by exact below_y HB.out⟩⟩
           ·
            rw [if_neg c20] at H; exact absurd H (by simp)
          ·
           rw [if_neg c19] at H; exact absurd H (by simp)
         ·
          rw [if_neg c18] at H; exact absurd H (by simp)
        ·
         rw [if_neg c17] at H; exact absurd H (by simp)
       ·
        rw [if_neg c16] at H; have c16b0 : decide (0 ≤ t366) = false := decide_eq_false c16; clear c16
        (first | rw [c16b0] | (simp only [i64_w, i32_w]; rw [c16b0]) | skip)
        have H' := Aside0.mk H; clear H
        try go_wp2
        replace HO_5 := Aside0.mk (Kd.R_drew HO_5.out); replace HO_6 := Aside0.mk (Kd.R_drew HO_6.out); replace BK362 := Aside0.mk (blk_drew BK362.out); replace HI0 := Aside0.mk (IsS90.drew HI0.out); replace HK := Aside0.mk (keep_drew HK.out); replace HB := Aside0.mk (below_drew1 HB.out); refine start_ (n := 23) (S := fun w' => True) (ds := []) #[false, false, false, false, false, false, false, false, false, false, false, false, false, false, false, false, false, false, false, false, false, false, false] (by kernel_rfl) rfl rfl trivial (fun hHeld => ?_); refine with_tabW swarfkit_StowageOf.tab7 swarfkit_StowageOf.bits7 (fun HT_ HW_ => ?_); generalize w15.drew = w23 at HO_5 HO_6 BK362 HI0 HK HB hHeld ⊢; refine pure_t 0 (some 26) (bz 23 1) HT_ ?_; refine pure_t 1 (some 27) (bz 23 3) HT_ ?_; refine pure_t 2 (some 28) (bz 23 7) HT_ ?_; refine dead_t 3 (some 29) (bz 23 15) HT_ ?_; refine dead_t 4 (some 30) (bz 23 31) HT_ ?_; refine dead_t 5 (some 31) (bz 23 63) HT_ ?_; refine dead_t 6 (some 32) (bz 23 127) HT_ ?_; refine dead_t 7 (some 33) (bz 23 255) HT_ ?_; refine dead_t 8 (some 34) (bz 23 511) HT_ ?_; refine dead_t 9 (some 35) (bz 23 1023) HT_ ?_; refine dead_t 10 (some 36) (bz 23 2047) HT_ ?_; refine dead_t 11 (some 37) (bz 23 4095) HT_ ?_; refine dead_t 12 (some 38) (bz 23 8191) HT_ ?_; refine dead_t 13 (some 39) (bz 23 16383) HT_ ?_; refine dead_t 14 (some 40) (bz 23 32767) HT_ ?_; refine dead_t 15 (some 41) (bz 23 65535) HT_ ?_; refine dead_t 16 (some 42) (bz 23 131071) HT_ ?_; refine dead_t 17 (some 43) (bz 23 262143) HT_ ?_; refine dead_t 18 (some 44) (bz 23 524287) HT_ ?_; refine dead_t 19 (some 45) (bz 23 1048575) HT_ ?_; refine dead_t 20 (some 46) (bz 23 2097151) HT_ ?_; refine dead_t 21 (some 47) (bz 23 4194303) HT_ ?_; refine pure_t 22 (some 48) (bz 23 8388607) HT_ ?_; refine done_ (done_of HT_.out (by kernel_rfl)) ?_
        try go_wp2
        go_meet
        case rel => exact ⟨_, (false), (by first | rfl | (simp; done) | (simp [*]; done)), H', ⟨by have := HK1.out; first | omega | exact Nat.le_refl _⟩, ⟨by (with_reducible repeat (first | apply Kd.R_alloc | apply Kd.R_drewN | apply Kd.R_drew)); exact HO_5.out⟩, ⟨by (with_reducible repeat (first | apply Kd.R_alloc | apply Kd.R_drewN | apply Kd.R_drew)); exact HO_6.out⟩, ⟨blk_x BK362.out⟩, ⟨by exact IsS90.up HI0.out⟩, ⟨by exact keep_y HK.out⟩, ⟨by exact below_y HB.out⟩⟩
      case rest =>
       clear HC12; obtain ⟨kq, x48_11, rfl, HA, HJ11, HO_5, HO_6, BK362, HI0, HK, HB⟩ := hcut; cases kq with
       | zero => exact absurd HA.out (by simp [swarfkit_StowageOf.j1])
       | succ kj11 =>
        have H := HA.out; clear HA; simp only [swarfkit_StowageOf.j1] at H; by_cases c24 : x48_11 = true
        ·
         subst c24; (have H1 : (if (-1) ≥ 0 then (if 0 ≤ (-1) then (if (-1) < (x6_1.length : Int) then (if 0 ≤ x7_1 then (if x7_1 < (l1_6.length : Int) then (if x5_1.length < 17592186044416 then (swarfkit_StowageOf.l0 kj11 (x5_1 ++ [(-1)]) (x6_1.set ((-1) : Int).toNat (wrap64 ((rd x6_1 (-1)) + ((rd_T79 l1_6 x7_1).f0.f1)))) (wrap64 (x7_1 + 1)) t367 a1_0 a1_1 a1_2 l1_3 a1_4 l1_5 l1_6) else (none)) else (none)) else (none)) else (none)) else (none)) else (if x5_1.length < 17592186044416 then (swarfkit_StowageOf.l0 kj11 (x5_1 ++ [(-1)]) x6_1 (wrap64 (x7_1 + 1)) t367 a1_0 a1_1 a1_2 l1_3 a1_4 l1_5 l1_6) else (none))) = some (r1, r2) := by rw [if_pos rfl] at H; exact H); clear H; have H := H1; clear H1; by_cases c25 : (-1) ≥ 0
         ·
          exact absurd c25 (by decide)
         ·
          rw [if_neg c25] at H; have c25b0 : decide (0 ≤ (-1)) = false := decide_eq_false c25; clear c25; by_cases c36 : x5_1.length < 17592186044416
          ·
           rw [if_pos c36] at H; have LMc36 := Aside0.mk c36; clear c36; obtain ⟨y377, hy377⟩ : ∃ y_ : List Int, y_ = (x5_1 ++ [(-1)]) := ⟨_, rfl⟩; (replace H : (swarfkit_StowageOf.l0 kj11 y377 x6_1 (wrap64 (x7_1 + 1)) t367 a1_0 a1_1 a1_2 l1_3 a1_4 l1_5 l1_6) = some (r1, r2) := by first | (rw [hy377]; with_reducible exact H) | (have H2_ := (Option.bind_some _ _).symm.trans H; rw [hy377]; with_reducible exact H2_) | (have H2_ := (Option.bind_some _ _).symm.trans H; with_reducible exact H2_) | with_reducible exact H | (rw [hy377]; exact H) | exact H); have Ny377 := Aside0.mk hy377; clear hy377; have H' := Aside0.mk H; clear H
           go_wp2_with (first | ((with_reducible refine gate_builtin (b := .append) (xs := #[.tmp 66, .tmp 68]) rfl ?_); at_builtin; refine Kd.R_append (Kd.int .i64) w.heap.size rfl (.tmp 66) (.tmp 68) 27 3 (.int .i64 0) 8 rfl Try.underlying27 info3 rfl (by decide) (by omega) u5 x5_1 (-1) [.int .i64 (-1)] (fun k_ => some k_ ≠ (v364 : Value).ownBlock) (fun _ => False) rfl rfl ?aP (fun _ hk => hk.elim) ?aF ?aO (Below.refl _ _) ?aS ?aL ?_; (case aP => exact rfl); (case aF => exact (fun k_ hk => Kd.fresh' (Kd.R_lt (Kd.R_x HO_6.out)) k_ hk)); (case aO => exact (Kd.R_x HO_5.out)); (case aS => exact (keep_size (w := w) (g := g) (row := none) (by exact keep_y HK.out))); (case aL => have := LMc36.out; omega); intro v378 w37 ho hb hg hat; rw [← Ny377.out] at ho; replace HO_6 := Aside0.mk (Kd.R_after (ok := (fun _ => True)) (by (with_reducible repeat (first | apply Kd.R_alloc | apply Kd.R_drewN | apply Kd.R_drew)); exact Kd.R_mono HO_6.out (fun _ hk => ⟨trivial, hk⟩)) hg hat); replace BK362 := Aside0.mk (blk_grown (blk_x BK362.out) hg (Kd.R_ne HO_5.out BK362.out (by decide))); replace HI0 := Aside0.mk (IsS90.grown (by exact IsS90.up HI0.out) hg (IsS90.own_ne HI0.out HO_5.out (by decide))); replace HB := Aside0.mk (below_weaken (by exact below_y HB.out) HL.out hb); replace HK := Aside0.mk (KeepBut.trans (by exact keep_y HK.out) (KeepBut.of_grown hg g) (Kd.R_base2 HO_5.out)); have HO379 := Aside0.mk (ho); clear HO_5; clear ho hb hg hat))
           go_roundg kj11
           case measure => have := HK1.out; have := HJ11.out; omega
           case rel => exact ⟨(y377), (x6_1), (wrap64 (x7_1 + 1)), (t367), (by first | rfl | (simp; done) | (simp [*]; done)), H', ⟨by have := HK1.out; have := HJ11.out; omega⟩, ⟨by (with_reducible repeat (first | apply Kd.R_alloc | apply Kd.R_drewN | apply Kd.R_drew)); exact HO379.out⟩, ⟨by (with_reducible repeat (first | apply Kd.R_alloc | apply Kd.R_drewN | apply Kd.R_drew)); exact Kd.R_mono HO_6.out (fun _ hk => hk.2)⟩, ⟨blk_x BK362.out⟩, ⟨by exact IsS90.up HI0.out⟩, ⟨by exact keep_y HK.out⟩, ⟨by exact below_y HB.out⟩⟩
          ·
           rw [if_neg c36] at H; exact absurd H (by simp)
        ·
         replace c24 := Bool.eq_false_iff.mpr c24; subst c24; replace H : (if t366 ≥ 0 then (if 0 ≤ t366 then (if t366 < (x6_1.length : Int) then (if 0 ≤ x7_1 then (if x7_1 < (l1_6.length : Int) then (if x5_1.length < 17592186044416 then (swarfkit_StowageOf.l0 kj11 (x5_1 ++ [t366]) (x6_1.set (t366 : Int).toNat (wrap64 ((rd x6_1 t366) + ((rd_T79 l1_6 x7_1).f0.f1)))) (wrap64 (x7_1 + 1)) t367 a1_0 a1_1 a1_2 l1_3 a1_4 l1_5 l1_6) else (none)) else (none)) else (none)) else (none)) else (none)) else (if x5_1.length < 17592186044416 then (swarfkit_StowageOf.l0 kj11 (x5_1 ++ [t366]) x6_1 (wrap64 (x7_1 + 1)) t367 a1_0 a1_1 a1_2 l1_3 a1_4 l1_5 l1_6) else (none))) = some (r1, r2) := ifn_x H; by_cases c38 : t366 ≥ 0
         ·
          rw [if_pos c38] at H; have c38b0 : decide (0 ≤ t366) = true := decide_eq_true c38; clear c38; by_cases c39 : 0 ≤ t366
          ·
           rw [if_pos c39] at H; have c39b0 : decide (0 ≤ t366) = true := decide_eq_true c39; clear c39; by_cases c40 : t366 < (x6_1.length : Int)
           ·
            rw [if_pos c40] at H; have c40b0 : decide (t366 < (x6_1.length : Int)) = true := decide_eq_true c40; clear c40; by_cases c41 : 0 ≤ x7_1
            ·
             rw [if_pos c41] at H; have c41b0 : decide (0 ≤ x7_1) = true := decide_eq_true c41; clear c41; by_cases c42 : x7_1 < (l1_6.length : Int)
             ·
              rw [if_pos c42] at H; have c42b0 : decide (x7_1 < (l1_6.length : Int)) = true := decide_eq_true c42; clear c42; obtain ⟨y382, hy382⟩ : ∃ y_ : List Int, y_ = (x6_1.set (t366 : Int).toNat (wrap64 ((rd x6_1 t366) + ((rd_T79 l1_6 x7_1).f0.f1)))) := ⟨_, rfl⟩; (replace H : (if x5_1.length < 17592186044416 then (swarfkit_StowageOf.l0 kj11 (x5_1 ++ [t366]) y382 (wrap64 (x7_1 + 1)) t367 a1_0 a1_1 a1_2 l1_3 a1_4 l1_5 l1_6) else (none)) = some (r1, r2) := by first | (rw [hy382]; with_reducible exact H) | (have H2_ := (Option.bind_some _ _).symm.trans H; rw [hy382]; with_reducible exact H2_) | (have H2_ := (Option.bind_some _ _).symm.trans H; with_reducible exact H2_) | with_reducible exact H | (rw [hy382]; exact H) | exact H); have Ny382 := Aside0.mk hy382; clear hy382; by_cases c44 : x5_1.length < 17592186044416
              ·
               rw [if_pos c44] at H; have LMc44 := Aside0.mk c44; clear c44; obtain ⟨y383, hy383⟩ : ∃ y_ : List Int, y_ = (x5_1 ++ [t366]) := ⟨_, rfl⟩; (replace H : (swarfkit_StowageOf.l0 kj11 y383 y382 (wrap64 (x7_1 + 1)) t367 a1_0 a1_1 a1_2 l1_3 a1_4 l1_5 l1_6) = some (r1, r2) := by first | (rw [hy383]; with_reducible exact H) | (have H2_ := (Option.bind_some _ _).symm.trans H; rw [hy383]; with_reducible exact H2_) | (have H2_ := (Option.bind_some _ _).symm.trans H; with_reducible exact H2_) | with_reducible exact H | (rw [hy383]; exact H) | exact H); have Ny383 := Aside0.mk hy383; clear hy383; have H' := Aside0.mk H; clear H
               try go_wp2
               replace HO_5 := Aside0.mk (Kd.R_drew HO_5.out); replace HO_6 := Aside0.mk (Kd.R_drew HO_6.out); replace BK362 := Aside0.mk (blk_drew BK362.out); replace HI0 := Aside0.mk (IsS90.drew HI0.out); replace HK := Aside0.mk (keep_drew HK.out); replace HB := Aside0.mk (below_drew1 HB.out); obtain ⟨Ao46, co46, eo46⟩ := Kd.R_slice HO_6.out
               (first | subst eo46 | (injection eo46 with f1_ f2_ f3_; have f4_ := f1_.symm; have f5_ := f3_.symm; clear f1_ f2_ f3_; subst f4_; subst f5_))
               have p380 : 0 ≤ (t366 : Int) := of_x; have q380 : t366 < (x6_1.length : Int) := of_x; obtain ⟨ad380, e380, hx380_0⟩ := Kd.at_int (Kd.R_reads' HO_6.out).2.2 t366 p380 q380; (cases e380); replace p380 := eq_true p380; replace q380 := eq_true q380; have p381 : 0 ≤ (x7_1 : Int) := of_x; have q381 : x7_1 < (l1_6.length : Int) := of_x; obtain ⟨ad381, e381, hx381_0, hx381_1, hx381_2⟩ := at_T79 (Kd.C_foot_now HR1_6.out HK.out) x7_1 p381 q381; have hw381_2 := hx381_2; have hw381_1 := hx381_1; have hw381_0 := hx381_0; (cases e381); have hne381_2 := (show (⟨(ad381.add ((x7_1).toNat * 3)).block, (ad381.add ((x7_1).toNat * 3)).off + 2, none⟩ : Addr).block ≠ g from by first | (rw [add_block]; exact Kd.foot_ne HR1_6.out (by omega) (by decide)) | (show (Addr.add _ _).block ≠ _; rw [add_block]; exact Kd.foot_ne HR1_6.out (by omega) (by decide)) | exact Kd.foot_ne HR1_6.out (by omega) (by decide) | (dsimp only; exact Kd.foot_ne HR1_6.out (by omega) (by decide))); have hlt381_2 := (Kd.foot_lt HR1_6.out (by omega) (by decide)); have hne381_1 := (show (⟨(ad381.add ((x7_1).toNat * 3)).block, (ad381.add ((x7_1).toNat * 3)).off + 1, none⟩ : Addr).block ≠ g from by first | (rw [add_block]; exact Kd.foot_ne HR1_6.out (by omega) (by decide)) | (show (Addr.add _ _).block ≠ _; rw [add_block]; exact Kd.foot_ne HR1_6.out (by omega) (by decide)) | exact Kd.foot_ne HR1_6.out (by omega) (by decide) | (dsimp only; exact Kd.foot_ne HR1_6.out (by omega) (by decide))); have hlt381_1 := (Kd.foot_lt HR1_6.out (by omega) (by decide)); have hne381_0 := (show ((ad381.add ((x7_1).toNat * 3)) : Addr).block ≠ g from by first | (rw [add_block]; exact Kd.foot_ne HR1_6.out (by omega) (by decide)) | (show (Addr.add _ _).block ≠ _; rw [add_block]; exact Kd.foot_ne HR1_6.out (by omega) (by decide)) | exact Kd.foot_ne HR1_6.out (by omega) (by decide) | (dsimp only; exact Kd.foot_ne HR1_6.out (by omega) (by decide))); have hlt381_0 := (Kd.foot_lt HR1_6.out (by omega) (by decide)); replace p381 := eq_true p381; replace q381 := eq_true q381; have p43 : 0 ≤ (t366 : Int) := of_x; have q43 : (t366 : Int) < ((x6_1.length : Int) : Int) := of_x; obtain ⟨go43, co43, eo43, gb43, gl43, cl43, HG43⟩ := Kd.R_form HO_6.out (by omega)
               (first | cases eo43 | (injection eo43 with ea_ en_ ec_; (first | subst ea_ | (injection ea_ with ea_; subst ea_)); subst ec_; clear en_))
               have GB43 := Aside0.mk gb43; have GG43 := Aside0.mk HG43; clear gb43 gl43 HG43
               (first | simp only [add_plain] at hx380_0 | skip)
               obtain ⟨hx43_0, hf43_0⟩ := Kd.R_celln 0 HO_6.out (t366 : Int) p43 q43; replace p43 := eq_true p43; replace q43 := eq_true q43; have HN0_go43 := Aside0.mk (show g ≠ go43 from by have h_ := IsS90.own_ne HI0.out HO_6.out (by decide); intro e_; exact h_ (by rw [e_]; rfl)); have HP47 := Kd.R_putn HO_6.out (t366 : Int) (wrap64 ((rd x6_1 t366) + ((rd_T79 l1_6 x7_1).f0.f1))); rw [← Ny382.out] at HP47; have HQ47 := Aside0.mk HP47; clear HP47; refine start_ (n := 16) (S := fun w' => w'.cell? ⟨gb362, 0, none⟩ = some (.int .i64 a1_0) ∧ w'.cell? ⟨gb362, 1, none⟩ = some (.int .i64 a1_1) ∧ w'.cell? ⟨gb362, 2, none⟩ = some (.int .i64 a1_2) ∧ w'.cell? ⟨gb362, 3, none⟩ = some (.slice A1_3 l1_3.length c1_3) ∧ w'.cell? ⟨gb362, 4, none⟩ = some (.int .i64 a1_4) ∧ w'.cell? ⟨gb362, 5, none⟩ = some (.slice A1_5 l1_5.length c1_5) ∧ w'.cell? ⟨gb362, 6, none⟩ = some (.slice (some ad381) l1_6.length c1_6) ∧ w'.cell? ⟨go43, (t366).toNat, none⟩ = some (.int .i64 (rd x6_1 t366)) ∧ w'.cell? (ad381.add ((x7_1).toNat * 3)) = some (.int .i64 ((rd_T79 l1_6 x7_1).f0.f0)) ∧ w'.cell? ⟨(ad381.add ((x7_1).toNat * 3)).block, (ad381.add ((x7_1).toNat * 3)).off + 1, none⟩ = some (.int .i64 ((rd_T79 l1_6 x7_1).f0.f1)) ∧ w'.cell? ⟨(ad381.add ((x7_1).toNat * 3)).block, (ad381.add ((x7_1).toNat * 3)).off + 2, none⟩ = some (.int .i64 ((rd_T79 l1_6 x7_1).f1))) (ds := [15]) #[false, false, false, false, false, false, false, false, false, false, false, false, false, false, false, false] (by kernel_rfl) rfl rfl ⟨(blk_cell BK362.out 0).trans rfl, (blk_cell BK362.out 1).trans rfl, (blk_cell BK362.out 2).trans rfl, (blk_cell BK362.out 3).trans rfl, (blk_cell BK362.out 4).trans rfl, (blk_cell BK362.out 5).trans rfl, (blk_cell BK362.out 6).trans rfl, hx380_0, hx381_0, hx381_1, hx381_2⟩ (fun hHeld => ?_); refine with_tabW swarfkit_StowageOf.tab10 swarfkit_StowageOf.bits10 (fun HT_ HW_ => ?_); generalize wc.drew = w45 at HO_5 HO_6 BK362 HI0 HK HB GG43 HQ47 hf43_0 hx380_0 hx381_0 hx381_1 hx381_2 hx43_0 hHeld ⊢; refine pure_t 0 (some 51) (bz 16 1) HT_ ?_; refine pure_t 1 (some 52) (bz 16 3) HT_ ?_; refine pure_t 2 (some 53) (bz 16 7) HT_ ?_; refine pure_t 3 (some 54) (bz 16 15) HT_ ?_; refine pure_t 4 (some 55) (bz 16 31) HT_ ?_; refine pure_t 6 (some 57) (bz 16 95) HT_ ?_; refine pure_t 8 (some 59) (bz 16 351) HT_ ?_; refine take_t 5 (some 56) (bz 16 383) HT_ HW_ hHeld ?_; refine take_t 7 (some 58) (bz 16 511) HT_ HW_ hHeld ?_; refine pure_t 9 (some 60) (bz 16 1023) HT_ ?_; refine pure_t 10 (some 61) (bz 16 2047) HT_ ?_; refine pure_t 11 (some 62) (bz 16 4095) HT_ ?_; refine take_t 12 (some 63) (bz 16 8191) HT_ HW_ hHeld ?_; refine pure_t 13 (some 64) (bz 16 16383) HT_ ?_; refine pure_t 14 (some 65) (bz 16 32767) HT_ ?_; refine last_ (i := 15) (N := none) (bz 16 65535) rfl rfl (one_of HT_.out (by kernel_rfl)) (by decide) (fun K hK => ?_); refine skip_ (w1 := ?_) (by rfl) rfl ?_ ?_; rotate_left
               ·
                go_simp
                rfl
               refine hK.out _ _ ?_; clear hK K; refine done_ (done_of HT_.out (by kernel_rfl)) ?_
               try go_wp2_with (first | ((with_reducible refine gate_builtin (b := .append) (xs := #[.tmp 66, .tmp 68]) rfl ?_); at_builtin; refine Kd.R_append (Kd.int .i64) w.heap.size rfl (.tmp 66) (.tmp 68) 27 3 (.int .i64 0) 8 rfl Try.underlying27 info3 rfl (by decide) (by omega) u5 x5_1 t366 [.int .i64 t366] (fun k_ => some k_ ≠ (.slice (some ⟨go43, 0, none⟩) x6_1.length co46 : Value).ownBlock) (fun _ => False) rfl (by first | (go_simp; done) | (go_simp; rfl)) ?aP (fun _ hk => hk.elim) ?aF ?aO (Below.refl _ _) ?aS ?aL ?_; (case aP => exact rfl); (case aF => exact (fun k_ hk => Kd.fresh' (Kd.R_lt (Kd.R_x HQ47.out)) k_ hk)); (case aO => exact (by (with_reducible repeat (first | apply Kd.R_alloc | apply Kd.R_drewN | apply Kd.R_drew)); exact Kd.R_mono (Kd.R_far (p := ⟨go43, (t366 : Int).toNat, none⟩) (Kd.R_mono HO_5.out (fun k_ hk => (⟨hk, fun e_ => hk (by rw [e_]; rfl)⟩ : _ ∧ k_ ≠ go43))) (fun _ hk => hk.2) (.int .i64 (wrap64 ((rd x6_1 t366) + ((rd_T79 l1_6 x7_1).f0.f1))))) (fun _ hk => hk.1))); (case aS => exact (keep_size (w := w) (g := g) (row := none) (by exact keep_y HK.out))); (case aL => have := LMc44.out; omega); intro v384 w48 ho hb hg hat; rw [← Ny383.out] at ho; replace BK362 := Aside0.mk (blk_grown (g := gb362) (o := .cells #[.int .i64 a1_0, .int .i64 a1_1, .int .i64 a1_2, .slice A1_3 l1_3.length c1_3, .int .i64 a1_4, .slice A1_5 l1_5.length c1_5, .slice (some ad381) l1_6.length c1_6] 26 (0, 0)) (by (with_reducible repeat (first | refine blk_drewN ?_ _ | refine blk_drew ?_ | refine blk_alloc ?_ _)); refine blk_far ?_ (by have h_ := Kd.R_ne HO_6.out BK362.out (by decide); intro e_; exact h_ (by rw [e_]; rfl)) _; (with_reducible repeat (first | refine blk_drewN ?_ _ | refine blk_drew ?_ | refine blk_alloc ?_ _)); exact BK362.out) hg (Kd.R_ne HO_5.out BK362.out (by decide))); replace HO_6 := Aside0.mk (Kd.R_after (ok := (fun _ => True)) (by (with_reducible repeat (first | apply Kd.R_alloc | apply Kd.R_drewN | apply Kd.R_drew)); exact Kd.R_mono HQ47.out (fun _ hk => ⟨trivial, hk⟩)) hg hat); replace HB := Aside0.mk (below_weaken (by repeat (first | (with_reducible first | exact HB.out | apply below_alloc | apply pw_below_drewN | apply below_drew1 | refine below_set ?_ (Nat.le_trans HL.out GB43.out) | refine below_set ?_ (IsS90.ge HI0.out) | refine below_set ?_ GE362.out) | exact HB.out)) HL.out hb); replace HI0 := Aside0.mk (IsS90.grown (w0 := w0) (f0 := t367) (by exact IsS90.up HI0.out) hg (IsS90.own_ne HI0.out HO_5.out (by decide))); replace HK := Aside0.mk (KeepBut.trans (by exact keep_y HK.out) (KeepBut.of_grown hg g) (Kd.R_base2 HO_5.out)); have HO385 := Aside0.mk (ho); clear HO_5; clear ho hb hg hat))
               go_roundg kj11
               case measure => have := HK1.out; have := HJ11.out; omega
               case rel => exact ⟨(y383), (y382), (wrap64 (x7_1 + 1)), (t367), (by first | rfl | (simp; done) | (simp [*]; done)), H', ⟨by have := HK1.out; have := HJ11.out; omega⟩, ⟨by (with_reducible repeat (first | apply Kd.R_alloc | apply Kd.R_drewN | apply Kd.R_drew)); exact HO385.out⟩, ⟨by (with_reducible repeat (first | apply Kd.R_alloc | apply Kd.R_drewN | apply Kd.R_drew)); exact Kd.R_mono HO_6.out (fun _ hk => hk.2)⟩, ⟨blk_x BK362.out⟩, ⟨by exact IsS90.up HI0.out⟩, ⟨by exact keep_y HK.out⟩, ⟨by exact below_y HB.out⟩⟩
              ·
               rw [if_neg c44] at H; exact absurd H (by simp)
             ·
              rw [if_neg c42] at H; exact absurd H (by simp)
            ·
             rw [if_neg c41] at H; exact absurd H (by simp)
           ·
            rw [if_neg c40] at H; exact absurd H (by simp)
          ·
           rw [if_neg c39] at H; exact absurd H (by simp)
         ·
          rw [if_neg c38] at H; have c38b0 : decide (0 ≤ t366) = false := decide_eq_false c38; clear c38; by_cases c49 : x5_1.length < 17592186044416
          ·
           rw [if_pos c49] at H; have LMc49 := Aside0.mk c49; clear c49; obtain ⟨y386, hy386⟩ : ∃ y_ : List Int, y_ = (x5_1 ++ [t366]) := ⟨_, rfl⟩; (replace H : (swarfkit_StowageOf.l0 kj11 y386 x6_1 (wrap64 (x7_1 + 1)) t367 a1_0 a1_1 a1_2 l1_3 a1_4 l1_5 l1_6) = some (r1, r2) := by first | (rw [hy386]; with_reducible exact H) | (have H2_ := (Option.bind_some _ _).symm.trans H; rw [hy386]; with_reducible exact H2_) | (have H2_ := (Option.bind_some _ _).symm.trans H; with_reducible exact H2_) | with_reducible exact H | (rw [hy386]; exact H) | exact H); have Ny386 := Aside0.mk hy386; clear hy386; have H' := Aside0.mk H; clear H
           go_wp2_with (first | ((with_reducible refine gate_builtin (b := .append) (xs := #[.tmp 66, .tmp 68]) rfl ?_); at_builtin; refine Kd.R_append (Kd.int .i64) w.heap.size rfl (.tmp 66) (.tmp 68) 27 3 (.int .i64 0) 8 rfl Try.underlying27 info3 rfl (by decide) (by omega) u5 x5_1 t366 [.int .i64 t366] (fun k_ => some k_ ≠ (v364 : Value).ownBlock) (fun _ => False) rfl rfl ?aP (fun _ hk => hk.elim) ?aF ?aO (Below.refl _ _) ?aS ?aL ?_; (case aP => exact rfl); (case aF => exact (fun k_ hk => Kd.fresh' (Kd.R_lt (Kd.R_x HO_6.out)) k_ hk)); (case aO => exact (Kd.R_x HO_5.out)); (case aS => exact (keep_size (w := w) (g := g) (row := none) (by exact keep_y HK.out))); (case aL => have := LMc49.out; omega); intro v387 w50 ho hb hg hat; rw [← Ny386.out] at ho; replace HO_6 := Aside0.mk (Kd.R_after (ok := (fun _ => True)) (by (with_reducible repeat (first | apply Kd.R_alloc | apply Kd.R_drewN | apply Kd.R_drew)); exact Kd.R_mono HO_6.out (fun _ hk => ⟨trivial, hk⟩)) hg hat); replace BK362 := Aside0.mk (blk_grown (blk_x BK362.out) hg (Kd.R_ne HO_5.out BK362.out (by decide))); replace HI0 := Aside0.mk (IsS90.grown (by exact IsS90.up HI0.out) hg (IsS90.own_ne HI0.out HO_5.out (by decide))); replace HB := Aside0.mk (below_weaken (by exact below_y HB.out) HL.out hb); replace HK := Aside0.mk (KeepBut.trans (by exact keep_y HK.out) (KeepBut.of_grown hg g) (Kd.R_base2 HO_5.out)); have HO388 := Aside0.mk (ho); clear HO_5; clear ho hb hg hat))
           go_roundg kj11
           case measure => have := HK1.out; have := HJ11.out; omega
           case rel => exact ⟨(y386), (x6_1), (wrap64 (x7_1 + 1)), (t367), (by first | rfl | (simp; done) | (simp [*]; done)), H', ⟨by have := HK1.out; have := HJ11.out; omega⟩, ⟨by (with_reducible repeat (first | apply Kd.R_alloc | apply Kd.R_drewN | apply Kd.R_drew)); exact HO388.out⟩, ⟨by (with_reducible repeat (first | apply Kd.R_alloc | apply Kd.R_drewN | apply Kd.R_drew)); exact Kd.R_mono HO_6.out (fun _ hk => hk.2)⟩, ⟨blk_x BK362.out⟩, ⟨by exact IsS90.up HI0.out⟩, ⟨by exact keep_y HK.out⟩, ⟨by exact below_y HB.out⟩⟩
          ·
           rw [if_neg c49] at H; exact absurd H (by simp)
     ·
      rw [if_neg c10] at H; have c10b0 : decide (x7_1 < (l1_6.length : Int)) = false := decide_eq_false c10; clear c10; simp only [Option.some.injEq, Prod.mk.injEq] at H; obtain ⟨rfl, rfl⟩ := H; have hnb51 := NB362_0.out; have hnc51 := NB0_362.out; obtain ⟨hfz52_0, _, _, _, _, _, _, _⟩ := cf7 BK362; go_wp2; go_ret; exact ⟨_, by first | rfl | (simp [errW_none, errW_some] <;> rfl) | (simp [*, errW_none, errW_some] <;> rfl), by (with_reducible repeat (first | apply Kd.R_alloc | apply Kd.R_drewN | apply Kd.R_drew)); exact Kd.R_mono HO_5.out (fun _ hk => trivial), by exact IsS90.up HI0.out, by exact below_y HB.out, by exact keep_y HK.out⟩
  ·
   rw [if_neg c4] at H; exact absurd H (by simp)
 ·
  rw [if_neg c3] at H; exact absurd H (by simp)
end Go.Proofs.Ytodmemndaaiolaa.PC7
namespace Go.Proofs.Ytodmemndaaiolaa.PC7
set_option linter.unusedVariables false
set_option linter.unusedSimpArgs false
open Go.RowKit Go.Proofs.YtodmemndaaiolaaW.PrintWords Go.Proofs.YtodmemndaaiolaaW.PrintLast Go.Proofs.YtodmemndaaiolaaW.PrintMore
structure StowTo (holds : List S85) (lots : List S79) (s room : List Int) : Prop where
  rl : room.length = holds.length
  rg : ∀ y, y ∈ s → -1 ≤ y ∧ y < (holds.length : Int)
  ro : ∀ h : Nat, h < holds.length → room.getD h 0 = used lots h 0 s ∧ used lots h 0 s ≤ (holds.getD h z85).f0 ∧ 0 ≤ used lots h 0 s
theorem StowTo.skip {holds : List S85} {lots : List S79} {s room : List Int} (h : StowTo holds lots s room) : StowTo holds lots (s ++ [-1]) room :=
  ⟨h.rl, mem_snoc h.rg ⟨by omega, by omega⟩, fun k hk => by
    have := h.ro k hk
    rw [used_snoc, if_neg (by omega)]
    simpa using this⟩
theorem StowTo.put {holds : List S85} {lots : List S79} {s room : List Int} (h : StowTo holds lots s room) (g : Nat) (hg : g < holds.length) (h0 : 0 ≤ (lots.getD s.length z79).f0.f1) (hle : room.getD g 0 + (lots.getD s.length z79).f0.f1 ≤ (holds.getD g z85).f0) :
    StowTo holds lots (s ++ [(g : Int)]) (room.set g (room.getD g 0 + (lots.getD s.length z79).f0.f1)) := by
  refine ⟨by rw [List.length_set]; exact h.rl, mem_snoc h.rg ⟨by omega, by omega⟩, fun k hk => ?_⟩
  have hk1 := h.ro k hk
  have hl : k < room.length := by rw [h.rl]; exact hk
  rw [used_snoc, Nat.zero_add]
  by_cases e : k = g
  · subst e
    rw [if_pos rfl, List.getD, List.getElem?_set_self hl]
    refine ⟨?_, ?_, ?_⟩
    · show room.getD k 0 + _ = _; rw [hk1.1]
    · rw [← hk1.1]; exact hle
    · omega
  · rw [if_neg (by omega), List.getD, List.getElem?_set_ne (by omega)]
    simpa using hk1
theorem stow_l0 (L U R V : Int) (holds : List S85) (sills : List S59) (lots : List S79) {T : Int} (hT : T ≤ 1000) (hho : ∀ h, h ∈ holds → HoldV T h) (hlo : ∀ c, c ∈ lots → LotV T c) (hh : 1 ≤ holds.length ∧ holds.length ≤ 1000) (hl : lots.length ≤ 1000) (d : Nat) :
    ∀ (l room : List Int) (s : Int), l.length + d = lots.length → StowTo holds lots l room → Res (fun k => swarfkit_StowageOf.l0 k l room (l.length : Int) s L U R holds V sills lots) (fun r => StowOK holds lots r.1) := by
  induction d with
  | zero =>
    intro l room s hd hs
    refine Res.succ ?_
    simp (disch := omega) only [swarfkit_StowageOf.l0, if_neg]
    exact Res.now ⟨by show l.length = lots.length; omega, hs.rg, fun h hh => (hs.ro h hh).2.1⟩
  | succ d ih =>
    intro l room s hd hs
    have hrl := hs.rl
    obtain ⟨c1, c2, c3, c4, c5⟩ := hlo _ (getD_mem lots l.length z79 (by omega))
    have hskip : ∀ s2 : Int, Res (fun k => swarfkit_StowageOf.l0 k (l ++ [-1]) room (wrap64 ((l.length : Int) + 1)) s2 L U R holds V sills lots) (fun r => StowOK holds lots r.1) := fun s2 => by
      have := ih (l ++ [-1]) room s2 (by simp; omega) hs.skip
      rw [wrapS (by omega)]
      simpa using this
    refine Res.succ ?_
    have hw : wrap64 ((holds.length : Int) - 1) = (holds.length : Int) - 1 := wrap64_id (by omega) (by omega)
    obtain ⟨r, s1, e1, r1, r2⟩ := between_ok s (-1) ((holds.length : Int) - 1) (by omega) (by decide) (by omega)
    simp (disch := omega) only [swarfkit_StowageOf.l0, if_pos, hw]
    refine Res.take e1 ?_
    by_cases hr : r ≥ 0
    · obtain ⟨g, rfl⟩ := Int.eq_ofNat_of_zero_le hr
      have hg : g < holds.length := by omega
      obtain ⟨b1, b2, _⟩ := hho _ (getD_mem holds g z85 hg)
      obtain ⟨q1, q2, q3⟩ := hs.ro g hg
      have hwr : wrap64 (room.getD g 0 + (lots.getD l.length z79).f0.f1) = room.getD g 0 + (lots.getD l.length z79).f0.f1 := wrap64_id (by omega) (by omega)
      simp (disch := omega) only [if_pos, rdI, rd79, rd85, hwr]
      refine Res.succ ?_
      by_cases hgt : room.getD g 0 + (lots.getD l.length z79).f0.f1 > (holds.getD g z85).f0
      · rw [decide_eq_true hgt]
        simp (disch := omega) only [swarfkit_StowageOf.j1, if_true, if_pos, if_neg]
        exact hskip s1
      · rw [decide_eq_false hgt]
        simp (disch := omega) only [swarfkit_StowageOf.j1, Bool.false_eq_true, if_false, if_pos, rdI, rd79, hwr, Int.toNat_natCast]
        have := ih (l ++ [(g : Int)]) (room.set g (room.getD g 0 + (lots.getD l.length z79).f0.f1)) s1 (by simp; omega) (hs.put g hg (by omega) (by omega))
        rw [wrapS (by omega)]
        simpa using this
    · have : r = -1 := by omega
      subst this
      simp (disch := omega) only [if_neg]
      refine Res.succ ?_
      simp (disch := omega) only [swarfkit_StowageOf.j1, Bool.false_eq_true, if_false, if_pos, if_neg]
      exact hskip s1
theorem stowageOf_res {H S L' : Nat} {T L U R V : Int} {holds : List S85} {sills : List S59} {lots : List S79} (h : VoyOK H S L' T L U R holds V sills lots) (hH : H ≤ 100) (hL : L' ≤ 100) (hT : T ≤ 1000) (s : Int) :
    Res (fun k => swarfkit_StowageOf.f k s L U R holds V sills lots) (fun r => StowOK holds lots r.1) := by
  have h5 := h.hn; have h7 := h.ln
  unfold swarfkit_StowageOf.f
  simp (disch := omega) only [if_pos, Int.toNat_natCast]
  refine stow_l0 L U R V holds sills lots hT h.ho h.lo ⟨h5.1, by omega⟩ (by omega) lots.length [] _ s (by simp) ⟨by simp, fun y hy => by (cases hy), fun k hk => ?_⟩
  obtain ⟨b1, _⟩ := h.ho _ (getD_mem holds k z85 hk)
  refine ⟨?_, b1, Int.le_refl _⟩
  rw [List.getD, List.getElem?_replicate, if_pos hk]; rfl
end Go.Proofs.Ytodmemndaaiolaa.PC7
namespace Go.Proofs.Ytodmemndaaiolaa.PC7
set_option linter.unusedVariables false
open Go.RowKit Go.Shelf Go.Proofs.YtodmemndaaiolaaW.PrintWords Go.Proofs.YtodmemndaaiolaaW.PrintLast Go.Proofs.YtodmemndaaiolaaW.PrintMore
def GivesR {α : Type} (n g : Nat) (lb : Array Value) (encs : α → Array Value) (Rx : Nat → α → World → Prop) (Kp : World → World → Prop) (S : List α → Prop) (w : World) : Prop :=
  ∀ (l : Nat) (J : Nat → List α → World → Prop) (W : World), Below w.heap.size w W → (∀ b, AbidesFrom W.heap.size (J b)) → (∀ b pre A i v, W.heap.size ≤ b → J b pre A → A.cell? ⟨b, i, none⟩ ≠ none → J b pre (A.setCell ⟨b, i, none⟩ v)) →
    (∀ b pre x W1, W.heap.size ≤ b → J b pre W1 → Rx b x W1 → YieldAt Fence.wide (n - 1) Try.prog l (encs x) W1 fun e W' => e = .returned (.bool true) ∧ J b (pre ++ [x]) W' ∧ Kp W1 W') →
    (∀ b, W.heap.size ≤ b → J b [] W) → CallsIn Fence.wide n Try.prog g (#[.func (.yield l) #[] #[]] ++ lb) W fun e W' => (∃ v, e = .returned v) ∧ ∃ b xs, W.heap.size ≤ b ∧ S xs ∧ J b xs W'
def roundOwes {α : Type} (Kp : World → World → Prop) (I : List α → World → Prop) (xs : List α) (W : World) : Exit → Act → World → Prop
  | .normal, _, W' => KeepsOthers W W' ∧ Kp W W' ∧ I xs W'
  | _, _, _ => False
theorem loop_far {W : World} {l b i : Nat} {r : Loop} {v : Value} (h : W.heap[l]? = some (.loop r)) (hc : W.cell? ⟨b, i, none⟩ ≠ none) : (W.setCell ⟨b, i, none⟩ v).heap[l]? = some (.loop r) := by
  have hne : l ≠ b := fun e => by subst e; simp [World.cell?, h] at hc
  rw [Below.heap_setCell _ _ _ _ hne]; exact h
theorem defer_far {W : World} {l b i : Nat} {v : Value} {d : Option (List Deferred)} (h : W.heap[l]? = some (.deferred d)) (hc : W.cell? ⟨b, i, none⟩ ≠ none) : (W.setCell ⟨b, i, none⟩ v).heap[l]? = some (.deferred d) := by
  have hne : l ≠ b := fun e => by subst e; simp [World.cell?, h] at hc
  rw [Below.heap_setCell _ _ _ _ hne]; exact h
theorem range_gives {α : Type} {g : Operand} {ps : Array Tmp} {assign body : Code} {Q : Exit → Act → World → Prop} {a : Act} {w w0 : World} {n gf : Nat} {lb : Array Value} (h1 : 1 ≤ n)
    (hg : a.eval g = .func (.func gf) #[] lb) (eg : ∀ args w, (callFunc gf args).run Try.prog w = .ok (.enter gf args) w)
    {encs : α → Array Value} {Rx : Nat → α → World → Prop} {Kp : World → World → Prop} {S : List α → Prop} (hseq : GivesR (n - 1) gf lb encs Rx Kp S w0)
    (hKt : ∀ {A B C : World}, Kp A B → Kp B C → Kp A C) (hKb : ∀ (W : World) (l : Nat) (o o' : Obj), W.heap[l]? = some o → o.isCells = false → Kp W (W.putObj l o'))
    (hRb : ∀ (b : Nat) (x : α) (W : World) (l : Nat) (o o' : Obj), W.heap[l]? = some o → o.isCells = false → Rx b x W → Rx b x (W.putObj l o'))
    (hb0 : Below w0.heap.size w0 w) (hps : ∀ x, (encs x).size = ps.size) (I : Nat → List α → World → Prop) (hI : ∀ b, OwnFrom w.heap.size (I b)) (hIs : ∀ b pre A i v, w.heap.size ≤ b → I b pre A → A.cell? ⟨b, i, none⟩ ≠ none → I b pre (A.setCell ⟨b, i, none⟩ v)) (h0 : ∀ b, w.heap.size ≤ b → I b [] w) (a₁ : α → Act)
    (hassign : ∀ (l : Nat) (x : α) (W : World) (K : Act → World → Prop), K (a₁ x) W →
      assign.wpIn (Fence.wide.inRound l) (n - 1 - 1) Try.prog (Exit.then K (fun _ _ _ => False)) { tmps := (ps.zip (encs x)).foldl (fun t (p, v) => t.setIfInBounds p v) a.tmps, defers := [] } W)
    (hbody : ∀ (l b : Nat) (pre : List α) (x : α) (W : World), w.heap.size ≤ b → I b pre W → Rx b x W → body.wpIn (Fence.wide.inRound l) (n - 1 - 1) Try.prog (roundOwes Kp (I b) (pre ++ [x]) W) (a₁ x) W)
    (hdone : ∀ (D b : Nat) (xs : List α) (W : World), w.heap.size ≤ D → w.heap.size ≤ b → S xs → I b xs W → W.heap[D]? = some (.deferred (some [])) → Q .normal { a with defers := { target := .collected D, args := #[] } :: a.defers } W) :
    (Code.rangeFunc g ps assign body).wpIn Fence.wide n Try.prog Q a w := by
  refine wpIn_rangeFunc fun fn hfn => ?_
  obtain ⟨r0, hr0⟩ : ∃ r : Loop, r = { state := .ready, pending := none, fn, tmps := a.tmps, params := ps, assign, body, defers := w.heap.size } := ⟨_, rfl⟩
  have hsz : ∀ W : World, W = (w.alloc (.deferred (some []))).alloc (.loop r0) → W.heap[w.heap.size + 1]? = some (.loop r0) ∧ W.heap[w.heap.size]? = some (.deferred (some [])) ∧ W.heap.size = w.heap.size + 2 := by
    rintro W rfl
    refine ⟨?_, (Below.heap_alloc _ _ _ (by simp)).trans (World.alloc_heap_new w _), by simp⟩
    have := World.alloc_heap_new (w.alloc (.deferred (some []))) (.loop r0)
    rwa [World.size_alloc] at this
  obtain ⟨Ws, hWs⟩ : ∃ W : World, W = (w.alloc (.deferred (some []))).alloc (.loop r0) := ⟨_, rfl⟩
  obtain ⟨hL, hD, hS⟩ := hsz Ws hWs
  refine ⟨w.heap.size + 1, [{ target := .collected w.heap.size, args := #[] }], Ws, { target := .fn (.func gf) lb, args := #[.func (.yield (w.heap.size + 1)) #[] #[]] }, Ws, gf, #[.func (.yield (w.heap.size + 1)) #[] #[]] ++ lb, Ws, ?_, ?_, ?_, ?_, fun _ => h1, ?_⟩
  · rw [hWs, hr0]; exact run_enterLoop_outer _ _ _ _ _
  · simp only [resolve, hg]; simp [go_sem]
  · intro f' hf'; simp [Target.leads] at hf'; subst hf'; trivial
  · simp [invoke, go_sem, eg]
  have walkNo : ∀ {A : World} {row : Option Nat}, (∀ r, row = some r → Ws.heap.size ≤ r ∧ ∃ o : Obj, A.heap[r]? = some o ∧ o.isWalk = true) → ∀ r, row = some r → w.heap.size ≤ r ∧ ∃ o : Obj, A.heap[r]? = some o ∧ o.isCells = false := by
    intro A row hr r e
    obtain ⟨hB, o, ho, hw⟩ := hr r e
    exact ⟨by omega, o, ho, Obj.not_cells_of_walk hw⟩
  refine (hseq (w.heap.size + 1) (fun b pre W => I b pre W ∧ W.heap[w.heap.size + 1]? = some (.loop r0) ∧ W.heap[w.heap.size]? = some (.deferred (some []))) Ws (by rw [hWs]; exact hb0.trans ((((Below.refl _ w).alloc (Nat.le_refl _) _).alloc (by simp) _).mono hb0.size)) ?_ ?_ ?_
    (fun b hb => ⟨by rw [hWs]; exact (hI b).alloc _ ((hI b).alloc _ (h0 b (by omega))), hL, hD⟩)).mono ?_
  · intro b s A B row hs hgr hr
    exact ⟨hI b s A B row hs.1 hgr (walkNo hr), (grownBy_keeps hgr (fun r e => (hr r e).2) hs.2.1 rfl).trans hs.2.1, (grownBy_keeps hgr (fun r e => (hr r e).2) hs.2.2 rfl).trans hs.2.2⟩
  · rintro b pre A i v hb ⟨hi, hl, hd⟩ hc
    exact ⟨hIs b pre A i v (by omega) hi hc, loop_far hl hc, defer_far hd hc⟩
  · rintro b pre x W hb ⟨hi, hl, hd⟩ hrx
    have hy := run_yield (P := Try.prog) (args := encs x) hl (by rw [hr0]; exact hps x)
    rw [hr0] at hy
    refine ⟨fn, _, assign, body, hy, roundIn_of_wpIn hfn (hassign _ x W _ ?_)⟩
    clear hy
    have hlt := (Array.getElem?_eq_some_iff.1 hl).1
    refine ⟨_, run_beginRound hl (by rw [hr0]), ?_⟩
    have hl2 : (W.putObj (w.heap.size + 1) (.loop { r0 with state := .busy })).heap[w.heap.size + 1]? = some (.loop { r0 with state := .busy }) := World.putObj_heap_same hlt
    have hd2 : (W.putObj (w.heap.size + 1) (.loop { r0 with state := .busy })).heap[w.heap.size]? = some (.deferred (some [])) := (World.putObj_heap_other (by omega)).trans hd
    refine wpIn_mono (hbody _ b pre x _ (by omega) ((hI b).putObj _ hi (by omega) hl rfl) (hRb b x _ _ _ _ hl rfl hrx)) ?_
    rintro e a3 W3 hp
    cases e with
    | normal =>
      obtain ⟨hk3, hkp3, hi3⟩ := hp
      have hl3 := hk3.same _ _ hl2 rfl
      have hd3 := hk3.same _ _ hd2 rfl
      have hend := run_endRound (P := Try.prog) none hl3
      refine ⟨_, _, hend, rfl, ⟨(hI b).putObj _ hi3 (by omega) hl3 rfl, ?_, (World.putObj_heap_other (by omega)).trans hd3⟩, hKt (hKb _ _ _ _ hl rfl) (hKt hkp3 (hKb _ _ _ _ hl3 rfl))⟩
      refine (World.putObj_heap_same (Array.getElem?_eq_some_iff.1 hl3).1).trans ?_
      rw [hr0]
      rfl
    | ret => exact hp.elim
    | exit id => exact hp.elim
    | goto t => exact hp.elim
    | panic ch => exact hp.elim
    | outgrown => exact hp.elim
  · rintro e W2 ⟨⟨v, rfl⟩, b, xs, hb, hS2, hi, hl, hd⟩
    have hend := run_endLoop (P := Try.prog) hl (by rw [hr0]; simp)
    have hpend : r0.pending = none := by rw [hr0]
    rw [hpend] at hend
    exact ⟨none, _, hend, hdone _ b xs _ (Nat.le_refl _) (by omega) hS2 ((hI b).putObj _ hi (by omega) hl rfl) ((World.putObj_heap_other (by omega)).trans hd)⟩
end Go.Proofs.Ytodmemndaaiolaa.PC7
namespace Go.Proofs.Ytodmemndaaiolaa.PC7
set_option linter.unusedVariables false
def nextL (H : Int) : List Int → Option (List Int)
  | [] => none
  | d :: t => match nextL H t with
    | some t' => some (d :: t')
    | none => if d = H - 1 then none else some ((d + 1) :: List.replicate t.length (-1))
theorem nextL_app (H : Int) (t t' : List Int) (h : nextL H t = some t') : ∀ a : List Int, nextL H (a ++ t) = some (a ++ t')
  | [] => h
  | d :: a => by simp only [List.cons_append, nextL, nextL_app H t t' h a]
theorem nextL_rep (H : Int) : ∀ k, nextL H (List.replicate k (H - 1)) = none
  | 0 => rfl
  | k + 1 => by rw [List.replicate_succ]; simp only [nextL, nextL_rep H k, if_true]
theorem nextL_at (H d : Int) (a : List Int) (k : Nat) (h : d ≠ H - 1) : nextL H (a ++ d :: List.replicate k (H - 1)) = some (a ++ (d + 1) :: List.replicate k (-1)) := by
  refine nextL_app H _ _ ?_ a
  simp only [nextL, nextL_rep, if_neg h, List.length_replicate]
inductive Runs {α : Type} (f : α → Option α) : List α → Option α → Prop
  | one (x : α) (e : Option α) (h : f x = e) : Runs f [x] e
  | cons (x y : α) (r : List α) (e : Option α) (h : f x = some y) (hr : Runs f (y :: r) e) : Runs f (x :: y :: r) e
theorem Runs.app {α : Type} {f : α → Option α} {A : List α} {eA : Option α} (h : Runs f A eA) : ∀ {b : α} {B : List α} {e : Option α}, eA = some b → Runs f (b :: B) e → Runs f (A ++ b :: B) e := by
  induction h with
  | one x e0 hx => intro b B e hb hB; subst hb; exact .cons _ _ _ _ hx hB
  | cons x y r e0 hx hr ih => intro b B e hb hB; exact .cons _ _ _ _ hx (ih hb hB)
theorem Runs.get {α : Type} {f : α → Option α} {L : List α} {e : Option α} (h : Runs f L e) : e = none → ∀ k x, L[k]? = some x → f x = L[k + 1]? := by
  induction h with
  | one x e hx => intro he k y hy; cases k with
    | zero => simp at hy; subst hy; rw [hx, he]; rfl
    | succ k => simp at hy
  | cons x y r e hx hr ih => intro he k z hz; cases k with
    | zero => simp at hz; subst hz; rw [hx]; rfl
    | succ k => exact ih he k z hz
theorem Runs.consed (H d : Int) (n : Nat) {L : List (List Int)} {e : Option (List Int)} (h : Runs (nextL H) L e) : e = none → (∀ t ∈ L, t.length = n) →
    Runs (nextL H) (L.map (d :: ·)) (if d = H - 1 then none else some ((d + 1) :: List.replicate n (-1))) := by
  induction h with
  | one x e hx =>
    intro he hl
    refine .one _ _ ?_
    rw [he] at hx
    simp only [nextL, hx, hl x (by simp)]
  | cons x y r e hx hr ih =>
    intro he hl
    refine .cons _ _ _ _ ?_ (ih he fun t ht => hl t (by simp_all))
    simp only [nextL, hx]
def stowsL (H : Nat) : Nat → List (List Int)
  | 0 => [[]]
  | n + 1 => (List.range (H + 1)).flatMap fun (d : Nat) => (stowsL H n).map fun t => ((d : Int) - 1) :: t
theorem stowsL_mem (H : Nat) : ∀ n t, t ∈ stowsL H n → t.length = n ∧ ∀ y ∈ t, -1 ≤ y ∧ y < (H : Int)
  | 0, t, h => by simp [stowsL] at h; subst h; simp
  | n + 1, t, h => by
    simp only [stowsL, List.mem_flatMap, List.mem_range, List.mem_map] at h
    obtain ⟨d, hd, s, hs, rfl⟩ := h
    obtain ⟨h1, h2⟩ := stowsL_mem H n s hs
    refine ⟨by simp [h1], fun y hy => ?_⟩
    rcases List.mem_cons.1 hy with rfl | hy
    · omega
    · exact h2 y hy
theorem stowsL_head (H : Nat) : ∀ n, ∃ r, stowsL H n = List.replicate n (-1) :: r
  | 0 => ⟨[], rfl⟩
  | n + 1 => by
    obtain ⟨r, hr⟩ := stowsL_head H n
    simp only [stowsL, List.range_succ_eq_map, List.flatMap_cons, hr, List.map_cons, List.cons_append, List.replicate_succ]
    exact ⟨_, rfl⟩
theorem stowsL_runs (H : Nat) : ∀ n, Runs (nextL H) (stowsL H n) none
  | 0 => .one _ _ rfl
  | n + 1 => by
    have ih := stowsL_runs H n
    have hl : ∀ t ∈ stowsL H n, t.length = n := fun t ht => (stowsL_mem H n t ht).1
    have key : ∀ k, k ≤ H → Runs (nextL H) ((List.range (k + 1)).flatMap fun (d : Nat) => (stowsL H n).map fun t => ((d : Int) - 1) :: t) (if k = H then none else some ((k : Int) :: List.replicate n (-1))) := by
      intro k
      induction k with
      | zero =>
        intro hk
        have h := Runs.consed H ((0 : Nat) - 1) n ih rfl hl
        have e : (if (((0 : Nat) : Int) - 1) = (H : Int) - 1 then none else some ((((0 : Nat) : Int) - 1 + 1) :: List.replicate n (-1))) = (if 0 = H then none else some (((0 : Nat) : Int) :: List.replicate n (-1))) := by
          by_cases h0 : 0 = H
          · rw [if_pos h0, if_pos (by omega)]
          · rw [if_neg h0, if_neg (by omega)]; congr 2
        rw [e] at h
        simpa using h
      | succ k ihk =>
        intro hk
        have h1 := ihk (by omega)
        rw [if_neg (by omega)] at h1
        have h2 := Runs.consed H (((k + 1 : Nat) : Int) - 1) n ih rfl hl
        have e : (if (((k + 1 : Nat) : Int) - 1) = (H : Int) - 1 then none else some ((((k + 1 : Nat) : Int) - 1 + 1) :: List.replicate n (-1))) = (if k + 1 = H then none else some (((k + 1 : Nat) : Int) :: List.replicate n (-1))) := by
          by_cases h0 : k + 1 = H
          · rw [if_pos h0, if_pos (by omega)]
          · rw [if_neg h0, if_neg (by omega)]; congr 2; omega
        rw [e] at h2
        obtain ⟨r, hr⟩ := stowsL_head H n
        rw [List.range_succ, List.flatMap_append, List.flatMap_singleton]
        have hd : (((k + 1 : Nat) : Int) - 1) = (k : Int) := by omega
        rw [hr, List.map_cons, hd] at h2 ⊢
        rw [← hr]
        exact h1.app rfl h2
    have := key H (Nat.le_refl _)
    rw [if_pos rfl] at this
    exact this
theorem stowsL_next (H n k : Nat) (x : List Int) (h : (stowsL H n)[k]? = some x) : nextL H x = (stowsL H n)[k + 1]? := (stowsL_runs H n).get rfl k x h
def curL (t : List Int) (j : Nat) : List Int := t.take j ++ List.replicate (t.length - j) (-1)
theorem curL_all (t : List Int) : curL t t.length = t := by simp [curL]
theorem take_snoc (t : List Int) (j : Nat) (h : j < t.length) : t.take (j + 1) = t.take j ++ [t.getD j 0] := by
  rw [List.take_succ_eq_append_getElem h, List.getD, List.getElem?_eq_getElem h]; rfl
theorem curL_get (t : List Int) (j : Nat) (h : j < t.length) : (curL t (j + 1))[j]? = some (t.getD j 0) := by
  rw [curL, take_snoc t j h, List.append_assoc, List.getElem?_append_right (by simp; omega)]
  simp [Nat.min_eq_left (Nat.le_of_lt h)]
theorem curL_set (t : List Int) (j : Nat) (y : Int) (h : j < t.length) : (curL t (j + 1)).set j y = t.take j ++ y :: List.replicate (t.length - (j + 1)) (-1) := by
  rw [curL, take_snoc t j h, List.append_assoc, List.set_append_right _ _ (by simp; omega)]
  simp [Nat.min_eq_left (Nat.le_of_lt h)]
theorem curL_back (t : List Int) (j : Nat) (h : j < t.length) : (curL t (j + 1)).set j (-1) = curL t j := by
  rw [curL_set t j _ h, curL, show t.length - j = t.length - (j + 1) + 1 by omega, List.replicate_succ]
theorem full_back (t : List Int) (H : Int) (j : Nat) (h : j < t.length) (hf : t = t.take (j + 1) ++ List.replicate (t.length - (j + 1)) (H - 1)) (hd : t.getD j 0 = H - 1) : t = t.take j ++ List.replicate (t.length - j) (H - 1) := by
  have hf2 := hf
  rw [take_snoc t j h, hd, List.append_assoc] at hf2
  rw [show t.length - j = t.length - (j + 1) + 1 by omega, List.replicate_succ]
  exact hf2
theorem next_at (t : List Int) (H : Int) (j : Nat) (h : j < t.length) (hf : t = t.take (j + 1) ++ List.replicate (t.length - (j + 1)) (H - 1)) (hd : t.getD j 0 ≠ H - 1) : nextL H t = some ((curL t (j + 1)).set j (t.getD j 0 + 1)) := by
  rw [curL_set t j _ h]
  have hf2 := hf
  rw [take_snoc t j h, List.append_assoc] at hf2
  have h3 := nextL_at H (t.getD j 0) (t.take j) (t.length - (j + 1)) hd
  rw [show t.take j ++ t.getD j 0 :: List.replicate (t.length - (j + 1)) (H - 1) = t from hf2.symm] at h3
  exact h3
theorem next_none (t : List Int) (H : Int) (hf : t = t.take 0 ++ List.replicate (t.length - 0) (H - 1)) : nextL H t = none := by
  rw [hf]; simp only [List.take_zero, List.nil_append]; exact nextL_rep H _
theorem map_set_int (l : List Int) (j : Nat) (y : Int) : ((l.map (Value.int .i64)).toArray.setIfInBounds j (.int .i64 y)) = ((l.set j y).map (Value.int .i64)).toArray := by
  simp [List.map_set]
theorem enum_more {T : List (List Int)} {pre : List (Value × List Int)} {k : Nat} {t : List Int} (v : Value) (hp : pre.map (·.2) = T.take k) (ht : T[k]? = some t) : (pre ++ [(v, t)]).map (·.2) = T.take (k + 1) := by
  obtain ⟨h, e⟩ := List.getElem?_eq_some_iff.1 ht
  rw [List.map_append, hp, List.take_succ_eq_append_getElem h, e]; rfl
theorem enum_done {T : List (List Int)} {pre : List (Value × List Int)} {k : Nat} {t : List Int} (v : Value) (hp : pre.map (·.2) = T.take k) (ht : T[k]? = some t) (hn : T[k + 1]? = none) : (pre ++ [(v, t)]).map (·.2) = T := by
  rw [enum_more v hp ht]
  exact List.take_of_length_le (List.getElem?_eq_none_iff.1 hn)
end Go.Proofs.Ytodmemndaaiolaa.PC7
namespace Go.Proofs.Ytodmemndaaiolaa.PC7
open Go.RowKit Go.Proofs.YtodmemndaaiolaaW.PrintWords Go.Proofs.YtodmemndaaiolaaW.PrintLast Go.Proofs.YtodmemndaaiolaaW.PrintMore
attribute [local go_sem] max2_int min2_int max_two min_two max_three min_three max_four min_four
set_option linter.unusedVariables false
set_option linter.unusedSimpArgs false
def bits_Mul64.f (a0 : Int) (a1 : Int) : Option (Int × Int) := some (IntKind.u64.wrap ((IntKind.u64.wrap ((IntKind.u64.wrap ((a0 / 4294967296) * (a1 / 4294967296))) + ((IntKind.u64.wrap ((IntKind.u64.wrap ((a0 / 4294967296) * (Go.bits .and .u64 a1 4294967295))) + ((IntKind.u64.wrap ((Go.bits .and .u64 a0 4294967295) * (Go.bits .and .u64 a1 4294967295))) / 4294967296))) / 4294967296))) + ((IntKind.u64.wrap ((Go.bits .and .u64 (IntKind.u64.wrap ((IntKind.u64.wrap ((a0 / 4294967296) * (Go.bits .and .u64 a1 4294967295))) + ((IntKind.u64.wrap ((Go.bits .and .u64 a0 4294967295) * (Go.bits .and .u64 a1 4294967295))) / 4294967296))) 4294967295) + (IntKind.u64.wrap ((Go.bits .and .u64 a0 4294967295) * (a1 / 4294967296))))) / 4294967296)), IntKind.u64.wrap (a0 * a1))
set_option maxHeartbeats 8000000 in
set_option maxRecDepth 100000 in
theorem bits_Mul64.calls (a0 : Int) (a1 : Int) (r1 : Int) (r2 : Int) (w : World) (h : bits_Mul64.f a0 a1 = some (r1, r2)) :
  Calls Try.prog 92 #[.int .u64 a0, .int .u64 a1] w fun e w' => e = .returned (.tuple #[.int .u64 r1, .int .u64 r2]) ∧ Drawn0 w w' := by
 have H : (some (IntKind.u64.wrap ((IntKind.u64.wrap ((IntKind.u64.wrap ((a0 / 4294967296) * (a1 / 4294967296))) + ((IntKind.u64.wrap ((IntKind.u64.wrap ((a0 / 4294967296) * (Go.bits .and .u64 a1 4294967295))) + ((IntKind.u64.wrap ((Go.bits .and .u64 a0 4294967295) * (Go.bits .and .u64 a1 4294967295))) / 4294967296))) / 4294967296))) + ((IntKind.u64.wrap ((Go.bits .and .u64 (IntKind.u64.wrap ((IntKind.u64.wrap ((a0 / 4294967296) * (Go.bits .and .u64 a1 4294967295))) + ((IntKind.u64.wrap ((Go.bits .and .u64 a0 4294967295) * (Go.bits .and .u64 a1 4294967295))) / 4294967296))) 4294967295) + (IntKind.u64.wrap ((Go.bits .and .u64 a0 4294967295) * (a1 / 4294967296))))) / 4294967296)), IntKind.u64.wrap (a0 * a1))) = some (r1, r2) := h
 clear h
 simp only [Option.some.injEq, Prod.mk.injEq] at H
 obtain ⟨rfl, rfl⟩ := H
 go_enter Try.func92, Try.ntmps92
 go_wp2
 go_ret2
 exact ⟨by first | rfl | (simp; done) | (simp [*]; done), by repeat (first | exact Drawn0.refl _ | apply Drawn0.step)⟩
def bits_Mul.f (a0 : Int) (a1 : Int) : Option (Int × Int) := (bits_Mul64.f a0 a1).bind fun bt155 => (some (bt155.1, bt155.2))
set_option maxHeartbeats 8000000 in
set_option maxRecDepth 100000 in
theorem bits_Mul.calls (a0 : Int) (a1 : Int) (r1 : Int) (r2 : Int) (w : World) (h : bits_Mul.f a0 a1 = some (r1, r2)) :
  Calls Try.prog 90 #[.int .u64 a0, .int .u64 a1] w fun e w' => e = .returned (.tuple #[.int .u64 r1, .int .u64 r2]) ∧ Drawn0 w w' := by
 have H : ((bits_Mul64.f a0 a1).bind fun bt155 => (some (bt155.1, bt155.2))) = some (r1, r2) := h
 clear h
 replace H := Option.bind_eq_some_iff.mp H
 obtain ⟨⟨t155, t156⟩, A30, H⟩ := H
 replace H : (some (t155, t156)) = some (r1, r2) := H
 have A3 := Aside0.mk A30
 clear A30
 simp only [Option.some.injEq, Prod.mk.injEq] at H
 obtain ⟨rfl, rfl⟩ := H
 go_enter Try.func90, Try.ntmps90
 go_wp2_with (first | (refine goesG_x 92 rfl (some 25) Try.func92 #[.int .u64 a0, .int .u64 a1] ?_; (with_reducible refine (bits_Mul64.calls a0 a1 t155 t156 _ A3.out).mono ?_); rintro e w' ⟨rfl, ⟨nd, rfl⟩⟩; refine ⟨_, rfl, ?_⟩))
 go_ret2
 exact ⟨by first | rfl | (simp; done) | (simp [*]; done), by repeat (first | exact Drawn0.refl _ | apply Drawn0.step)⟩
end Go.Proofs.Ytodmemndaaiolaa.PC7
namespace Go.Proofs.Ytodmemndaaiolaa.PC7
set_option linter.unusedVariables false
set_option linter.unusedSimpArgs false
open Go.RowKit Go.Proofs.YtodmemndaaiolaaW.PrintWords Go.Proofs.YtodmemndaaiolaaW.PrintLast Go.Proofs.YtodmemndaaiolaaW.PrintMore
theorem mul_one : ∀ n : Nat, n ≤ 6 → bits_Mul.f 1 (n : Int) = some (0, (n : Int))
 | 0, _ => by kernel_rfl
 | 1, _ => by kernel_rfl
 | 2, _ => by kernel_rfl
 | 3, _ => by kernel_rfl
 | 4, _ => by kernel_rfl
 | 5, _ => by kernel_rfl
 | 6, _ => by kernel_rfl
 | n + 7, h => by omega
def repL (n m : Nat) : List Value := List.replicate m (Value.int .i64 (-1)) ++ List.replicate (n - m) (Value.int .i64 0)
theorem repL_len (n m : Nat) (h : m ≤ n) : (repL n m).length = n := by simp [repL]; omega
theorem repL_zero (n : Nat) : madeCells #[Value.int .i64 0] n = (repL n 0).toArray := by
 apply Array.ext
 ·
  simp [size_madeCells, repL]
 ·
  intro i h1 h2; simp [madeCells, repL, Nat.mod_one]
theorem repL_splice (n m k : Nat) (h : m + k ≤ n) : splice (repL n m) m (List.replicate k (Value.int .i64 (-1))) = repL n (m + k) := by
 unfold splice repL
 have h1 : (List.replicate m (Value.int .i64 (-1)) ++ List.replicate (n - m) (Value.int .i64 0)).take m = List.replicate m (Value.int .i64 (-1)) := by rw [List.take_append_of_le_length (by simp)]; simp
 rw [h1, List.length_replicate, List.drop_append, List.drop_of_length_le (by simp), List.nil_append, List.drop_replicate, ← List.append_assoc, List.replicate_append_replicate]
 congr 2
 simp
 omega
theorem repL_get (n m j : Nat) (h : j < m) : (repL n m)[j]? = some (Value.int .i64 (-1)) := by
 unfold repL
 rw [List.getElem?_append_left (by simpa using h)]
 simp [h]
set_option maxHeartbeats 8000000 in
set_option maxRecDepth 100000 in
theorem repeat_calls (gx n : Nat) (w : World) (hn : n ≤ 6) (hx : w.heap[gx]? = some (.cells #[.int .i64 (-1)] 3 (0, 0))) :
  Calls Try.prog 83 #[.slice (some ⟨gx, 0, none⟩) 1 1, .int .i64 (n : Int)] w fun e w' => ∃ g, e = .returned (.slice (some ⟨g, 0, none⟩) n n) ∧ w'.heap[g]? = some (.cells (List.replicate n (Value.int .i64 (-1))).toArray 3 (0, 0)) ∧ w.heap.size ≤ g ∧ Below w.heap.size w w' := by
 have HX := Aside0.mk hx
 have HM := Aside0.mk (mul_one n hn)
 have hnn : ¬ (n : Int) < 0 := by omega
 have hcv : IntKind.u64.wrap (n : Int) = (n : Int) := IntWalk.u64_in _ (by omega)
 have hci : IntKind.i64.wrap (n : Int) = (n : Int) := IntWalk.i64_in _ (by omega)
 have hbig : decide ((9223372036854775807 : Int) < (n : Int)) = false := decide_eq_false (by omega)
 clear hx
 go_enter Try.func83, Try.ntmps83
 go_wp2_with (fail)
 refine (bits_Mul.calls 1 (n : Int) 0 (n : Int) w HM.out).mono ?_
 rintro e w' ⟨rfl, ⟨m, rfl⟩⟩
 have hmk : ∀ W : World, (Instr.makeSlice 27 (.int .i64 (n : Int)) (.int .i64 (n : Int))).run Try.prog W = .ok (.slice (some ⟨W.heap.size, 0, none⟩) n n) (W.alloc (.cells (repL n 0).toArray 3)) := fun W => by
  rw [run_make_row' 27 3 (.int .i64 0) 8 Try.underlying27 info3 rfl .i64 .i64 n (by omega) (by omega) W, repL_zero]
 have hsz3 : (Try.prog.info? 3).map (·.size) = some 1 := by kernel_rfl
 have HSZ := Aside0.mk hsz3
 clear hsz3
 obtain ⟨w1, hw1⟩ : ∃ w1 : World, w1 = w.drewN m := ⟨_, rfl⟩
 have HB := Aside0.mk (show Below w.heap.size w w1 by rw [hw1]; exact pw_below_drewN (Below.refl _ _) m)
 rw [← hw1]
 clear hw1
 go_upto_region 7 with (fail)
 clear hmk
 obtain ⟨g, hg_⟩ : ∃ b, b = w1.heap.size := ⟨_, rfl⟩
 have Ng := Aside0.mk (blk_new w1 (.cells (repL n 0).toArray 3 (0, 0)))
 have hbw : Below w1.heap.size w1 (w1.alloc (.cells (repL n 0).toArray 3 (0, 0))) := below_alloc (Below.refl _ _) _
 have hgs_ : w.heap.size ≤ g := by rw [hg_]; exact HB.out.size
 generalize hw_ : w1.alloc (.cells (repL n 0).toArray 3 (0, 0)) = w2 at *
 rw [← hg_] at Ng ⊢
 replace HB := Aside0.mk (below_step HB.out hbw)
 have GEg : Aside0 (w.heap.size ≤ g) := ⟨hgs_⟩
 clear hbw hw_ hg_ hgs_
 have hcs : ∃ k, k = min 1 n := ⟨_, rfl⟩
 obtain ⟨k0, hk0⟩ := hcs
 have HXc := Aside0.mk (blk_below HX.out HB.out)
 have CL := Aside0.mk (show (List.replicate k0 (Value.int .i64 (-1))).length = Nat.min 1 n by rw [List.length_replicate, hk0])
 have CP := Aside0.mk (show 0 < (List.replicate k0 (Value.int .i64 (-1))).length → some (⟨g, 0, none⟩ : Addr) = some ⟨g, 0, none⟩ ∧ ∃ ad, some (⟨gx, 0, none⟩ : Addr) = some ad ∧ ∀ j v, (List.replicate k0 (Value.int .i64 (-1)))[j]? = some v → w2.cell? (ad.add j) = some v from fun hp => ⟨rfl, _, rfl, fun j v hj => by
  have hj0 : j < k0 := by
   have := (List.getElem?_eq_some_iff.1 hj).1
   simpa using this
  (have : j = 0 := by omega); subst this; rw [List.getElem?_replicate] at hj; rw [if_pos hj0] at hj; injection hj with hj; subst hj; exact (blk_cell HXc.out 0).trans rfl⟩)
 have CF := Aside0.mk (show 0 + (List.replicate k0 (Value.int .i64 (-1))).length ≤ (repL n 0).length by rw [repL_len n 0 (by omega), List.length_replicate]; omega)
 have C1 := Aside0.mk (show ∀ v ∈ List.replicate k0 (Value.int .i64 (-1)), v.oneCell' = true from fun v hv => by rw [List.eq_of_mem_replicate hv]; rfl)
 go_wp2_with ((with_reducible refine gate_builtin (b := .copy) (xs := #[.tmp 31, .tmp 32]) rfl ?_); refine wpList_copy_splice rfl (.tmp 31) (.tmp 32) 27 27 rfl 3 Try.underlying27 HSZ.out (some ⟨g, 0, none⟩) (some ⟨gx, 0, none⟩) n n 1 1 rfl rfl g 0 (repL n 0) 3 Ng.out (List.replicate k0 (Value.int .i64 (-1))) CL.out CP.out CF.out C1.out w.heap.size w HB.out GEg.out ?_; intro w3 hid hb3; have B3 := Aside0.mk hid.out; have HB3 := Aside0.mk hb3; clear hid hb3)
 have B4 := Aside0.mk (show w3.heap[g]? = some (.cells (repL n k0).toArray 3 (0, 0)) by have h := repL_splice n 0 k0 (by omega); rw [Nat.zero_add] at h; rw [← h]; exact B3.out)
 clear Ng B3 CL CP CF C1 HB HXc
 go_loopg [8] n (fun gk v8 wr => ∃ m : Nat, m ≤ n ∧ (0 < m ∨ n = 0) ∧ n - m ≤ gk ∧ v8 = .int .i64 m ∧ Aside0 (wr.heap[g]? = some (.cells (repL n m).toArray 3 (0, 0))) ∧ Aside0 (Below w.heap.size w wr))
 case atStart => exact ⟨k0, by omega, by omega, by omega, by rw [hk0], B4, HB3⟩
 case round =>
  clear B4 HB3; obtain ⟨m, hm, hm0, hgk, rfl, B3, HB⟩ := hrel; by_cases hlt : m < n
  ·
   (have hlz : (m : Int) < (n : Int) := by omega); obtain ⟨k1, hk1⟩ : ∃ k, k = min m (n - m) := ⟨_, rfl⟩
   go_upto_region 9 with (fail)
   have hd_ := below_drew1 (Below.refl wr.heap.size wr); replace B3 := Aside0.mk (blk_drew B3.out); replace HB := Aside0.mk (below_step HB.out hd_); clear hd_; have CL := Aside0.mk (show (List.replicate k1 (Value.int .i64 (-1))).length = Nat.min m (n - m) by rw [List.length_replicate, hk1])
   have CP := Aside0.mk (show 0 < (List.replicate k1 (Value.int .i64 (-1))).length → (if n = m then some (⟨g, 0, none⟩ : Addr) else some ⟨g, m, none⟩) = some ⟨g, m, none⟩ ∧ ∃ ad, some (⟨g, 0, none⟩ : Addr) = some ad ∧ ∀ j v, (List.replicate k1 (Value.int .i64 (-1)))[j]? = some v → wr.drew.cell? (ad.add j) = some v from fun hp => ⟨if_neg (by omega), _, rfl, fun j v hj => by
    have hj0 : j < k1 := by
     have := (List.getElem?_eq_some_iff.1 hj).1
     simpa using this
    rw [List.getElem?_replicate, if_pos hj0] at hj; refine ((congrArg wr.drew.cell? (show Addr.add ⟨g, 0, none⟩ j = ⟨g, j, none⟩ by simp [Addr.add, eq_comm])).trans (blk_cell B3.out j)).trans ?_; rw [List.getElem?_toArray, repL_get n m j (by omega)]; exact hj⟩)
   have CF := Aside0.mk (show m + (List.replicate k1 (Value.int .i64 (-1))).length ≤ (repL n m).length by rw [repL_len n m hm, List.length_replicate]; omega); have C1 := Aside0.mk (show ∀ v ∈ List.replicate k1 (Value.int .i64 (-1)), v.oneCell' = true from fun v hv => by rw [List.eq_of_mem_replicate hv]; rfl); refine start_ (n := 10) (S := fun w' => True) (ds := [7]) #[false, false, false, false, false, false, false, false, false, false] (by kernel_rfl) rfl rfl trivial (fun hHeld => ?_); generalize wr.drew = wd at B3 HB CP hHeld ⊢; refine pure_y 0 (some 38) (bz 10 1) ?_; refine pure_y 1 (some 39) (bz 10 3) ?_; refine pure_y 2 (some 40) (bz 10 7) ?_; refine pure_y 3 (some 41) (bz 10 15) ?_; refine pure_y 4 (some 42) (bz 10 31) ?_; refine pure_y 5 (some 43) (bz 10 63) ?_; refine pure_y 6 (some 44) (bz 10 127) ?_; refine last_ (i := 7) (N := some 45) (bz 10 255) rfl rfl (by kernel_rfl) (by decide) (fun K hK => ?_); refine step_copy_splice rfl (.tmp 41) (.tmp 44) 27 27 rfl 3 Try.underlying27 HSZ.out _ _ _ _ _ _ rfl rfl g m (repL n m) 3 B3.out (List.replicate k1 (.int .i64 (-1))) CL.out CP.out CF.out C1.out w.heap.size w HB.out GEg.out ?_; intro w' hid hb'; have B5 := Aside0.mk hid.out; have HB5 := Aside0.mk hb'; clear hid hb'; refine hK.out _ _ ?_; clear hK K; refine norm_y (some 45) ?_; refine pure_y 8 (some 46) (bz 10 511) ?_; refine pure_y 9 (some 8) (bz 10 1023) ?_; refine done_ (by kernel_rfl) ?_; clear CL CP CF C1 HB; have B6 := Aside0.mk (show w'.heap[g]? = some (.cells (repL n (m + k1)).toArray 3 (0, 0)) by rw [← repL_splice n m k1 (by omega)]; exact B5.out); go_wp2; go_roundg (n - (m + k1))
   case measure => omega
   case rel => exact ⟨m + k1, by omega, by omega, by omega, (congrArg (Value.int .i64) (by first | omega | (rw [IntWalk.wrap64_in _ (by omega)]; omega))), B6, HB5⟩
  ·
   (have : m = n := by omega); subst this; go_wp2; go_ret; refine ⟨g, rfl, ?_, GEg.out, HB.out⟩; have hb := B3.out; unfold repL at hb; rw [Nat.sub_self] at hb
   simpa using hb
set_option maxHeartbeats 8000000 in
set_option maxRecDepth 100000 in
theorem clone_calls (ad : Addr) (c : Nat) (l : List Int) (w : World) (hr : Kd.C (Kd.int .i64) w (some ad) l.length l) (hc : l.length ≤ c) (hl : l.length ≤ 1000000) :
  Calls Try.prog 84 #[.slice (some ad) l.length c] w fun e w' => ∃ v, e = .returned v ∧ Kd.R (Kd.int .i64) 3 w' w.heap.size (fun _ => True) v l ∧ Below w.heap.size w w' := by
 have HR0 := Aside0.mk hr
 clear hr
 obtain ⟨y0, hy0⟩ : ∃ y : List Int, y = [] := ⟨_, rfl⟩
 have hyl : y0.length = 0 := by rw [hy0]; rfl
 have HY := Aside0.mk hy0
 clear hy0
 have hnil : ∀ w : World, (binOp .eql 27 (.slice (some ad) l.length c) (.slice none 0 0)).run Try.prog w = .ok (.bool false) w := fun w => Lib.run_eql_slice_nil w 27 3 (some ad) l.length c 0 0 Try.underlying27
 go_enter Try.func84, Try.ntmps84
 go_wp2_with (first
  | ((with_reducible refine gate_dst (N := 5) rfl ?_); refine Kd.R_lit (Kd.int .i64) _ 3 ?hg (N := 5) ?hd (xs := ([] : List Int)) (inner := []) (ok := fun _ => True) (okp := fun _ => True) ?hr ?hp (fun _ hk => hk) trivial (Below.refl _ _) (Nat.le_refl _) (by simp) ?_; (case hd => rfl); (case hg => rfl); (case hr => first | (go_simp; done) | (go_simp; rfl)); (case hp => exact (Reps.none _ _)); intro v3 w3 ho hb hg_ hnew_; clear hg_ hnew_; rw [← HY.out] at ho; have HO := Aside0.mk ho; have HB := Aside0.mk hb; clear hb ho)
  | ((with_reducible refine gate_builtin (b := .append) (xs := #[.tmp 5, .tmp 6]) rfl ?_); at_builtin; refine Kd.R_append_rows (Kd.int .i64) (w0 := w) w.heap.size rfl (.tmp 5) (.tmp 6) 27 3 (.int .i64 0) 8 rfl Try.underlying27 info3 rfl (by decide) (by omega) v3 y0 l _ _ _ (fun _ => True) (fun _ => False) rfl rfl ?aO ?aR (fun _ _ h => h) (fun _ h => h.elim) ?aF ?aB ?aS ?aL ?_; (case aR => exact Kd.C_below HR0.out HB.out); (case aB => exact HB.out); (case aF => exact (fun _ _ => trivial)); (case aO => exact HO.out); (case aS => exact HB.out.size); (case aL => omega); intro v4 w5 ho hb hg hat; rw [HY.out, List.nil_append] at ho; have HO5 := Aside0.mk ho; have HB5 := Aside0.mk hb; clear ho hb hg hat))
 go_ret
 exact ⟨_, rfl, HO5.out, HB5.out⟩
end Go.Proofs.Ytodmemndaaiolaa.PC7
namespace Go.Proofs.Ytodmemndaaiolaa.PC7
set_option linter.unusedVariables false
set_option linter.unusedSimpArgs false
open Go.RowKit Go.Proofs.YtodmemndaaiolaaW.PrintWords Go.Proofs.YtodmemndaaiolaaW.PrintLast Go.Proofs.YtodmemndaaiolaaW.PrintMore
open Go.Shelf
attribute [local go_sem] Oper.semAt_some
def KpB (gb : Nat) (A B : World) : Prop := ∀ b o, b ≠ gb → A.heap[b]? = some o → o.isCells = true → B.heap[b]? = some o
def encStow (x : Value × List Int) : Array Value := #[x.1]
def RxS (n₀ : Nat) (L : List (List Int)) (b : Nat) (x : Value × List Int) (W : World) : Prop := x.2 ∈ L ∧ ∃ base, n₀ ≤ base ∧ b < base ∧ Kd.R (Kd.int .i64) 3 W base (fun _ => True) x.1 x.2
set_option maxHeartbeats 8000000 in
set_option maxRecDepth 100000 in
theorem clone_row (g N : Nat) (l : List Int) (w : World) (hb : w.heap[g]? = some (.cells (l.map (Value.int .i64)).toArray 3 (0, 0))) (hl : l.length = N) (hN : N ≤ 6) :
  Calls Try.prog 84 #[.slice (some ⟨g, 0, none⟩) N N] w fun e w' => ∃ v, e = .returned v ∧ Kd.R (Kd.int .i64) 3 w' w.heap.size (fun _ => True) v l ∧ Below w.heap.size w w' := by
 subst hl
 refine clone_calls ⟨g, 0, none⟩ l.length l w ?_ (Nat.le_refl _) (by omega)
 refine (Kd.R_reads' (R_of_owns .i64 (e := 3) (W := w) (base := 0) (v := .slice (some ⟨g, 0, none⟩) l.length l.length) (xs := l) ⟨by simp, .inr ⟨g, l.length, _, rfl, Nat.zero_le _, hb, Nat.le_refl _, by unfold maxLen; omega, by simp, by rw [Nat.mul_one]; exact List.take_of_length_le (by simp)⟩⟩)).2.2
set_option maxHeartbeats 8000000 in
set_option maxRecDepth 100000 in
theorem stowages_gives (n gv n₀ gbest : Nat) (hn : 1 ≤ n) (x : VoyV) (w : World) (hb : w.heap[gv]? = some (.cells #[.int .i64 x.light, .int .i64 x.under, .int .i64 x.trim, .slice x.A3 x.holds.length x.c3, .int .i64 x.leaves, .slice x.A5 x.sills.length x.c5, .slice x.A6 x.lots.length x.c6] 26 (0, 0))) (hne : gv ≠ gbest) (hlt : gbest < w.heap.size) (hH : x.holds.length ≤ 100) (hN : x.lots.length ≤ 6) (hn0 : n₀ ≤ w.heap.size) :
  GivesR n 82 #[.pointer (some ⟨gv, 0, none⟩)] encStow (RxS n₀ (stowsL x.holds.length x.lots.length)) (KpB gbest) (fun xs => xs.map (·.2) = stowsL x.holds.length x.lots.length) w := by
 intro l J W hW hJ hJs hY h0
 refine callsIn_wide.2 ?_
 have BV := Aside0.mk (blk_below hb hW)
 have HY := Aside0.mk hY
 have H0 := Aside0.mk h0
 have HW := Aside0.mk (Below.refl W.heap.size W)
 have HLT := Aside0.mk (show gbest < W.heap.size from Nat.lt_of_lt_of_le hlt hW.size)
 have HN0 := Aside0.mk (Nat.le_trans hn0 hW.size)
 have HNV := Aside0.mk (show gv < W.heap.size from blk_lt BV.out)
 clear hb hY h0 hW hlt hn0
 have hz6_ : (W.alloc (.cells #[.int .i64 (-1)] 3 (0, 0))).cell? ⟨gv, 6, none⟩ = some (.slice x.A6 x.lots.length x.c6) := (blk_cell (blk_below BV.out (below_alloc HW.out _)) 6).trans rfl
 go_enter Try.func82, Try.ntmps82
 go_wp2_with (fail)
 refine (repeat_calls W.heap.size x.lots.length _ hN (blk_new _ _)).mono ?_
 rintro e w1 ⟨g, rfl, hg1, hgs, hb1⟩
 have BG0 := Aside0.mk hg1
 have GE := Aside0.mk (show W.heap.size ≤ g by have := World.size_alloc W (.cells #[.int .i64 (-1)] 3 (0, 0)); omega)
 have HB1 := Aside0.mk (show Below W.heap.size W w1 from below_step (below_alloc (Below.refl _ _) _) hb1)
 have BV1 := Aside0.mk (blk_below BV.out HB1.out)
 have HJ1 := Aside0.mk (hJ g _ _ _ _ (H0.out g GE.out) (grown_of_below HB1.out none) (by simp))
 clear hg1 hgs hb1 hz6_ H0 HW BV
 go_wp2_with (fail)
 obtain ⟨T, hT⟩ : ∃ T : List (List Int), T = stowsL x.holds.length x.lots.length := ⟨_, rfl⟩
 obtain ⟨r0, hr0⟩ := stowsL_head x.holds.length x.lots.length
 have HTM := Aside0.mk (fun k t (h : (stowsL x.holds.length x.lots.length)[k]? = some t) => stowsL_mem _ _ t (List.mem_of_getElem? h))
 have HTN := Aside0.mk (stowsL_next x.holds.length x.lots.length)
 rw [← hT] at hr0 HTM HTN
 have HTQ := Aside0.mk hT
 have HT0 := Aside0.mk (show T[0]? = some (List.replicate x.lots.length (-1)) by rw [hr0]; rfl)
 have HTT := Aside0.mk (show 0 < T.length by rw [hr0]; simp)
 clear hr0 r0 hT
 go_loopg [4] T.length (fun gk v4 wr => ∃ k : Nat, ∃ pre : List (Value × List Int), ∃ t : List Int, k < T.length ∧ T.length - k ≤ gk + 1 ∧ Aside0 (pre.map (·.2) = T.take k) ∧ Aside0 (T[k]? = some t) ∧ Aside0 (J g pre wr) ∧ Aside0 (wr.heap[g]? = some (.cells (t.map (Value.int .i64)).toArray 3 (0, 0))) ∧ Aside0 (wr.heap[gv]? = some (.cells #[.int .i64 x.light, .int .i64 x.under, .int .i64 x.trim, .slice x.A3 x.holds.length x.c3, .int .i64 x.leaves, .slice x.A5 x.sills.length x.c5, .slice x.A6 x.lots.length x.c6] 26 (0, 0))))
 case atStart => exact ⟨0, [], _, HTT.out, by omega, ⟨rfl⟩, HT0, HJ1, ⟨by rw [BG0.out]; simp⟩, BV1⟩
 case round =>
  clear BG0 HB1 BV1 HJ1 HT0 HTT; obtain ⟨k, pre, t, hk, hgk, HPR, HTK, HJP, BG, BV⟩ := hrel; obtain ⟨htl, hte⟩ := HTM.out k t HTK.out; have HTE := Aside0.mk hte; clear hte; refine (wpIn_wide (n := n)).1 ?_
  gi_wp2
  refine ⟨trivial, callsIn_wide.2 ((clone_row g x.lots.length t wr BG.out htl hN).mono ?_)⟩; rintro e w2 ⟨v, rfl, hR, hb2⟩; have hgl : g < wr.heap.size := blk_lt BG.out; have hRX : RxS n₀ (stowsL x.holds.length x.lots.length) g (v, t) w2 := ⟨by rw [← HTQ.out]; exact List.mem_of_getElem? HTK.out, wr.heap.size, by have := HN0.out; have := GE.out; omega, hgl, hR⟩; have BG2 := Aside0.mk (blk_below BG.out hb2); have BV2 := Aside0.mk (blk_below BV.out hb2); have hJ2 := hJ g _ _ _ _ HJP.out (grown_of_below hb2 none) (by simp); obtain ⟨fn, tmps, assign, body, hy, hRR⟩ := HY.out g pre (v, t) w2 GE.out hJ2 hRX; dsimp only [encStow] at hy; have HRR := Aside0.mk hRR; clear hRR hJ2 hRX hR hb2 hgl BG BV HJP
  gi_wp2
  refine HRR.out.mono ?_; rintro e W3 ⟨rfl, hJ3, hk3⟩; have HJ3 := Aside0.mk hJ3; have BG3 := Aside0.mk (hk3 g _ (by have := HLT.out; have := GE.out; omega) BG2.out rfl); have BV3 := Aside0.mk (hk3 gv _ hne BV2.out rfl); clear hJ3 hk3 HRR hy BG2 BV2
  gi_wp2
  refine wpIn_wide.2 ?_; have HN := Aside0.mk (HTN.out k t HTK.out)
  go_loopg [4] x.lots.length (fun gk2 v4 wr2 => ∃ j : Nat, j ≤ x.lots.length ∧ j ≤ gk2 ∧ v4 = .int .i64 ((j : Int) - 1) ∧ Aside0 (t = t.take j ++ List.replicate (t.length - j) ((x.holds.length : Int) - 1)) ∧ Aside0 (J g (pre ++ [(v, t)]) wr2) ∧ Aside0 (wr2.heap[g]? = some (.cells ((curL t j).map (Value.int .i64)).toArray 3 (0, 0))) ∧ Aside0 (wr2.heap[gv]? = some (.cells #[.int .i64 x.light, .int .i64 x.under, .int .i64 x.trim, .slice x.A3 x.holds.length x.c3, .int .i64 x.leaves, .slice x.A5 x.sills.length x.c5, .slice x.A6 x.lots.length x.c6] 26 (0, 0))))
  case atStart => exact ⟨x.lots.length, Nat.le_refl _, Nat.le_refl _, rfl, ⟨by rw [← htl]; simp⟩, HJ3, ⟨by rw [← htl, curL_all]; exact BG3.out⟩, BV3⟩
  case round =>
   clear BG3 BV3 HJ3; obtain ⟨j, hj, hgk2, rfl, HF, HJP, BG, BV⟩ := hrel; cases j with
   | zero =>
    have HDN := Aside0.mk (enum_done v HPR.out HTK.out (HN.out.symm.trans (next_none t _ HF.out)))
    go_upto_region 3 with (fail)
    go_quiet (fail)
    have HJ4 := Aside0.mk (hJ g _ _ _ _ HJP.out (grown_of_below (pw_below_drewN (Below.refl _ _) nq) none) (by simp)); obtain ⟨wq, hwq⟩ : ∃ wq : World, wq = wr.drewN nq := ⟨_, rfl⟩; rw [← hwq] at HJ4 ⊢; clear hwq; go_wp2; refine wpIn_wide.2 ?_; go_wp2; refine bodyPost_ret (results_none rfl _ _ _) rfl ?_; exact ⟨⟨_, rfl⟩, g, _, GE.out, by rw [← HTQ.out]; exact HDN.out, HJ4.out⟩
   | succ j =>
    rw [show ((j + 1 : Nat) : Int) - 1 = (j : Int) by omega]; (have hjl : j < t.length := by omega); (have hjz : (j : Int) < (x.lots.length : Int) := by omega); have hge : decide ((0 : Int) ≤ (j : Int)) = true := decide_eq_true (by omega); have HG := Aside0.mk (curL_get t j hjl); have HC := Aside0.mk (curL_back t j hjl); have hcl : wr.cell? ⟨g, j, none⟩ = some (.int .i64 (t.getD j 0)) := (blk_cell BG.out j).trans (by rw [List.getElem?_toArray, List.getElem?_map, HG.out]; rfl); have hz3 : wr.cell? ⟨gv, 3, none⟩ = some (.slice x.A3 x.holds.length x.c3) := (blk_cell BV.out 3).trans rfl; have HI := Aside0.mk (HTE.out (t.getD j 0) (by rw [List.getD, List.getElem?_eq_getElem hjl]; exact List.getElem_mem hjl)); by_cases hd : t.getD j 0 = (x.holds.length : Int) - 1
    ·
     have HFB := Aside0.mk (full_back t _ j hjl HF.out hd); rw [hd] at hcl; clear HF HI
     go_upto_region 3 with (fail)
     go_quiet (fail)
     have HJ4 := Aside0.mk (hJ g _ _ _ _ HJP.out (grown_of_below (pw_below_drewN (Below.refl _ _) nq) none) (by simp)); have BG4 := Aside0.mk (blk_drewN BG.out nq); have BV4 := Aside0.mk (blk_drewN BV.out nq); obtain ⟨wq, hwq⟩ : ∃ wq : World, wq = wr.drewN nq := ⟨_, rfl⟩; rw [← hwq] at HJ4 BG4 BV4 ⊢; clear hwq hcl hz3 BG BV HJP; have hcl : wq.cell? ⟨g, j, none⟩ = some (.int .i64 ((x.holds.length : Int) - 1)) := (blk_cell BG4.out j).trans (by rw [List.getElem?_toArray, List.getElem?_map, HG.out, hd]; rfl); have HSJ := Aside0.mk (hJs g _ _ j (.int .i64 (-1)) GE.out HJ4.out (by rw [hcl]; simp)); have BG5 := Aside0.mk (blk_put BG4.out j (.int .i64 (-1)) ((map_set_int (curL t (j + 1)) j (-1)).trans (by rw [HC.out]))); have BV5 := Aside0.mk (blk_far BV4.out (p := ⟨g, j, none⟩) (by have := HNV.out; have := GE.out; show gv ≠ g; omega) (.int .i64 (-1))); have hfz := blk_frozen BG4.out; clear HG; go_wp2; go_roundg j
     case measure => omega
     case rel => exact ⟨j, by omega, Nat.le_refl _, rfl, HFB, HSJ, BG5, BV5⟩
    ·
     have HNX := Aside0.mk (next_at t _ j hjl HF.out hd); have hdi := HI.out; clear HF HI; generalize t.getD j 0 = d at *; have hdb : (d == (x.holds.length : Int) - 1) = false := beq_eq_false_iff_ne.2 hd
     go_upto_region 3 with (fail)
     go_quiet (fail)
     have HJ4 := Aside0.mk (hJ g _ _ _ _ HJP.out (grown_of_below (pw_below_drewN (Below.refl _ _) nq) none) (by simp)); have BG4 := Aside0.mk (blk_drewN BG.out nq); have BV4 := Aside0.mk (blk_drewN BV.out nq); obtain ⟨wq, hwq⟩ : ∃ wq : World, wq = wr.drewN nq := ⟨_, rfl⟩; rw [← hwq] at HJ4 BG4 BV4 ⊢; have hcq : wq.cell? ⟨g, j, none⟩ = some (.int .i64 d) := (blk_cell BG4.out j).trans (by rw [List.getElem?_toArray, List.getElem?_map, HG.out]; rfl); clear hwq hcl hz3 BG BV HJP; have HSJ := Aside0.mk (hJs g _ _ j (.int .i64 (d + 1)) GE.out HJ4.out (by rw [hcq]; simp)); have BG5 := Aside0.mk (blk_put BG4.out j (.int .i64 (d + 1)) (map_set_int (curL t (j + 1)) j (d + 1))); have BV5 := Aside0.mk (blk_far BV4.out (p := ⟨g, j, none⟩) (by have := HNV.out; have := GE.out; show gv ≠ g; omega) (.int .i64 (d + 1))); have hfz := blk_frozen BG4.out; have HK1 := Aside0.mk (HN.out.symm.trans HNX.out); have HLK := Aside0.mk (List.getElem?_eq_some_iff.1 HK1.out).1; have HMO := Aside0.mk (enum_more v HPR.out HTK.out); have hgx := HLK.out; clear HG; go_wp2; refine wpIn_wide.2 ?_; go_wp2; go_roundg (T.length - (k + 2))
     case measure => omega
     case rel => exact ⟨k + 1, _, _, HLK.out, by omega, HMO, HK1, HSJ, BG5, BV5⟩
end Go.Proofs.Ytodmemndaaiolaa.PC7
namespace Go.Proofs.Ytodmemndaaiolaa.PC7
set_option linter.unusedVariables false
open Go.RowKit Go.Proofs.YtodmemndaaiolaaW.PrintLast
section
variable {P : Program} {ops : Array Oper} {Q : Exit → Act → World → Prop} {md : Region.Mode} {S : World → Prop} {ds : List Nat} {l n : Nat}
theorem opIn_of_wp {o : Oper} {a : Act} {w : World} {K : Act → World → Prop} (hd : ∀ c, o.op ≠ .defer c) (h : o.wp P a w K Q) : o.wpIn (Fence.wide.inRound l) n P a w K Q := by
  refine ⟨fun _ _ => trivial, ?_⟩
  rw [Oper.semAt_eq _ _ _ hd]
  unfold Oper.wp at h
  have hdep : (Fence.wide.inRound l).depth.isSome = true → 1 ≤ n := fun hh => by simp [Fence.wide, Fence.inRound] at hh
  generalize (execOp a.eval o).run P w = r at h ⊢
  cases r with
  | ok x w' =>
    cases x with
    | value v => exact h
    | skip => exact h
    | defer d => exact h
    | enter f args => exact ⟨hdep, (callsIn_wide.2 h).inRound l⟩
    | row row args =>
      refine ⟨hdep, fun c cs _ => ?_⟩
      obtain ⟨v, w2, hr, hs⟩ := h c cs
      exact ⟨v, w2, hr, stepsIn_wide.2 hs⟩
    | round l' f tmps assign body => exact h.elim
    | _ => exact h.elim
  | halt x w' =>
    cases x with
    | panic v => exact h
    | _ => exact h.elim
theorem opIn_of {i : Nat} {a : Act} {w : World} {K : Act → World → Prop} (hd : ∀ o, ops[i]? = some o → ∀ c, o.op ≠ .defer c) (hL : ¬ LetsOut Q) (h : wpOp P ops Q i K a w) : wpOpIn (Fence.wide.inRound l) n P ops Q i K a w := by
  unfold wpOp at h
  unfold wpOpIn
  cases ho : ops[i]? with
  | none => rw [ho] at h; exact h
  | some o =>
    rw [ho] at h
    simp only at h ⊢
    by_cases hw : Region.wanted o (yielded ops a.tmps) = true
    · rw [if_pos hw] at h ⊢
      rcases h with h | ⟨_, h⟩
      · exact opIn_of_wp (hd o ho) h
      · exact absurd h hL
    · rw [if_neg hw] at h ⊢
      exact ⟨fun _ _ => trivial, h⟩
theorem anyIn_of (hd : ∀ (i : Nat) (o : Oper), ops[i]? = some o → ∀ c, o.op ≠ .defer c) (hL : ¬ LetsOut Q) : ∀ (fuel : Nat) (listed : Array Bool) (a : Act) (w : World), wpAny P md ops Q fuel listed a w → wpAnyIn (Fence.wide.inRound l) n P md ops Q fuel listed a w
  | 0, _, _, _, h => h
  | fuel + 1, listed, a, w, h => ⟨h.1, fun i hi => opIn_of (hd i) hL (wpOp_mono (fun a' w' h' => anyIn_of hd hL fuel _ a' w' h') (h.2 i hi))⟩
def noDefer (ops : Array Oper) : Bool := ops.all fun o => match o.op with | .defer _ => false | _ => true
theorem noDefer_spec (h : noDefer ops = true) : ∀ (i : Nat) (o : Oper), ops[i]? = some o → ∀ c, o.op ≠ .defer c := by
  intro i o ho c hc
  have := Array.all_eq_true_iff_forall_mem.1 h o (Array.mem_of_getElem? ho)
  rw [hc] at this
  cases this
theorem startR_ {id m : Nat} {a : Act} {w : World} (l₀ : Array Bool) (hdf : noDefer ops = true) (hL : ¬ LetsOut Q) (hm : P.follows .mixedOrders = true) (hn : ops.size = m) (hl : Array.replicate m false = l₀) (hS : S w.drew)
    (h : S w.drew → wpAnyLast P .any ops Q S ds m l₀ a w.drew) : (Code.region id ops true).wpIn (Fence.wide.inRound l) n P Q a w := by
  subst hn
  subst hl
  exact wpIn_region_any hm (anyIn_of (noDefer_spec hdf) hL _ _ _ _ (wpAny_of_last _ _ _ _ (h hS)))
end
end Go.Proofs.Ytodmemndaaiolaa.PC7
namespace Go.Proofs.Ytodmemndaaiolaa.PC7
open Go.RowKit Go.Proofs.YtodmemndaaiolaaW.PrintWords Go.Proofs.YtodmemndaaiolaaW.PrintLast Go.Proofs.YtodmemndaaiolaaW.PrintMore
attribute [local go_sem] max2_int min2_int max_two min_two max_three min_three max_four min_four
set_option linter.unusedVariables false
set_option linter.unusedSimpArgs false
def ship_level.f (k : Nat) (a0_0 : Int) (a0_1 : Int) (a0_2 : Int) (l0_3 : List (S85)) (a0_4 : Int) (l0_5 : List (S59)) (l0_6 : List (S79)) (a1_0 : Int) (a1_1 : Int) : Option (Bool) := (ship_greatest.f k a1_1 (([wrap64 (-a1_0)] : List Int))).bind fun t154 => (some (decide (t154 ≤ (wrap64 (1000 * a0_2)))))
theorem ship_level.mono : ∀ a0 a1 a2 a3 a4 a5 a6 a7 a8 k, LeO (ship_level.f k a0 a1 a2 a3 a4 a5 a6 a7 a8) (ship_level.f (k + 1) a0 a1 a2 a3 a4 a5 a6 a7 a8) := by
 intro a0 a1 a2 a3 a4 a5 a6 a7 a8 k
 unfold ship_level.f
 repeat' (with_reducible first | exact ship_greatest.mono _ _ _ | exact LeO.refl _ | exact LeO.none _ | refine LeO.ite ?_ ?_ | refine LeO.bind ?_ (fun _ => ?_))
def ship_level.T1 : Bool × List (List Nat × List Nat) := (true, [([], []), ([0], [0]), ([], []), ([2], [2]), ([3], [3]), ([4], [4]), ([1, 5], [1, 5]), ([], []), ([7], [7]), ([8], [8]), ([6, 9], [6, 9]), ([10, 6, 0, 1, 2, 3, 4, 5, 6, 7, 8, 9, 10], [10])])
def ship_level.B1 : List Nat := [0, 1, 0, 4, 12, 28, 63, 0, 128, 384, 1023, 2047]
theorem ship_level.tab1 : rtab .any (opsOf Try.f64 1) = ship_level.T1 := by kernel_rfl
theorem ship_level.bits1 : waitsOk ship_level.T1.2 ship_level.B1 = true := by kernel_rfl
set_option maxHeartbeats 8000000 in
set_option maxRecDepth 100000 in
theorem ship_level.calls (k : Nat) (a0_0 : Int) (a0_1 : Int) (a0_2 : Int) (A0_3 : Option Addr) (c0_3 : Nat) (l0_3 : List (S85)) (a0_4 : Int) (A0_5 : Option Addr) (c0_5 : Nat) (l0_5 : List (S59)) (A0_6 : Option Addr) (c0_6 : Nat) (l0_6 : List (S79)) (a1_0 : Int) (a1_1 : Int) (r : Bool) (w : World) (hr0_3 : Kd.C k85 w A0_3 l0_3.length l0_3) (hc0_3 : l0_3.length ≤ c0_3) (hr0_5 : Kd.C k59 w A0_5 l0_5.length l0_5) (hc0_5 : l0_5.length ≤ c0_5) (hr0_6 : Kd.C k79 w A0_6 l0_6.length l0_6) (hc0_6 : l0_6.length ≤ c0_6) (h : ship_level.f k a0_0 a0_1 a0_2 l0_3 a0_4 l0_5 l0_6 a1_0 a1_1 = some r) :
  Calls Try.prog 64 #[.agg #[.int .i64 a0_0, .int .i64 a0_1, .int .i64 a0_2, .slice A0_3 l0_3.length c0_3, .int .i64 a0_4, .slice A0_5 l0_5.length c0_5, .slice A0_6 l0_6.length c0_6], .agg #[.int .i64 a1_0, .int .i64 a1_1]] w fun e w' => e = .returned (.bool r) ∧ Below w.heap.size w w' := by
 have hu26 := Try.underlying26
 have hu56 := Try.underlying56
 have HR0_3 := Aside0.mk hr0_3
 have HC0_3 := Aside0.mk hc0_3
 clear hr0_3 hc0_3
 have HR0_5 := Aside0.mk hr0_5
 have HC0_5 := Aside0.mk hc0_5
 clear hr0_5 hc0_5
 have HR0_6 := Aside0.mk hr0_6
 have HC0_6 := Aside0.mk hc0_6
 clear hr0_6 hc0_6
 have HB := Aside0.mk (Below.refl w.heap.size w)
 have H : ((ship_greatest.f k a1_1 (([wrap64 (-a1_0)] : List Int))).bind fun t154 => (some (decide (t154 ≤ (wrap64 (1000 * a0_2)))))) = some r := h
 clear h
 obtain ⟨y151, hy151⟩ : ∃ y_ : List Int, y_ = (([wrap64 (-a1_0)] : List Int)) := ⟨_, rfl⟩
 replace H : ((ship_greatest.f k a1_1 y151).bind fun t154 => (some (decide (t154 ≤ (wrap64 (1000 * a0_2)))))) = some r := by first | (rw [hy151]; with_reducible exact H) | (have H2_ := (Option.bind_some _ _).symm.trans H; rw [hy151]; with_reducible exact H2_) | (have H2_ := (Option.bind_some _ _).symm.trans H; with_reducible exact H2_) | with_reducible exact H | (rw [hy151]; exact H) | exact H
 have Ny151 := Aside0.mk hy151
 clear hy151
 replace H := Option.bind_eq_some_iff.mp H
 obtain ⟨t154, A30, H⟩ := H
 replace H : (some (decide (t154 ≤ (wrap64 (1000 * a0_2))))) = some r := H
 have A3 := Aside0.mk A30
 clear A30
 obtain rfl := Option.some.inj H
 go_enter Try.func64, Try.ntmps64
 try go_wp2_with (first | (refine box_r (N := 2) rfl (cs := #[.int .i64 a0_0, .int .i64 a0_1, .int .i64 a0_2, .slice A0_3 l0_3.length c0_3, .int .i64 a0_4, .slice A0_5 l0_5.length c0_5, .slice A0_6 l0_6.length c0_6]) (t := 26) ?_; intro gb149 hg w4 hbox hb; have BK149 := Aside0.mk (hbox); have GW149 := gw_x hg HB; have GE149 := GW149; replace HB := Aside0.mk (below_step (below_x HB.out) hb); clear hb hbox hg) | (refine box_r (N := 3) rfl (cs := #[.int .i64 a1_0, .int .i64 a1_1]) (t := 56) ?_; intro gb150 hg w5 hbox hb; have BK150 := Aside0.mk (hbox); have GW150 := gw_x hg HB; have GE150 := GW150; replace HB := bl_x HB hb; have NB149_150 := nb_x hg BK149; have NB150_149 := nb_y hg BK149; replace BK149 := bk_x BK149 hb; clear hb hbox hg))
 replace BK149 := Aside0.mk (blk_drew BK149.out)
 replace BK150 := Aside0.mk (blk_drew BK150.out)
 replace HB := Aside0.mk (below_drew1 HB.out)
 refine start_ (n := 12) (S := fun w' => w'.cell? ⟨gb150, 0, none⟩ = some (.int .i64 a1_0) ∧ w'.cell? ⟨gb150, 1, none⟩ = some (.int .i64 a1_1) ∧ w'.cell? ⟨gb149, 0, none⟩ = some (.int .i64 a0_0) ∧ w'.cell? ⟨gb149, 1, none⟩ = some (.int .i64 a0_1) ∧ w'.cell? ⟨gb149, 2, none⟩ = some (.int .i64 a0_2) ∧ w'.cell? ⟨gb149, 3, none⟩ = some (.slice A0_3 l0_3.length c0_3) ∧ w'.cell? ⟨gb149, 4, none⟩ = some (.int .i64 a0_4) ∧ w'.cell? ⟨gb149, 5, none⟩ = some (.slice A0_5 l0_5.length c0_5) ∧ w'.cell? ⟨gb149, 6, none⟩ = some (.slice A0_6 l0_6.length c0_6)) (ds := []) #[false, false, false, false, false, false, false, false, false, false, false, false] (by kernel_rfl) rfl rfl ⟨(blk_cell BK150.out 0).trans rfl, (blk_cell BK150.out 1).trans rfl, (blk_cell BK149.out 0).trans rfl, (blk_cell BK149.out 1).trans rfl, (blk_cell BK149.out 2).trans rfl, (blk_cell BK149.out 3).trans rfl, (blk_cell BK149.out 4).trans rfl, (blk_cell BK149.out 5).trans rfl, (blk_cell BK149.out 6).trans rfl⟩ (fun hHeld => ?_); refine with_tabW ship_level.tab1 ship_level.bits1 (fun HT_ HW_ => ?_)
 generalize w5.drew = w6 at BK149 BK150 HB hHeld ⊢
 refine pure_t 0 (some 5) (bz 12 1) HT_ ?_
 refine pure_t 2 (some 7) (bz 12 5) HT_ ?_
 refine pure_t 7 (some 12) (bz 12 133) HT_ ?_
 refine take_t 1 (some 6) (bz 12 135) HT_ HW_ hHeld ?_
 refine take_t 3 (some 8) (bz 12 143) HT_ HW_ hHeld ?_
 refine pure_t 4 (some 9) (bz 12 159) HT_ ?_
 refine take_t 8 (some 13) (bz 12 415) HT_ HW_ hHeld ?_
 refine pure_t 9 (some 14) (bz 12 927) HT_ ?_
 refine one_t 5 (some 10) (bz 12 959) HT_ fun K hK => ?_
 refine Kd.R_lit_step (Kd.int .i64) _ 3 ?hg (N := 10) ?hd (xs := ([wrap64 (-a1_0)] : List Int)) (inner := [.int .i64 (wrap64 (-a1_0))]) (ok := fun _ => True) (okp := fun _ => True) ?hr ?hp (fun _ hk => hk) trivial (Below.refl _ _) (Nat.le_refl _) (by simp) ?_; (case hd => rfl); (case hg => rfl); (case hr => first | (go_simp; done) | (go_simp; rfl)); (case hp => exact (Reps.one (show Kd.M (Kd.int .i64) _ _ _ (wrap64 (-a1_0)) [.int .i64 (wrap64 (-a1_0))] from rfl) (Reps.none _ _)))
 intro v152 w7 ho8 hb hg_ hnew_
 clear hg_ hnew_
 (first | rw [← Ny151.out] at ho8 | (simp only [Int.reduceToNat] at ho8; rw [← Ny151.out] at ho8))
 have HO153 := Aside0.mk (Kd.R_lower ho8 (below_size (by exact below_y HB.out)))
 replace BK149 := bk_x BK149 hb
 replace BK150 := bk_x BK150 hb
 replace HB := bl_x HB hb
 clear hb ho8
 obtain ⟨Ao9, co9, eo9⟩ := Kd.R_slice HO153.out
 (first | subst eo9 | (injection eo9 with f1_ f2_ f3_; have f4_ := f1_.symm; have f5_ := f3_.symm; clear f1_ f2_ f3_; subst f4_; subst f5_))
 refine hK.out _ _ ⟨(blk_cell BK150.out 0).trans rfl, (blk_cell BK150.out 1).trans rfl, (blk_cell BK149.out 0).trans rfl, (blk_cell BK149.out 1).trans rfl, (blk_cell BK149.out 2).trans rfl, (blk_cell BK149.out 3).trans rfl, (blk_cell BK149.out 4).trans rfl, (blk_cell BK149.out 5).trans rfl, (blk_cell BK149.out 6).trans rfl⟩ (fun hHeld => ?_)
 clear hK K
 refine norm_y (some 10) ?_
 refine one_t 6 (some 11) (bz 12 1023) HT_ fun K hK => ?_
 refine goes_x Try.func79 #[.int .i64 a1_1, .slice Ao9 y151.length co9] ?_
 with_reducible refine (ship_greatest.calls k a1_1 _ _ y151 t154 _ ?side1 ?side2 A3.out).mono ?_
 (case side1 => exact Kd.C_y (Kd.R_reads' HO153.out).2.2)
 (case side2 => exact (Kd.R_reads' HO153.out).2.1)
 rintro e w10 ⟨rfl, hb⟩
 refine ⟨_, rfl, ?_⟩
 replace HO153 := Aside0.mk (Kd.R_below (Kd.R_x HO153.out) hb)
 replace BK149 := bk_x BK149 hb
 replace BK150 := bk_x BK150 hb
 replace HB := bl_x HB hb
 (try clear hb)
 (try clear hb2)
 (try clear hk)
 (try clear hi)
 refine hK.out _ _ ⟨(blk_cell BK150.out 0).trans rfl, (blk_cell BK150.out 1).trans rfl, (blk_cell BK149.out 0).trans rfl, (blk_cell BK149.out 1).trans rfl, (blk_cell BK149.out 2).trans rfl, (blk_cell BK149.out 3).trans rfl, (blk_cell BK149.out 4).trans rfl, (blk_cell BK149.out 5).trans rfl, (blk_cell BK149.out 6).trans rfl⟩ (fun hHeld => ?_)
 clear hK K
 refine norm_y (some 11) ?_
 refine pure_t 10 (some 15) (bz 12 2047) HT_ ?_
 refine pure_t 11 (some 4) (bz 12 4095) HT_ ?_
 refine done_ (done_of HT_.out (by kernel_rfl)) ?_
 try go_wp2
 go_ret
 exact rt_y HB
def ship_apart.l0 : Nat → List Int → Int → Int → Int → Int → Int → List (S85) → Int → List (S59) → List (S79) → Int → Int → Option (Int × Int)
 | 0, _, _, _, _, _, _, _, _, _, _, _, _ => none
 | k + 1, x10, x11, x12, x141000, x141001, x141002, x141003, x141004, x141005, x141006, x143000, x143001 => if x12 < x11 then (if 0 ≤ x12 then (if x12 < (x10.length : Int) then (if (rd x10 x12) < 0 then (ship_apart.l0 k x10 x11 (wrap64 (x12 + 1)) x141000 x141001 x141002 x141003 x141004 x141005 x141006 x143000 x143001) else (if x12 < (x141006.length : Int) then (if 0 ≤ (rd x10 x12) then (if (rd x10 x12) < (x141003.length : Int) then (ship_apart.l0 k x10 x11 (wrap64 (x12 + 1)) x141000 x141001 x141002 x141003 x141004 x141005 x141006 (wrap64 (x143000 + (mn (wrap64 (((rd_T79 x141006 x12).f0.f0) * (wrap64 (((rd_T85 x141003 (rd x10 x12)).f1) - ((rd_T85 x141003 (rd x10 x12)).f2))))) (wrap64 (((rd_T79 x141006 x12).f0.f1) * (wrap64 (((rd_T85 x141003 (rd x10 x12)).f1) - ((rd_T85 x141003 (rd x10 x12)).f2)))))))) (wrap64 (x143001 + (mx (wrap64 (((rd_T79 x141006 x12).f0.f0) * (wrap64 (((rd_T85 x141003 (rd x10 x12)).f1) - ((rd_T85 x141003 (rd x10 x12)).f2))))) (wrap64 (((rd_T79 x141006 x12).f0.f1) * (wrap64 (((rd_T85 x141003 (rd x10 x12)).f1) - ((rd_T85 x141003 (rd x10 x12)).f2))))))))) else (none)) else (none)) else (none))) else (none)) else (none)) else (some (x143000, x143001))
def ship_apart.f (k : Nat) (a0_0 : Int) (a0_1 : Int) (a0_2 : Int) (l0_3 : List (S85)) (a0_4 : Int) (l0_5 : List (S59)) (l0_6 : List (S79)) (l1 : List Int) : Option (Int × Int) := ship_apart.l0 k l1 (l1.length : Int) 0 a0_0 a0_1 a0_2 l0_3 a0_4 l0_5 l0_6 0 0
theorem ship_apart.mono_l : ∀ k, (∀ y0 y1 y2 y3 y4 y5 y6 y7 y8 y9 y10 y11, LeO (ship_apart.l0 k y0 y1 y2 y3 y4 y5 y6 y7 y8 y9 y10 y11) (ship_apart.l0 (k + 1) y0 y1 y2 y3 y4 y5 y6 y7 y8 y9 y10 y11))
 | 0 => fun _ _ _ _ _ _ _ _ _ _ _ _ r h => by simp [ship_apart.l0] at h
 | k + 1 => by
  have ih0 := ship_apart.mono_l k
  ·
   intro y0 y1 y2 y3 y4 y5 y6 y7 y8 y9 y10 y11; unfold ship_apart.l0
   repeat' (with_reducible first | exact ih0 _ _ _ _ _ _ _ _ _ _ _ _ | exact LeO.refl _ | exact LeO.none _ | refine LeO.ite ?_ ?_ | refine LeO.bind ?_ (fun _ => ?_))
theorem ship_apart.mono : ∀ a0 a1 a2 a3 a4 a5 a6 a7 k, LeO (ship_apart.f k a0 a1 a2 a3 a4 a5 a6 a7) (ship_apart.f (k + 1) a0 a1 a2 a3 a4 a5 a6 a7) := by
 intro a0 a1 a2 a3 a4 a5 a6 a7 k
 have ih0 := ship_apart.mono_l k
 unfold ship_apart.f
 repeat' (with_reducible first | exact ih0 _ _ _ _ _ _ _ _ _ _ _ _ | exact LeO.refl _ | exact LeO.none _ | refine LeO.ite ?_ ?_ | refine LeO.bind ?_ (fun _ => ?_))
def ship_apart.T6 : Bool × List (List Nat × List Nat) := (true, [([], []), ([0], [0]), ([], []), ([1, 2], [1, 2]), ([3], [3]), ([4], [4]), ([], []), ([6], [6]), ([], []), ([7, 8], [7, 8]), ([9], [9]), ([10], [10]), ([], []), ([12], [12]), ([], []), ([13, 14], [13, 14]), ([15], [15]), ([16], [16]), ([11, 17], [11, 17]), ([], []), ([19, 5, 0, 1, 2, 3, 4, 5, 19], [5, 19]), ([18, 20, 0, 1, 2, 3, 4, 5, 6, 7, 8, 9, 10, 11, 12, 13, 14, 15, 16, 17, 18, 19, 20], [18])])
def ship_apart.B6 : List Nat := [0, 1, 0, 7, 15, 31, 0, 64, 0, 448, 960, 1984, 0, 4096, 0, 28672, 61440, 126976, 262080, 0, 524351, 2097151]
theorem ship_apart.tab6 : rtab .any (opsOf Try.f65 6) = ship_apart.T6 := by kernel_rfl
theorem ship_apart.bits6 : waitsOk ship_apart.T6.2 ship_apart.B6 = true := by kernel_rfl
set_option maxHeartbeats 8000000 in
set_option maxRecDepth 100000 in
theorem ship_apart.calls (k : Nat) (a0_0 : Int) (a0_1 : Int) (a0_2 : Int) (A0_3 : Option Addr) (c0_3 : Nat) (l0_3 : List (S85)) (a0_4 : Int) (A0_5 : Option Addr) (c0_5 : Nat) (l0_5 : List (S59)) (A0_6 : Option Addr) (c0_6 : Nat) (l0_6 : List (S79)) (A1 : Option Addr) (c1 : Nat) (l1 : List Int) (r1 : Int) (r2 : Int) (w : World) (hr0_3 : Kd.C k85 w A0_3 l0_3.length l0_3) (hc0_3 : l0_3.length ≤ c0_3) (hr0_5 : Kd.C k59 w A0_5 l0_5.length l0_5) (hc0_5 : l0_5.length ≤ c0_5) (hr0_6 : Kd.C k79 w A0_6 l0_6.length l0_6) (hc0_6 : l0_6.length ≤ c0_6) (hr1 : Kd.C (Kd.int .i64) w A1 l1.length l1) (hc1 : l1.length ≤ c1) (h : ship_apart.f k a0_0 a0_1 a0_2 l0_3 a0_4 l0_5 l0_6 l1 = some (r1, r2)) :
  Calls Try.prog 65 #[.agg #[.int .i64 a0_0, .int .i64 a0_1, .int .i64 a0_2, .slice A0_3 l0_3.length c0_3, .int .i64 a0_4, .slice A0_5 l0_5.length c0_5, .slice A0_6 l0_6.length c0_6], .slice A1 l1.length c1] w fun e w' => e = .returned (.agg #[.int .i64 r1, .int .i64 r2]) ∧ Below w.heap.size w w' := by
 have hu26 := Try.underlying26
 have hu56 := Try.underlying56
 have HR0_3 := Aside0.mk hr0_3
 have HC0_3 := Aside0.mk hc0_3
 clear hr0_3 hc0_3
 have HR0_5 := Aside0.mk hr0_5
 have HC0_5 := Aside0.mk hc0_5
 clear hr0_5 hc0_5
 have HR0_6 := Aside0.mk hr0_6
 have HC0_6 := Aside0.mk hc0_6
 clear hr0_6 hc0_6
 have HR1 := Aside0.mk hr1
 have HC1 := Aside0.mk hc1
 clear hr1 hc1
 have HB := Aside0.mk (Below.refl w.heap.size w)
 have H : (ship_apart.l0 k l1 (l1.length : Int) 0 a0_0 a0_1 a0_2 l0_3 a0_4 l0_5 l0_6 0 0) = some (r1, r2) := h
 clear h
 have H' := Aside0.mk H
 clear H
 go_enter Try.func65, Try.ntmps65
 go_wp2_with (first | (refine box_r (N := 2) rfl (cs := #[.int .i64 a0_0, .int .i64 a0_1, .int .i64 a0_2, .slice A0_3 l0_3.length c0_3, .int .i64 a0_4, .slice A0_5 l0_5.length c0_5, .slice A0_6 l0_6.length c0_6]) (t := 26) ?_; intro gb140 hg w3 hbox hb; have BK140 := Aside0.mk (hbox); have GW140 := gw_x hg HB; have GE140 := GW140; replace HB := Aside0.mk (below_step (below_x HB.out) hb); clear hb hbox hg) | (refine box_r (N := 4) rfl (cs := #[.int .i64 0, .int .i64 0]) (t := 56) ?_; intro gb141 hg w4 hbox hb; have BK141 := Aside0.mk (hbox); have GW141 := gw_x hg HB; have GE141 := GW141; replace HB := bl_x HB hb; have NB140_141 := nb_x hg BK140; have NB141_140 := nb_y hg BK140; replace BK140 := bk_x BK140 hb; clear hb hbox hg) | (refine box_r (N := 5) rfl (cs := #[.int .i64 0, .int .i64 0]) (t := 56) ?_; intro gb142 hg w5 hbox hb; have BK142 := Aside0.mk (hbox); have GW142 := gw_x hg HB; have GE142 := GW142; replace HB := bl_x HB hb; have NB140_142 := nb_x hg BK140; have NB142_140 := nb_y hg BK140; replace BK140 := bk_x BK140 hb; have NB141_142 := nb_x hg BK141; have NB142_141 := nb_y hg BK141; replace BK141 := bk_x BK141 hb; clear hb hbox hg))
 go_loopg [12] k (fun kq v12 w' => ∃ (x12_1 : Int) (x143000_1 : Int) (x143001_1 : Int), v12 = .int .i64 x12_1 ∧ Aside0 (ship_apart.l0 kq l1 (l1.length : Int) x12_1 a0_0 a0_1 a0_2 l0_3 a0_4 l0_5 l0_6 x143000_1 x143001_1 = some (r1, r2)) ∧ Aside0 (kq ≤ k) ∧ Aside0 (w'.heap[gb140]? = some (.cells #[.int .i64 a0_0, .int .i64 a0_1, .int .i64 a0_2, (.slice A0_3 l0_3.length c0_3), .int .i64 a0_4, (.slice A0_5 l0_5.length c0_5), (.slice A0_6 l0_6.length c0_6)] 26 (0, 0))) ∧ Aside0 (w'.heap[gb141]? = some (.cells #[.int .i64 0, .int .i64 0] 56 (0, 0))) ∧ Aside0 (w'.heap[gb142]? = some (.cells #[.int .i64 x143000_1, .int .i64 x143001_1] 56 (0, 0))) ∧ Aside0 (Below w.heap.size w w'))
 case atStart => exact ⟨(0), (0), (0), (by first | rfl | (simp; done) | (simp [*]; done)), H', ⟨Nat.le_refl _⟩, ⟨blk_x BK140.out⟩, ⟨blk_x BK141.out⟩, ⟨blk_x BK142.out⟩, ⟨by exact below_y HB.out⟩⟩
 case round =>
  clear H'; obtain ⟨x12_1, x143000_1, x143001_1, rfl, HA, HK1, BK140, BK141, BK142, HB⟩ := hrel; cases gk with
  | zero => exact absurd HA.out (by simp [ship_apart.l0])
  | succ k1 =>
   have H := HA.out; clear HA; simp only [ship_apart.l0] at H; by_cases c6 : x12_1 < (l1.length : Int)
   ·
    rw [if_pos c6] at H; have c6b0 : decide (x12_1 < (l1.length : Int)) = true := decide_eq_true c6; clear c6; by_cases c7 : 0 ≤ x12_1
    ·
     rw [if_pos c7] at H; have c7b0 : decide (0 ≤ x12_1) = true := decide_eq_true c7; clear c7; by_cases c8 : x12_1 < (l1.length : Int)
     ·
      rw [if_pos c8] at H; have c8b0 : decide (x12_1 < (l1.length : Int)) = true := decide_eq_true c8; clear c8; by_cases c9 : (rd l1 x12_1) < 0
      ·
       rw [if_pos c9] at H; have c9b0 : decide ((rd l1 x12_1) < 0) = true := decide_eq_true c9; clear c9; have H' := Aside0.mk H; clear H; have p143 : 0 ≤ (x12_1 : Int) := of_x; have q143 : x12_1 < (l1.length : Int) := of_x; obtain ⟨ad143, e143, hx143_0⟩ := Kd.at_int HR1.out x12_1 p143 q143; (cases e143); replace hx143_0 := cell_x HB hx143_0; replace p143 := eq_true p143; replace q143 := eq_true q143; go_wp2; go_roundg k1
       case measure => have := HK1.out; omega
       case rel => exact ⟨(wrap64 (x12_1 + 1)), (x143000_1), (x143001_1), (by first | rfl | (simp; done) | (simp [*]; done)), H', ⟨by have := HK1.out; omega⟩, ⟨blk_x BK140.out⟩, ⟨blk_x BK141.out⟩, ⟨blk_x BK142.out⟩, ⟨by exact below_y HB.out⟩⟩
      ·
       rw [if_neg c9] at H; have c9b0 : decide ((rd l1 x12_1) < 0) = false := decide_eq_false c9; clear c9; by_cases c10 : x12_1 < (l0_6.length : Int)
       ·
        rw [if_pos c10] at H; have c10b0 : decide (x12_1 < (l0_6.length : Int)) = true := decide_eq_true c10; clear c10; by_cases c11 : 0 ≤ (rd l1 x12_1)
        ·
         rw [if_pos c11] at H; have c11b0 : decide (0 ≤ (rd l1 x12_1)) = true := decide_eq_true c11; clear c11; by_cases c12 : (rd l1 x12_1) < (l0_3.length : Int)
         ·
          rw [if_pos c12] at H; have c12b0 : decide ((rd l1 x12_1) < (l0_3.length : Int)) = true := decide_eq_true c12; clear c12; obtain ⟨ji13, hji13⟩ : ∃ j_ : Int, (mn (wrap64 (((rd_T79 l0_6 x12_1).f0.f0) * (wrap64 (((rd_T85 l0_3 (rd l1 x12_1)).f1) - ((rd_T85 l0_3 (rd l1 x12_1)).f2))))) (wrap64 (((rd_T79 l0_6 x12_1).f0.f1) * (wrap64 (((rd_T85 l0_3 (rd l1 x12_1)).f1) - ((rd_T85 l0_3 (rd l1 x12_1)).f2)))))) = j_ := ⟨_, rfl⟩; (replace H : (ship_apart.l0 k1 l1 (l1.length : Int) (wrap64 (x12_1 + 1)) a0_0 a0_1 a0_2 l0_3 a0_4 l0_5 l0_6 (wrap64 (x143000_1 + (ji13))) (wrap64 (x143001_1 + (mx (wrap64 (((rd_T79 l0_6 x12_1).f0.f0) * (wrap64 (((rd_T85 l0_3 (rd l1 x12_1)).f1) - ((rd_T85 l0_3 (rd l1 x12_1)).f2))))) (wrap64 (((rd_T79 l0_6 x12_1).f0.f1) * (wrap64 (((rd_T85 l0_3 (rd l1 x12_1)).f1) - ((rd_T85 l0_3 (rd l1 x12_1)).f2))))))))) = some (r1, r2) := by first | (rw [hji13] at H; exact H) | (simp only [hji13] at H ⊢; exact H)); have hji13_ : (if (wrap64 (((rd_T79 l0_6 x12_1).f0.f1) * (wrap64 (((rd_T85 l0_3 (rd l1 x12_1)).f1) - ((rd_T85 l0_3 (rd l1 x12_1)).f2))))) < (wrap64 (((rd_T79 l0_6 x12_1).f0.f0) * (wrap64 (((rd_T85 l0_3 (rd l1 x12_1)).f1) - ((rd_T85 l0_3 (rd l1 x12_1)).f2))))) then (wrap64 (((rd_T79 l0_6 x12_1).f0.f1) * (wrap64 (((rd_T85 l0_3 (rd l1 x12_1)).f1) - ((rd_T85 l0_3 (rd l1 x12_1)).f2))))) else (wrap64 (((rd_T79 l0_6 x12_1).f0.f0) * (wrap64 (((rd_T85 l0_3 (rd l1 x12_1)).f1) - ((rd_T85 l0_3 (rd l1 x12_1)).f2)))))) = ji13 := hji13; obtain ⟨ji14, hji14⟩ : ∃ j_ : Int, (mx (wrap64 (((rd_T79 l0_6 x12_1).f0.f0) * (wrap64 (((rd_T85 l0_3 (rd l1 x12_1)).f1) - ((rd_T85 l0_3 (rd l1 x12_1)).f2))))) (wrap64 (((rd_T79 l0_6 x12_1).f0.f1) * (wrap64 (((rd_T85 l0_3 (rd l1 x12_1)).f1) - ((rd_T85 l0_3 (rd l1 x12_1)).f2)))))) = j_ := ⟨_, rfl⟩; (replace H : (ship_apart.l0 k1 l1 (l1.length : Int) (wrap64 (x12_1 + 1)) a0_0 a0_1 a0_2 l0_3 a0_4 l0_5 l0_6 (wrap64 (x143000_1 + (ji13))) (wrap64 (x143001_1 + (ji14)))) = some (r1, r2) := by first | (rw [hji14] at H; exact H) | (simp only [hji14] at H ⊢; exact H)); have hji14_ : (if (wrap64 (((rd_T79 l0_6 x12_1).f0.f0) * (wrap64 (((rd_T85 l0_3 (rd l1 x12_1)).f1) - ((rd_T85 l0_3 (rd l1 x12_1)).f2))))) < (wrap64 (((rd_T79 l0_6 x12_1).f0.f1) * (wrap64 (((rd_T85 l0_3 (rd l1 x12_1)).f1) - ((rd_T85 l0_3 (rd l1 x12_1)).f2))))) then (wrap64 (((rd_T79 l0_6 x12_1).f0.f1) * (wrap64 (((rd_T85 l0_3 (rd l1 x12_1)).f1) - ((rd_T85 l0_3 (rd l1 x12_1)).f2))))) else (wrap64 (((rd_T79 l0_6 x12_1).f0.f0) * (wrap64 (((rd_T85 l0_3 (rd l1 x12_1)).f1) - ((rd_T85 l0_3 (rd l1 x12_1)).f2)))))) = ji14 := hji14; have H' := Aside0.mk H; clear H; have p143 : 0 ≤ (x12_1 : Int) := of_x; have q143 : x12_1 < (l1.length : Int) := of_x; obtain ⟨ad143, e143, hx143_0⟩ := Kd.at_int HR1.out x12_1 p143 q143; (cases e143); replace hx143_0 := cell_x HB hx143_0; replace p143 := eq_true p143; replace q143 := eq_true q143
          try go_wp2
          replace BK140 := Aside0.mk (blk_drew BK140.out); replace BK141 := Aside0.mk (blk_drew BK141.out); replace BK142 := Aside0.mk (blk_drew BK142.out); replace HB := Aside0.mk (below_drew1 HB.out); have p144 : 0 ≤ (x12_1 : Int) := of_x; have q144 : x12_1 < (l0_6.length : Int) := of_x; obtain ⟨ad144, e144, hx144_0, hx144_1, hx144_2⟩ := at_T79 HR0_6.out x12_1 p144 q144; have hw144_2 := hx144_2; have hw144_1 := hx144_1; have hw144_0 := hx144_0; (cases e144); replace hx144_0 := cell_x HB hx144_0; replace hx144_1 := cell_x HB hx144_1; replace hx144_2 := cell_x HB hx144_2; replace p144 := eq_true p144; replace q144 := eq_true q144; have p145 : 0 ≤ ((rd l1 x12_1) : Int) := of_x; have q145 : (rd l1 x12_1) < (l0_3.length : Int) := of_x; obtain ⟨ad145, e145, hx145_0, hx145_1, hx145_2⟩ := at_T85 HR0_3.out (rd l1 x12_1) p145 q145; have hw145_2 := hx145_2; have hw145_1 := hx145_1; have hw145_0 := hx145_0; (cases e145); replace hx145_0 := cell_x HB hx145_0; replace hx145_1 := cell_x HB hx145_1; replace hx145_2 := cell_x HB hx145_2; replace p145 := eq_true p145; replace q145 := eq_true q145; have p146 : 0 ≤ ((rd l1 x12_1) : Int) := of_x; have q146 : (rd l1 x12_1) < (l0_3.length : Int) := of_x; obtain ⟨ad146, e146, hx146_0, hx146_1, hx146_2⟩ := at_T85 HR0_3.out (rd l1 x12_1) p146 q146; have hw146_2 := hx146_2; have hw146_1 := hx146_1; have hw146_0 := hx146_0; obtain rfl : ad145 = ad146 := (by injection e146); replace hx146_0 := cell_x HB hx146_0; replace hx146_1 := cell_x HB hx146_1; replace hx146_2 := cell_x HB hx146_2; replace p146 := eq_true p146; replace q146 := eq_true q146; refine start_ (n := 22) (S := fun w' => w'.cell? ⟨gb140, 0, none⟩ = some (.int .i64 a0_0) ∧ w'.cell? ⟨gb140, 1, none⟩ = some (.int .i64 a0_1) ∧ w'.cell? ⟨gb140, 2, none⟩ = some (.int .i64 a0_2) ∧ w'.cell? ⟨gb140, 3, none⟩ = some (.slice (some ad145) l0_3.length c0_3) ∧ w'.cell? ⟨gb140, 4, none⟩ = some (.int .i64 a0_4) ∧ w'.cell? ⟨gb140, 5, none⟩ = some (.slice A0_5 l0_5.length c0_5) ∧ w'.cell? ⟨gb140, 6, none⟩ = some (.slice (some ad144) l0_6.length c0_6) ∧ w'.cell? (ad144.add ((x12_1).toNat * 3)) = some (.int .i64 ((rd_T79 l0_6 x12_1).f0.f0)) ∧ w'.cell? ⟨(ad144.add ((x12_1).toNat * 3)).block, (ad144.add ((x12_1).toNat * 3)).off + 1, none⟩ = some (.int .i64 ((rd_T79 l0_6 x12_1).f0.f1)) ∧ w'.cell? ⟨(ad144.add ((x12_1).toNat * 3)).block, (ad144.add ((x12_1).toNat * 3)).off + 2, none⟩ = some (.int .i64 ((rd_T79 l0_6 x12_1).f1)) ∧ w'.cell? (ad145.add (((rd l1 x12_1)).toNat * 3)) = some (.int .i64 ((rd_T85 l0_3 (rd l1 x12_1)).f0)) ∧ w'.cell? ⟨(ad145.add (((rd l1 x12_1)).toNat * 3)).block, (ad145.add (((rd l1 x12_1)).toNat * 3)).off + 1, none⟩ = some (.int .i64 ((rd_T85 l0_3 (rd l1 x12_1)).f1)) ∧ w'.cell? ⟨(ad145.add (((rd l1 x12_1)).toNat * 3)).block, (ad145.add (((rd l1 x12_1)).toNat * 3)).off + 2, none⟩ = some (.int .i64 ((rd_T85 l0_3 (rd l1 x12_1)).f2)) ∧ w'.cell? (ad145.add (((rd l1 x12_1)).toNat * 3)) = some (.int .i64 ((rd_T85 l0_3 (rd l1 x12_1)).f0)) ∧ w'.cell? ⟨(ad145.add (((rd l1 x12_1)).toNat * 3)).block, (ad145.add (((rd l1 x12_1)).toNat * 3)).off + 1, none⟩ = some (.int .i64 ((rd_T85 l0_3 (rd l1 x12_1)).f1)) ∧ w'.cell? ⟨(ad145.add (((rd l1 x12_1)).toNat * 3)).block, (ad145.add (((rd l1 x12_1)).toNat * 3)).off + 2, none⟩ = some (.int .i64 ((rd_T85 l0_3 (rd l1 x12_1)).f2))) (ds := []) #[false, false, false, false, false, false, false, false, false, false, false, false, false, false, false, false, false, false, false, false, false, false] (by kernel_rfl) rfl rfl ⟨(blk_cell BK140.out 0).trans rfl, (blk_cell BK140.out 1).trans rfl, (blk_cell BK140.out 2).trans rfl, (blk_cell BK140.out 3).trans rfl, (blk_cell BK140.out 4).trans rfl, (blk_cell BK140.out 5).trans rfl, (blk_cell BK140.out 6).trans rfl, ((HB.out.cell (World.block_lt_of_cell? w _ hw144_0)).trans hw144_0), ((HB.out.cell (World.block_lt_of_cell? w _ hw144_1)).trans hw144_1), ((HB.out.cell (World.block_lt_of_cell? w _ hw144_2)).trans hw144_2), ((HB.out.cell (World.block_lt_of_cell? w _ hw145_0)).trans hw145_0), ((HB.out.cell (World.block_lt_of_cell? w _ hw145_1)).trans hw145_1), ((HB.out.cell (World.block_lt_of_cell? w _ hw145_2)).trans hw145_2), ((HB.out.cell (World.block_lt_of_cell? w _ hw146_0)).trans hw146_0), ((HB.out.cell (World.block_lt_of_cell? w _ hw146_1)).trans hw146_1), ((HB.out.cell (World.block_lt_of_cell? w _ hw146_2)).trans hw146_2)⟩ (fun hHeld => ?_); refine with_tabW ship_apart.tab6 ship_apart.bits6 (fun HT_ HW_ => ?_); generalize wr.drew = w15 at BK140 BK141 BK142 HB hx144_0 hx144_1 hx144_2 hx145_0 hx145_1 hx145_2 hx146_0 hx146_1 hx146_2 hHeld ⊢; refine pure_t 0 (some 19) (bz 22 1) HT_ ?_; refine pure_t 2 (some 21) (bz 22 5) HT_ ?_; refine pure_t 6 (some 25) (bz 22 69) HT_ ?_; refine pure_t 8 (some 27) (bz 22 325) HT_ ?_; refine pure_t 12 (some 31) (bz 22 4421) HT_ ?_; refine pure_t 14 (some 33) (bz 22 20805) HT_ ?_; refine take_t 1 (some 20) (bz 22 20807) HT_ HW_ hHeld ?_; refine pure_t 3 (some 22) (bz 22 20815) HT_ ?_; refine pure_t 4 (some 23) (bz 22 20831) HT_ ?_; refine take_t 5 (some 24) (bz 22 20863) HT_ HW_ hHeld ?_; refine take_t 7 (some 26) (bz 22 20991) HT_ HW_ hHeld ?_; refine pure_t 9 (some 28) (bz 22 21503) HT_ ?_; refine pure_t 10 (some 29) (bz 22 22527) HT_ ?_; refine take_t 11 (some 30) (bz 22 24575) HT_ HW_ hHeld ?_; refine take_t 13 (some 32) (bz 22 32767) HT_ HW_ hHeld ?_; refine pure_t 15 (some 34) (bz 22 65535) HT_ ?_; refine pure_t 16 (some 35) (bz 22 131071) HT_ ?_; refine take_t 17 (some 36) (bz 22 262143) HT_ HW_ hHeld ?_; refine pure_t 18 (some 37) (bz 22 524287) HT_ ?_; (refine one_t 19 (some 8) (bz 22 1048575) HT_ fun K hK => ?_); refine box_step ?hg (N := 8) ?hd (cs := #[.int .i64 0, .int .i64 0]) (t := 56) ?hr ?_; (case hd => rfl); (case hg => rfl); (case hr => first | (go_simp; done) | (go_simp; rfl)); intro gb147 hg w16 hbox hb; have BK147 := Aside0.mk (hbox); have GW147 := gw_x hg HB; have GE147 := gw_x hg HB; replace HB := bl_x HB hb; have NB140_147 := nb_x hg BK140; have NB147_140 := nb_y hg BK140; replace BK140 := bk_x BK140 hb; have NB141_147 := nb_x hg BK141; have NB147_141 := nb_y hg BK141; replace BK141 := bk_x BK141 hb; have NB142_147 := nb_x hg BK142; have NB147_142 := nb_y hg BK142; replace BK142 := bk_x BK142 hb; clear hb hbox hg; refine hK.out _ _ ⟨(blk_cell BK140.out 0).trans rfl, (blk_cell BK140.out 1).trans rfl, (blk_cell BK140.out 2).trans rfl, (blk_cell BK140.out 3).trans rfl, (blk_cell BK140.out 4).trans rfl, (blk_cell BK140.out 5).trans rfl, (blk_cell BK140.out 6).trans rfl, ((HB.out.cell (World.block_lt_of_cell? w _ hw144_0)).trans hw144_0), ((HB.out.cell (World.block_lt_of_cell? w _ hw144_1)).trans hw144_1), ((HB.out.cell (World.block_lt_of_cell? w _ hw144_2)).trans hw144_2), ((HB.out.cell (World.block_lt_of_cell? w _ hw145_0)).trans hw145_0), ((HB.out.cell (World.block_lt_of_cell? w _ hw145_1)).trans hw145_1), ((HB.out.cell (World.block_lt_of_cell? w _ hw145_2)).trans hw145_2), ((HB.out.cell (World.block_lt_of_cell? w _ hw146_0)).trans hw146_0), ((HB.out.cell (World.block_lt_of_cell? w _ hw146_1)).trans hw146_1), ((HB.out.cell (World.block_lt_of_cell? w _ hw146_2)).trans hw146_2)⟩ (fun hHeld => ?_); clear hK K; refine norm_y (some 8) ?_; (refine one_t 20 (none) (bz 22 2097151) HT_ fun K hK => ?_); have hs17 : w16.cell? ⟨gb147, 0, none⟩ = some (.int .i64 0) := (blk_cell BK147.out 0).trans rfl; have hfs17 := blk_frozen BK147.out 0; have hns17_0 := NB140_147.out; have hns17_1 := NB141_147.out; have hns17_2 := NB142_147.out; have hms17_0 := NB147_140.out; have hms17_1 := NB147_141.out; have hms17_2 := NB147_142.out; have hs18 : w16.cell? ⟨gb147, 1, none⟩ = some (.int .i64 0) := (blk_cell BK147.out 1).trans rfl; have hfs18 := blk_frozen BK147.out 1; have hns18_0 := NB140_147.out; have hns18_1 := NB141_147.out; have hns18_2 := NB142_147.out; have hms18_0 := NB147_140.out; have hms18_1 := NB147_141.out; have hms18_2 := NB147_142.out; refine skip_ (w1 := ?_) (by rfl) rfl ?_ ?_; rotate_left
          ·
           go_simp
           rfl
          refine hK.out _ _ ⟨(cf2_y NB140_147.out hHeld.1), (cf2_y NB140_147.out hHeld.2.1), (cf2_y NB140_147.out hHeld.2.2.1), (cf2_y NB140_147.out hHeld.2.2.2.1), (cf2_y NB140_147.out hHeld.2.2.2.2.1), (cf2_y NB140_147.out hHeld.2.2.2.2.2.1), (cf2_y NB140_147.out hHeld.2.2.2.2.2.2.1), ((cell_far (p := ⟨gb147, _, none⟩) (nf_x hw144_0 GW147) _).trans (((cell_far (p := ⟨gb147, _, none⟩) (nf_x hw144_0 GW147) _).trans (hHeld.2.2.2.2.2.2.2.1)))), ((cell_far (p := ⟨gb147, _, none⟩) (nf_x hw144_1 GW147) _).trans (((cell_far (p := ⟨gb147, _, none⟩) (nf_x hw144_1 GW147) _).trans (hHeld.2.2.2.2.2.2.2.2.1)))), ((cell_far (p := ⟨gb147, _, none⟩) (nf_x hw144_2 GW147) _).trans (((cell_far (p := ⟨gb147, _, none⟩) (nf_x hw144_2 GW147) _).trans (hHeld.2.2.2.2.2.2.2.2.2.1)))), ((cell_far (p := ⟨gb147, _, none⟩) (nf_x hw145_0 GW147) _).trans (((cell_far (p := ⟨gb147, _, none⟩) (nf_x hw145_0 GW147) _).trans (hHeld.2.2.2.2.2.2.2.2.2.2.1)))), ((cell_far (p := ⟨gb147, _, none⟩) (nf_x hw145_1 GW147) _).trans (((cell_far (p := ⟨gb147, _, none⟩) (nf_x hw145_1 GW147) _).trans (hHeld.2.2.2.2.2.2.2.2.2.2.2.1)))), ((cell_far (p := ⟨gb147, _, none⟩) (nf_x hw145_2 GW147) _).trans (((cell_far (p := ⟨gb147, _, none⟩) (nf_x hw145_2 GW147) _).trans (hHeld.2.2.2.2.2.2.2.2.2.2.2.2.1)))), ((cell_far (p := ⟨gb147, _, none⟩) (nf_x hw146_0 GW147) _).trans (((cell_far (p := ⟨gb147, _, none⟩) (nf_x hw146_0 GW147) _).trans (hHeld.2.2.2.2.2.2.2.2.2.2.2.2.2.1)))), ((cell_far (p := ⟨gb147, _, none⟩) (nf_x hw146_1 GW147) _).trans (((cell_far (p := ⟨gb147, _, none⟩) (nf_x hw146_1 GW147) _).trans (hHeld.2.2.2.2.2.2.2.2.2.2.2.2.2.2.1)))), ((cell_far (p := ⟨gb147, _, none⟩) (nf_x hw146_2 GW147) _).trans (((cell_far (p := ⟨gb147, _, none⟩) (nf_x hw146_2 GW147) _).trans (hHeld.2.2.2.2.2.2.2.2.2.2.2.2.2.2.2))))⟩ (fun hHeld => ?_); clear hK K; refine pure_t 21 (some 9) (bz 22 4194303) HT_ ?_; refine done_ (done_of HT_.out (by kernel_rfl)) ?_; have hnb19 := NB142_140.out; have hnc19 := NB140_142.out; have hnb20 := NB142_141.out; have hnc20 := NB141_142.out; have hnb21 := NB142_147.out; have hnc21 := NB147_142.out; obtain ⟨hfz22_0, _, _⟩ := cf2 BK142; have hnb23 := NB147_140.out; have hnc23 := NB140_147.out; have hnb24 := NB147_141.out; have hnc24 := NB141_147.out; obtain ⟨hfz25_0, _, _⟩ := cf2 BK147
          try go_wp2
          go_roundg k1
          case measure => have := HK1.out; omega
          case rel => exact ⟨(wrap64 (x12_1 + 1)), (wrap64 (x143000_1 + (ji13))), (wrap64 (x143001_1 + (ji14))), (by first | rfl | (simp; done) | (simp [*]; done)), H', ⟨by have := HK1.out; omega⟩, ⟨blk_w BK140.out⟩, ⟨blk_w BK141.out⟩, ⟨by (with_reducible repeat (first | refine blk_drewN ?_ _ | refine blk_drew ?_ | refine blk_alloc ?_ _)); refine blk_put (cs := #[.int .i64 (wrap64 (x143000_1 + (ji13))), .int .i64 x143001_1]) ?_ 1 _ rfl; (with_reducible repeat (first | refine blk_drewN ?_ _ | refine blk_drew ?_ | refine blk_alloc ?_ _)); refine blk_put (cs := #[.int .i64 x143000_1, .int .i64 x143001_1]) ?_ 0 _ rfl; exact blk_w BK142.out⟩, ⟨by exact below_y HB.out⟩⟩
         ·
          rw [if_neg c12] at H; exact absurd H (by simp)
        ·
         rw [if_neg c11] at H; exact absurd H (by simp)
       ·
        rw [if_neg c10] at H; exact absurd H (by simp)
     ·
      rw [if_neg c8] at H; exact absurd H (by simp)
    ·
     rw [if_neg c7] at H; exact absurd H (by simp)
   ·
    rw [if_neg c6] at H; have c6b0 : decide (x12_1 < (l1.length : Int)) = false := decide_eq_false c6; clear c6; simp only [Option.some.injEq, Prod.mk.injEq] at H; obtain ⟨rfl, rfl⟩ := H; have hnb26 := NB142_140.out; have hnc26 := NB140_142.out; have hnb27 := NB142_141.out; have hnc27 := NB141_142.out; obtain ⟨hfz28_0, _, _⟩ := cf2 BK142; have hnb29 := NB141_140.out; have hnc29 := NB140_141.out; obtain ⟨hfz30_0, _, _⟩ := cf2 BK141; go_wp2; refine bodyPost_ret (results_cell_row rfl _ _ gb141 56 #[.int .i64 x143000_1, .int .i64 x143001_1] (0, 0) _ rfl (blk_z BK141.out) Try.underlying56 rfl (by kernel_rfl)) rfl ?_; exact rt_y HB
end Go.Proofs.Ytodmemndaaiolaa.PC7
