/- What Out and Clean say of a car is what all its states say, gone through one by one: for every list of numbers of the size that Go can hold. -/
import Derived.Test.YtkkmfcdikkiodaaCStripAll1
import Derived.Test.YtkkmfcdikkiodaaCStripAll6
import Derived.Test.YtkkmfcdikkiodaaCStripAll5
import Derived.SizedLaws
import Derived.ChangeSlices
import Derived.Test.YtkkmfcdikkiodaaRows
import Derived.WalkKit
import Derived.ProofKit
import Derived.OpenShut
import Derived.ShutString
import Derived.ChangeOld
import Derived.Below
namespace Go.Proofs.Ytkkmfcdikkiodaa.PC4
open Go.RowKit Go.Proofs.YtkkmfcdikkiodaaW.PrintWords Go.Proofs.YtkkmfcdikkiodaaW.PrintLast Go.Proofs.YtkkmfcdikkiodaaW.PrintMore
attribute [local go_sem] max2_int min2_int max_two min_two max_three min_three max_four min_four
set_option linter.unusedVariables false
set_option linter.unusedSimpArgs false
def swarfkit_CopyCar.l0 : Nat → Int → List (S50) → Int → List (S61) → Int → List Int → List (S50) → Int → List (S61) → Int → List Int → Option ((List (S50)) × Int × (List (S61)) × Int × List Int)
  | 0, _, _, _, _, _, _, _, _, _, _, _ => none
  | k + 1, x4, x470000, x470001, x470002, x470003, x470004, x472000, x472001, x472002, x472003, x472004 => if x4 < (x470000.length : Int) then (if 0 ≤ x4 then ((swarfkit_Ints.f ((rd_T50 x470000 x4).f0)).bind fun t483 => (if x472000.length < 2932031007402 then (swarfkit_CopyCar.l0 k (wrap64 (x4 + 1)) x470000 x470001 x470002 x470003 x470004 (x472000 ++ [(⟨t483, (rd_T50 x470000 x4).f1, (rd_T50 x470000 x4).f2, (rd_T50 x470000 x4).f3⟩ : S50)]) x472001 x472002 x472003 x472004) else (none))) else (none)) else (some (x472000, x472001, x472002, x472003, x472004))
def swarfkit_CopyCar.f (k : Nat) (l0_0 : List (S50)) (a0_1 : Int) (l0_2 : List (S61)) (a0_3 : Int) (l0_4 : List Int) : Option ((List (S50)) × Int × (List (S61)) × Int × List Int) := (some (([] : List (S61)) : List (S61))).bind fun y472 => (if y472.length + l0_2.length < 8796093022208 then ((swarfkit_Ints.f l0_4).bind fun t478 => (swarfkit_CopyCar.l0 k 0 l0_0 a0_1 l0_2 a0_3 l0_4 ([] : List (S50)) a0_1 (y472 ++ l0_2) a0_3 t478)) else (none))
theorem swarfkit_CopyCar.mono_l : ∀ k, (∀ y0 y1 y2 y3 y4 y5 y6 y7 y8 y9 y10, LeO (swarfkit_CopyCar.l0 k y0 y1 y2 y3 y4 y5 y6 y7 y8 y9 y10) (swarfkit_CopyCar.l0 (k + 1) y0 y1 y2 y3 y4 y5 y6 y7 y8 y9 y10))
  | 0 => fun _ _ _ _ _ _ _ _ _ _ _ r h => by simp [swarfkit_CopyCar.l0] at h
  | k + 1 => by
    have ih0 := swarfkit_CopyCar.mono_l k
    · intro y0 y1 y2 y3 y4 y5 y6 y7 y8 y9 y10
      unfold swarfkit_CopyCar.l0
      repeat' first
      | (with_reducible exact ih0 _ _ _ _ _ _ _ _ _ _ _)
      | (with_reducible exact LeO.refl _)
      | (with_reducible exact LeO.none _)
      | (with_reducible refine LeO.ite ?_ ?_)
      | (with_reducible refine LeO.bind ?_ (fun _ => ?_))
      | exact ih0 _ _ _ _ _ _ _ _ _ _ _
      | exact LeO.none _
      | refine LeO.ite ?_ ?_
      | refine LeO.bind ?_ (fun _ => ?_)
theorem swarfkit_CopyCar.mono : ∀ a0 a1 a2 a3 a4 k, LeO (swarfkit_CopyCar.f k a0 a1 a2 a3 a4) (swarfkit_CopyCar.f (k + 1) a0 a1 a2 a3 a4) := by
  intro a0 a1 a2 a3 a4 k
  have ih0 := swarfkit_CopyCar.mono_l k
  unfold swarfkit_CopyCar.f
  repeat' first
      | (with_reducible exact ih0 _ _ _ _ _ _ _ _ _ _ _)
      | (with_reducible exact LeO.refl _)
      | (with_reducible exact LeO.none _)
      | (with_reducible refine LeO.ite ?_ ?_)
      | (with_reducible refine LeO.bind ?_ (fun _ => ?_))
      | exact ih0 _ _ _ _ _ _ _ _ _ _ _
      | exact LeO.none _
      | refine LeO.ite ?_ ?_
      | refine LeO.bind ?_ (fun _ => ?_)
def swarfkit_CopyCar.T2 : Bool × List (List Nat × List Nat) := (true, [([], []), ([], []), ([1], [1]), ([0, 2], [0, 2]), ([], []), ([4], [4]), ([5, 3], [5]), ([], []), ([7, 6], [7]), ([0, 1, 2, 3, 7, 8], []), ([9, 3, 8, 0, 1, 2, 3, 7, 8], [3, 9]), ([0, 1, 2, 3, 4, 5, 6, 7, 8, 9, 10], []), ([11, 6, 10, 0, 1, 2, 3, 4, 5, 6, 7, 8, 9, 10], [6, 11])])
def swarfkit_CopyCar.B2 : List Nat := [0, 0, 2, 7, 0, 16, 63, 0, 255, 511, 1023, 2047, 4095]
theorem swarfkit_CopyCar.tab2 : rtab .any (opsOf Try.f19 2) = swarfkit_CopyCar.T2 := by kernel_rfl
theorem swarfkit_CopyCar.bits2 : waitsOk swarfkit_CopyCar.T2.2 swarfkit_CopyCar.B2 = true := by kernel_rfl
set_option maxHeartbeats 8000000 in
set_option maxRecDepth 100000 in
theorem swarfkit_CopyCar.calls (k : Nat) (A0_0 : Option Addr) (c0_0 : Nat) (l0_0 : List (S50)) (a0_1 : Int) (A0_2 : Option Addr) (c0_2 : Nat) (l0_2 : List (S61)) (a0_3 : Int) (A0_4 : Option Addr) (c0_4 : Nat) (l0_4 : List Int) (r1 : List (S50)) (r2 : Int) (r3 : List (S61)) (r4 : Int) (r5 : List Int) (w : World) (hr0_0 : Kd.C k50 w A0_0 l0_0.length l0_0) (hc0_0 : l0_0.length ≤ c0_0) (hr0_2 : Kd.C k61 w A0_2 l0_2.length l0_2) (hc0_2 : l0_2.length ≤ c0_2) (hr0_4 : Kd.C (Kd.int .i64) w A0_4 l0_4.length l0_4) (hc0_4 : l0_4.length ≤ c0_4) (h : swarfkit_CopyCar.f k l0_0 a0_1 l0_2 a0_3 l0_4 = some (r1, r2, r3, r4, r5)) :
    Calls Try.prog 19 #[.agg #[.slice A0_0 l0_0.length c0_0, .int .i64 a0_1, .slice A0_2 l0_2.length c0_2, .int .i64 a0_3, .slice A0_4 l0_4.length c0_4]] w fun e w' => ∃ v0_ v2_ v4_ : Value, e = .returned (.agg #[v0_, .int .i64 r2, v2_, .int .i64 r4, v4_]) ∧ Kd.S k50 50 w' w.heap.size (fun k_ => some k_ ≠ (v4_ : Value).ownBlock) v0_ r1 ∧ Kd.R k61 61 w' w.heap.size (fun _ => True) v2_ r3 ∧ Kd.R (Kd.int .i64) 3 w' w.heap.size (fun _ => True) v4_ r5 ∧ Below w.heap.size w w' := by
  have hu26 := Try.underlying26
  have hu50 := Try.underlying50
  have HR0_0 := Aside0.mk hr0_0
  have HC0_0 := Aside0.mk hc0_0
  clear hr0_0 hc0_0
  have HR0_2 := Aside0.mk hr0_2
  have HC0_2 := Aside0.mk hc0_2
  clear hr0_2 hc0_2
  have HR0_4 := Aside0.mk hr0_4
  have HC0_4 := Aside0.mk hc0_4
  clear hr0_4 hc0_4
  have HB := Aside0.mk (Below.refl w.heap.size w)
  have H : ((some (([] : List (S61)) : List (S61))).bind fun y472 => (if y472.length + l0_2.length < 8796093022208 then ((swarfkit_Ints.f l0_4).bind fun t478 => (swarfkit_CopyCar.l0 k 0 l0_0 a0_1 l0_2 a0_3 l0_4 ([] : List (S50)) a0_1 (y472 ++ l0_2) a0_3 t478)) else (none))) = some (r1, r2, r3, r4, r5) := h
  clear h
  obtain ⟨y472, hy472⟩ : ∃ y_ : List (S61), y_ = (([] : List (S61))) := ⟨_, rfl⟩
  replace H : (if y472.length + l0_2.length < 8796093022208 then ((swarfkit_Ints.f l0_4).bind fun t478 => (swarfkit_CopyCar.l0 k 0 l0_0 a0_1 l0_2 a0_3 l0_4 ([] : List (S50)) a0_1 (y472 ++ l0_2) a0_3 t478)) else (none)) = some (r1, r2, r3, r4, r5) := by first | (rw [hy472]; with_reducible exact H) | (have H2_ := (Option.bind_some _ _).symm.trans H; rw [hy472]; with_reducible exact H2_) | (have H2_ := (Option.bind_some _ _).symm.trans H; with_reducible exact H2_) | with_reducible exact H | (rw [hy472]; exact H) | exact H
  have Ny472 := Aside0.mk hy472
  clear hy472
  by_cases c2 : y472.length + l0_2.length < 8796093022208
  · rw [if_pos c2] at H
    have LMc2 := Aside0.mk c2
    clear c2
    obtain ⟨y475, hy475⟩ : ∃ y_ : List (S61), y_ = (y472 ++ l0_2) := ⟨_, rfl⟩
    replace H : ((swarfkit_Ints.f l0_4).bind fun t478 => (swarfkit_CopyCar.l0 k 0 l0_0 a0_1 l0_2 a0_3 l0_4 ([] : List (S50)) a0_1 y475 a0_3 t478)) = some (r1, r2, r3, r4, r5) := by first | (rw [hy475]; with_reducible exact H) | (have H2_ := (Option.bind_some _ _).symm.trans H; rw [hy475]; with_reducible exact H2_) | (have H2_ := (Option.bind_some _ _).symm.trans H; with_reducible exact H2_) | with_reducible exact H | (rw [hy475]; exact H) | exact H
    have Ny475 := Aside0.mk hy475
    clear hy475
    replace H := Option.bind_eq_some_iff.mp H
    obtain ⟨t478, A30, H⟩ := H
    replace H : (swarfkit_CopyCar.l0 k 0 l0_0 a0_1 l0_2 a0_3 l0_4 ([] : List (S50)) a0_1 y475 a0_3 t478) = some (r1, r2, r3, r4, r5) := H
    have A3 := Aside0.mk A30
    clear A30
    have H' := Aside0.mk H
    clear H
    go_enter Try.func19, Try.ntmps19
    try go_wp2_with (first | ((with_reducible refine gate_dst (N := 1) rfl ?_); refine box_event ?hg (N := 1) ?hd (cs := #[.slice A0_0 l0_0.length c0_0, .int .i64 a0_1, .slice A0_2 l0_2.length c0_2, .int .i64 a0_3, .slice A0_4 l0_4.length c0_4]) (t := 26) ?hr ?_; (case hd => rfl); (case hg => rfl); (case hr => first | (go_simp; done) | (go_simp; rfl)); intro gb469 hg w4 hbox hb; have n0_ := Aside0.mk (below_step (by repeat (first | (with_reducible first | exact HB.out | apply below_alloc | apply pw_below_drewN | apply below_drew1) | exact HB.out)) hb); have n1_ := Aside0.mk (hbox); have n2_ := Aside0.mk ((by rw [hg]; exact (below_size (by repeat (first | (with_reducible first | exact HB.out | apply below_alloc | apply pw_below_drewN | apply below_drew1) | exact HB.out))) : w.heap.size ≤ gb469)); have n3_ := Aside0.mk ((by rw [hg]; exact (below_size (by repeat (first | (with_reducible first | exact HB.out | apply below_alloc | apply pw_below_drewN | apply below_drew1) | exact HB.out))) : w.heap.size ≤ gb469)); clear HB; have HB := n0_; have BK469 := n1_; have GW469 := n2_; have GE469 := n3_; clear n0_ n1_ n2_ n3_; clear hb hbox hg) | ((with_reducible refine gate_dst (N := 2) rfl ?_); refine box_event ?hg (N := 2) ?hd (cs := #[.slice none 0 0, .int .i64 0, .slice none 0 0, .int .i64 0, .slice none 0 0]) (t := 26) ?hr ?_; (case hd => rfl); (case hg => rfl); (case hr => first | (go_simp; done) | (go_simp; rfl)); intro gb470 hg w5 hbox hb; have n0_ := Aside0.mk (blk_below (g := gb469) (o := .cells #[.slice A0_0 l0_0.length c0_0, .int .i64 a0_1, .slice A0_2 l0_2.length c0_2, .int .i64 a0_3, .slice A0_4 l0_4.length c0_4] 26 (0, 0)) (by (with_reducible repeat (first | refine blk_drewN ?_ _ | refine blk_drew ?_ | refine blk_alloc ?_ _)); exact BK469.out) hb); have n1_ := Aside0.mk (below_step (by repeat (first | (with_reducible first | exact HB.out | apply below_alloc | apply pw_below_drewN | apply below_drew1 | refine below_set ?_ GE469.out) | exact HB.out)) hb); have n2_ := Aside0.mk (hbox); have n3_ := Aside0.mk ((by rw [hg]; exact (below_size (by repeat (first | (with_reducible first | exact HB.out | apply below_alloc | apply pw_below_drewN | apply below_drew1 | refine below_set ?_ GE469.out) | exact HB.out))) : w.heap.size ≤ gb470)); have n4_ := Aside0.mk ((by rw [hg]; exact (below_size (by repeat (first | (with_reducible first | exact HB.out | apply below_alloc | apply pw_below_drewN | apply below_drew1 | refine below_set ?_ GE469.out) | exact HB.out))) : w.heap.size ≤ gb470)); have n5_ := Aside0.mk ((by rw [hg]; exact Nat.ne_of_lt (blk_lt (g := gb469) (o := .cells #[.slice A0_0 l0_0.length c0_0, .int .i64 a0_1, .slice A0_2 l0_2.length c0_2, .int .i64 a0_3, .slice A0_4 l0_4.length c0_4] 26 (0, 0)) (by (with_reducible repeat (first | refine blk_drewN ?_ _ | refine blk_drew ?_ | refine blk_alloc ?_ _)); exact BK469.out)) : gb469 ≠ gb470)); have n6_ := Aside0.mk ((by rw [hg]; exact Nat.ne_of_gt (blk_lt (g := gb469) (o := .cells #[.slice A0_0 l0_0.length c0_0, .int .i64 a0_1, .slice A0_2 l0_2.length c0_2, .int .i64 a0_3, .slice A0_4 l0_4.length c0_4] 26 (0, 0)) (by (with_reducible repeat (first | refine blk_drewN ?_ _ | refine blk_drew ?_ | refine blk_alloc ?_ _)); exact BK469.out)) : gb470 ≠ gb469)); clear BK469; clear HB; have BK469 := n0_; have HB := n1_; have BK470 := n2_; have GW470 := n3_; have GE470 := n4_; have NB469_470 := n5_; have NB470_469 := n6_; clear n0_ n1_ n2_ n3_ n4_ n5_ n6_; clear hb hbox hg; have hnb6 := NB469_470.out; have hnc6 := NB470_469.out; have hcz7_0 : w5.cell? ⟨gb469, 0, none⟩ = some (.slice A0_0 l0_0.length c0_0) := (blk_cell BK469.out 0).trans rfl; have hcz7_1 : w5.cell? ⟨gb469, 1, none⟩ = some (.int .i64 a0_1) := (blk_cell BK469.out 1).trans rfl; have hcz7_2 : w5.cell? ⟨gb469, 2, none⟩ = some (.slice A0_2 l0_2.length c0_2) := (blk_cell BK469.out 2).trans rfl; have hcz7_3 : w5.cell? ⟨gb469, 3, none⟩ = some (.int .i64 a0_3) := (blk_cell BK469.out 3).trans rfl; have hcz7_4 : w5.cell? ⟨gb469, 4, none⟩ = some (.slice A0_4 l0_4.length c0_4) := (blk_cell BK469.out 4).trans rfl; have hfz7_0 := blk_frozen BK469.out 0; have hfz7_1 := blk_frozen BK469.out 1; have hfz7_2 := blk_frozen BK469.out 2; have hfz7_3 := blk_frozen BK469.out 3; have hfz7_4 := blk_frozen BK469.out 4) | ((with_reducible refine gate_dst (N := 3) rfl ?_); refine box_event ?hg (N := 3) ?hd (cs := #[.slice none 0 0, .int .i64 0, .slice none 0 0, .int .i64 0, .slice none 0 0]) (t := 26) ?hr ?_; (case hd => rfl); (case hg => rfl); (case hr => first | (go_simp; done) | (go_simp; rfl)); intro gb471 hg w8 hbox hb; have n0_ := Aside0.mk (blk_below (g := gb469) (o := .cells #[.slice A0_0 l0_0.length c0_0, .int .i64 a0_1, .slice A0_2 l0_2.length c0_2, .int .i64 a0_3, .slice A0_4 l0_4.length c0_4] 26 (0, 0)) (by (with_reducible repeat (first | refine blk_drewN ?_ _ | refine blk_drew ?_ | refine blk_alloc ?_ _)); exact BK469.out) hb); have n1_ := Aside0.mk (blk_below (g := gb470) (o := .cells #[.slice none 0 0, .int .i64 0, .slice none 0 0, .int .i64 0, .slice none 0 0] 26 (0, 0)) (by (with_reducible repeat (first | refine blk_drewN ?_ _ | refine blk_drew ?_ | refine blk_alloc ?_ _)); exact BK470.out) hb); have n2_ := Aside0.mk (below_step (by repeat (first | (with_reducible first | exact HB.out | apply below_alloc | apply pw_below_drewN | apply below_drew1 | refine below_set ?_ GE469.out | refine below_set ?_ GE470.out) | exact HB.out)) hb); have n3_ := Aside0.mk (hbox); have n4_ := Aside0.mk ((by rw [hg]; exact (below_size (by repeat (first | (with_reducible first | exact HB.out | apply below_alloc | apply pw_below_drewN | apply below_drew1 | refine below_set ?_ GE469.out | refine below_set ?_ GE470.out) | exact HB.out))) : w.heap.size ≤ gb471)); have n5_ := Aside0.mk ((by rw [hg]; exact (below_size (by repeat (first | (with_reducible first | exact HB.out | apply below_alloc | apply pw_below_drewN | apply below_drew1 | refine below_set ?_ GE469.out | refine below_set ?_ GE470.out) | exact HB.out))) : w.heap.size ≤ gb471)); have n6_ := Aside0.mk ((by rw [hg]; exact Nat.ne_of_lt (blk_lt (g := gb469) (o := .cells #[.slice A0_0 l0_0.length c0_0, .int .i64 a0_1, .slice A0_2 l0_2.length c0_2, .int .i64 a0_3, .slice A0_4 l0_4.length c0_4] 26 (0, 0)) (by (with_reducible repeat (first | refine blk_drewN ?_ _ | refine blk_drew ?_ | refine blk_alloc ?_ _)); exact BK469.out)) : gb469 ≠ gb471)); have n7_ := Aside0.mk ((by rw [hg]; exact Nat.ne_of_gt (blk_lt (g := gb469) (o := .cells #[.slice A0_0 l0_0.length c0_0, .int .i64 a0_1, .slice A0_2 l0_2.length c0_2, .int .i64 a0_3, .slice A0_4 l0_4.length c0_4] 26 (0, 0)) (by (with_reducible repeat (first | refine blk_drewN ?_ _ | refine blk_drew ?_ | refine blk_alloc ?_ _)); exact BK469.out)) : gb471 ≠ gb469)); have n8_ := Aside0.mk ((by rw [hg]; exact Nat.ne_of_lt (blk_lt (g := gb470) (o := .cells #[.slice none 0 0, .int .i64 0, .slice none 0 0, .int .i64 0, .slice none 0 0] 26 (0, 0)) (by (with_reducible repeat (first | refine blk_drewN ?_ _ | refine blk_drew ?_ | refine blk_alloc ?_ _)); exact BK470.out)) : gb470 ≠ gb471)); have n9_ := Aside0.mk ((by rw [hg]; exact Nat.ne_of_gt (blk_lt (g := gb470) (o := .cells #[.slice none 0 0, .int .i64 0, .slice none 0 0, .int .i64 0, .slice none 0 0] 26 (0, 0)) (by (with_reducible repeat (first | refine blk_drewN ?_ _ | refine blk_drew ?_ | refine blk_alloc ?_ _)); exact BK470.out)) : gb471 ≠ gb470)); clear BK469; clear BK470; clear HB; have BK469 := n0_; have BK470 := n1_; have HB := n2_; have BK471 := n3_; have GW471 := n4_; have GE471 := n5_; have NB469_471 := n6_; have NB471_469 := n7_; have NB470_471 := n8_; have NB471_470 := n9_; clear n0_ n1_ n2_ n3_ n4_ n5_ n6_ n7_ n8_ n9_; clear hb hbox hg; have hnb9 := NB471_469.out; have hnc9 := NB469_471.out; have hnb10 := NB471_470.out; have hnc10 := NB470_471.out; have hcz11_0 : w8.cell? ⟨gb471, 0, none⟩ = some (.slice none 0 0) := (blk_cell BK471.out 0).trans rfl; have hcz11_1 : w8.cell? ⟨gb471, 1, none⟩ = some (.int .i64 0) := (blk_cell BK471.out 1).trans rfl; have hcz11_2 : w8.cell? ⟨gb471, 2, none⟩ = some (.slice none 0 0) := (blk_cell BK471.out 2).trans rfl; have hcz11_3 : w8.cell? ⟨gb471, 3, none⟩ = some (.int .i64 0) := (blk_cell BK471.out 3).trans rfl; have hcz11_4 : w8.cell? ⟨gb471, 4, none⟩ = some (.slice none 0 0) := (blk_cell BK471.out 4).trans rfl; have hfz11_0 := blk_frozen BK471.out 0; have hfz11_1 := blk_frozen BK471.out 1; have hfz11_2 := blk_frozen BK471.out 2; have hfz11_3 := blk_frozen BK471.out 3; have hfz11_4 := blk_frozen BK471.out 4))
    have n0_ : Aside0 ((((((w8.setCell ⟨gb471, 0, none⟩ (.slice A0_0 l0_0.length c0_0)).setCell ⟨gb471, 1, none⟩ (.int .i64 a0_1)).setCell ⟨gb471, 2, none⟩ (.slice A0_2 l0_2.length c0_2)).setCell ⟨gb471, 3, none⟩ (.int .i64 a0_3)).setCell ⟨gb471, 4, none⟩ (.slice A0_4 l0_4.length c0_4)).heap[gb469]? = some (.cells #[.slice A0_0 l0_0.length c0_0, .int .i64 a0_1, .slice A0_2 l0_2.length c0_2, .int .i64 a0_3, .slice A0_4 l0_4.length c0_4] 26 (0, 0))) := ⟨by (with_reducible repeat (first | refine blk_drewN ?_ _ | refine blk_drew ?_ | refine blk_alloc ?_ _)); refine blk_far ?_ NB469_471.out _; (with_reducible repeat (first | refine blk_drewN ?_ _ | refine blk_drew ?_ | refine blk_alloc ?_ _)); refine blk_far ?_ NB469_471.out _; (with_reducible repeat (first | refine blk_drewN ?_ _ | refine blk_drew ?_ | refine blk_alloc ?_ _)); refine blk_far ?_ NB469_471.out _; (with_reducible repeat (first | refine blk_drewN ?_ _ | refine blk_drew ?_ | refine blk_alloc ?_ _)); refine blk_far ?_ NB469_471.out _; (with_reducible repeat (first | refine blk_drewN ?_ _ | refine blk_drew ?_ | refine blk_alloc ?_ _)); refine blk_far ?_ NB469_471.out _; (with_reducible repeat (first | refine blk_drewN ?_ _ | refine blk_drew ?_ | refine blk_alloc ?_ _)); exact BK469.out⟩
    have n1_ : Aside0 ((((((w8.setCell ⟨gb471, 0, none⟩ (.slice A0_0 l0_0.length c0_0)).setCell ⟨gb471, 1, none⟩ (.int .i64 a0_1)).setCell ⟨gb471, 2, none⟩ (.slice A0_2 l0_2.length c0_2)).setCell ⟨gb471, 3, none⟩ (.int .i64 a0_3)).setCell ⟨gb471, 4, none⟩ (.slice A0_4 l0_4.length c0_4)).heap[gb470]? = some (.cells #[.slice none 0 0, .int .i64 0, .slice none 0 0, .int .i64 0, .slice none 0 0] 26 (0, 0))) := ⟨by (with_reducible repeat (first | refine blk_drewN ?_ _ | refine blk_drew ?_ | refine blk_alloc ?_ _)); refine blk_far ?_ NB470_471.out _; (with_reducible repeat (first | refine blk_drewN ?_ _ | refine blk_drew ?_ | refine blk_alloc ?_ _)); refine blk_far ?_ NB470_471.out _; (with_reducible repeat (first | refine blk_drewN ?_ _ | refine blk_drew ?_ | refine blk_alloc ?_ _)); refine blk_far ?_ NB470_471.out _; (with_reducible repeat (first | refine blk_drewN ?_ _ | refine blk_drew ?_ | refine blk_alloc ?_ _)); refine blk_far ?_ NB470_471.out _; (with_reducible repeat (first | refine blk_drewN ?_ _ | refine blk_drew ?_ | refine blk_alloc ?_ _)); refine blk_far ?_ NB470_471.out _; (with_reducible repeat (first | refine blk_drewN ?_ _ | refine blk_drew ?_ | refine blk_alloc ?_ _)); exact BK470.out⟩
    have n2_ : Aside0 ((((((w8.setCell ⟨gb471, 0, none⟩ (.slice A0_0 l0_0.length c0_0)).setCell ⟨gb471, 1, none⟩ (.int .i64 a0_1)).setCell ⟨gb471, 2, none⟩ (.slice A0_2 l0_2.length c0_2)).setCell ⟨gb471, 3, none⟩ (.int .i64 a0_3)).setCell ⟨gb471, 4, none⟩ (.slice A0_4 l0_4.length c0_4)).heap[gb471]? = some (.cells #[.slice A0_0 l0_0.length c0_0, .int .i64 a0_1, .slice A0_2 l0_2.length c0_2, .int .i64 a0_3, .slice A0_4 l0_4.length c0_4] 26 (0, 0))) := ⟨by (with_reducible repeat (first | refine blk_drewN ?_ _ | refine blk_drew ?_ | refine blk_alloc ?_ _)); refine blk_put (cs := #[.slice A0_0 l0_0.length c0_0, .int .i64 a0_1, .slice A0_2 l0_2.length c0_2, .int .i64 a0_3, .slice none 0 0]) ?_ 4 _ rfl; (with_reducible repeat (first | refine blk_drewN ?_ _ | refine blk_drew ?_ | refine blk_alloc ?_ _)); refine blk_put (cs := #[.slice A0_0 l0_0.length c0_0, .int .i64 a0_1, .slice A0_2 l0_2.length c0_2, .int .i64 0, .slice none 0 0]) ?_ 3 _ rfl; (with_reducible repeat (first | refine blk_drewN ?_ _ | refine blk_drew ?_ | refine blk_alloc ?_ _)); refine blk_put (cs := #[.slice A0_0 l0_0.length c0_0, .int .i64 a0_1, .slice none 0 0, .int .i64 0, .slice none 0 0]) ?_ 2 _ rfl; (with_reducible repeat (first | refine blk_drewN ?_ _ | refine blk_drew ?_ | refine blk_alloc ?_ _)); refine blk_put (cs := #[.slice A0_0 l0_0.length c0_0, .int .i64 0, .slice none 0 0, .int .i64 0, .slice none 0 0]) ?_ 1 _ rfl; (with_reducible repeat (first | refine blk_drewN ?_ _ | refine blk_drew ?_ | refine blk_alloc ?_ _)); refine blk_put (cs := #[.slice none 0 0, .int .i64 0, .slice none 0 0, .int .i64 0, .slice none 0 0]) ?_ 0 _ rfl; (with_reducible repeat (first | refine blk_drewN ?_ _ | refine blk_drew ?_ | refine blk_alloc ?_ _)); exact BK471.out⟩
    have n3_ : Aside0 (Below w.heap.size w (((((w8.setCell ⟨gb471, 0, none⟩ (.slice A0_0 l0_0.length c0_0)).setCell ⟨gb471, 1, none⟩ (.int .i64 a0_1)).setCell ⟨gb471, 2, none⟩ (.slice A0_2 l0_2.length c0_2)).setCell ⟨gb471, 3, none⟩ (.int .i64 a0_3)).setCell ⟨gb471, 4, none⟩ (.slice A0_4 l0_4.length c0_4))) := ⟨by repeat (first | (with_reducible first | exact HB.out | apply below_alloc | apply pw_below_drewN | apply below_drew1 | refine below_set ?_ GE469.out | refine below_set ?_ GE470.out | refine below_set ?_ GE471.out) | exact HB.out)⟩
    (try clear BK469)
    (try clear BK470)
    (try clear BK471)
    (try clear HB)
    generalize (((((w8.setCell ⟨gb471, 0, none⟩ (.slice A0_0 l0_0.length c0_0)).setCell ⟨gb471, 1, none⟩ (.int .i64 a0_1)).setCell ⟨gb471, 2, none⟩ (.slice A0_2 l0_2.length c0_2)).setCell ⟨gb471, 3, none⟩ (.int .i64 a0_3)).setCell ⟨gb471, 4, none⟩ (.slice A0_4 l0_4.length c0_4)) = w12 at n0_ n1_ n2_ n3_ ⊢
    have BK469 := n0_
    have BK470 := n1_
    have BK471 := n2_
    have HB := n3_
    clear n0_ n1_ n2_ n3_
    have n0_ := Aside0.mk (blk_drew BK469.out)
    have n1_ := Aside0.mk (blk_drew BK470.out)
    have n2_ := Aside0.mk (blk_drew BK471.out)
    have n3_ := Aside0.mk (below_drew1 HB.out)
    clear BK469
    clear BK470
    clear BK471
    clear HB
    have BK469 := n0_
    have BK470 := n1_
    have BK471 := n2_
    have HB := n3_
    clear n0_ n1_ n2_ n3_
    refine start_ (n := 13) (S := fun w' => w'.cell? ⟨gb469, 0, none⟩ = some (.slice A0_0 l0_0.length c0_0) ∧ w'.cell? ⟨gb469, 1, none⟩ = some (.int .i64 a0_1) ∧ w'.cell? ⟨gb469, 2, none⟩ = some (.slice A0_2 l0_2.length c0_2) ∧ w'.cell? ⟨gb469, 3, none⟩ = some (.int .i64 a0_3) ∧ w'.cell? ⟨gb469, 4, none⟩ = some (.slice A0_4 l0_4.length c0_4)) (ds := []) #[false, false, false, false, false, false, false, false, false, false, false, false, false] (by kernel_rfl) rfl rfl ⟨(blk_cell BK469.out 0).trans rfl, (blk_cell BK469.out 1).trans rfl, (blk_cell BK469.out 2).trans rfl, (blk_cell BK469.out 3).trans rfl, (blk_cell BK469.out 4).trans rfl⟩ (fun hHeld => ?_); refine with_tabW swarfkit_CopyCar.tab2 swarfkit_CopyCar.bits2 (fun HT_ HW_ => ?_)
    generalize w12.drew = w13 at BK469 BK470 BK471 HB hHeld ⊢
    refine pure_ (i := 1) (N := some 8) (v := ?_) (a' := ?_) #[false, true, false, false, false, false, false, false, false, false, false, false, false] rfl rfl (any_of HT_.out (by kernel_rfl)) (fun _ _ _ h => h) (Or.inl ⟨by rfl, ?_⟩) ?_ ?_
    rotate_left
    · intro w'
      go_simp
      with_reducible rfl
    rotate_left
    · simp only [Act.put, List.setIfInBounds_toArray, List.set_cons_zero, List.set_cons_succ, i64_w, i32_w]
      rfl
    refine pure_ (i := 4) (N := some 11) (v := ?_) (a' := ?_) #[false, true, false, false, true, false, false, false, false, false, false, false, false] rfl rfl (any_of HT_.out (by kernel_rfl)) (fun _ _ _ h => h) (Or.inl ⟨by rfl, ?_⟩) ?_ ?_
    rotate_left
    · intro w'
      go_simp
      with_reducible rfl
    rotate_left
    · simp only [Act.put, List.setIfInBounds_toArray, List.set_cons_zero, List.set_cons_succ, i64_w, i32_w]
      rfl
    refine pure_ (i := 7) (N := some 14) (v := ?_) (a' := ?_) #[false, true, false, false, true, false, false, true, false, false, false, false, false] rfl rfl (any_of HT_.out (by kernel_rfl)) (fun _ _ _ h => h) (Or.inl ⟨by rfl, ?_⟩) ?_ ?_
    rotate_left
    · intro w'
      go_simp
      with_reducible rfl
    rotate_left
    · simp only [Act.put, List.setIfInBounds_toArray, List.set_cons_zero, List.set_cons_succ, i64_w, i32_w]
      rfl
    refine take_ (i := 2) (N := some 9) (v := ?_) (a' := ?_) #[false, true, true, false, true, false, false, true, false, false, false, false, false] rfl rfl (take_ofW HT_.out HW_.out (by kernel_rfl)) (fun _ _ _ h => h) (Or.inl ⟨by rfl, ?_⟩) hHeld ?_ ?_
    rotate_left
    · rintro w' ⟨s0, s1, s2, s3, s4⟩
      go_simp
      with_reducible rfl
    rotate_left
    · simp only [Act.put, List.setIfInBounds_toArray, List.set_cons_zero, List.set_cons_succ, i64_w, i32_w]
      rfl
    refine take_ (i := 5) (N := some 12) (v := ?_) (a' := ?_) #[false, true, true, false, true, true, false, true, false, false, false, false, false] rfl rfl (take_ofW HT_.out HW_.out (by kernel_rfl)) (fun _ _ _ h => h) (Or.inl ⟨by rfl, ?_⟩) hHeld ?_ ?_
    rotate_left
    · rintro w' ⟨s0, s1, s2, s3, s4⟩
      go_simp
      with_reducible rfl
    rotate_left
    · simp only [Act.put, List.setIfInBounds_toArray, List.set_cons_zero, List.set_cons_succ, i64_w, i32_w]
      rfl
    refine one_ (i := 0) (N := some 7) #[true, true, true, false, true, true, false, true, false, false, false, false, false] rfl rfl (one_of HT_.out (by kernel_rfl)) (by decide) (fun K hK => ?_)
    refine Kd.R_lit_step k61 _ 61 ?hg (N := 7) ?hd (xs := ([] : List (S61))) (inner := []) (ok := fun _ => True) (okp := fun _ => True) ?hr ?hp (fun _ hk => hk) trivial (Below.refl _ _) (Nat.le_refl _) (by simp) ?_; (case hd => rfl); (case hg => rfl); (case hr => first | (go_simp; done) | (go_simp; rfl)); (case hp => exact (Reps.none _ _))
    intro v473 w14 ho15 hb hg_ hnew_
    clear hg_ hnew_
    (first | rw [← Ny472.out] at ho15 | (simp only [Int.reduceToNat] at ho15; rw [← Ny472.out] at ho15))
    have n0_ := Aside0.mk (Kd.R_lower ho15 (below_size (by repeat (first | (with_reducible first | exact HB.out | apply below_alloc | apply pw_below_drewN | apply below_drew1 | refine below_set ?_ GE469.out | refine below_set ?_ GE470.out | refine below_set ?_ GE471.out) | exact HB.out))))
    have n1_ := Aside0.mk (blk_below (g := gb469) (o := .cells #[.slice A0_0 l0_0.length c0_0, .int .i64 a0_1, .slice A0_2 l0_2.length c0_2, .int .i64 a0_3, .slice A0_4 l0_4.length c0_4] 26 (0, 0)) (by (with_reducible repeat (first | refine blk_drewN ?_ _ | refine blk_drew ?_ | refine blk_alloc ?_ _)); exact BK469.out) hb)
    have n2_ := Aside0.mk (blk_below (g := gb470) (o := .cells #[.slice none 0 0, .int .i64 0, .slice none 0 0, .int .i64 0, .slice none 0 0] 26 (0, 0)) (by (with_reducible repeat (first | refine blk_drewN ?_ _ | refine blk_drew ?_ | refine blk_alloc ?_ _)); exact BK470.out) hb)
    have n3_ := Aside0.mk (blk_below (g := gb471) (o := .cells #[.slice A0_0 l0_0.length c0_0, .int .i64 a0_1, .slice A0_2 l0_2.length c0_2, .int .i64 a0_3, .slice A0_4 l0_4.length c0_4] 26 (0, 0)) (by (with_reducible repeat (first | refine blk_drewN ?_ _ | refine blk_drew ?_ | refine blk_alloc ?_ _)); exact BK471.out) hb)
    have n4_ := Aside0.mk (below_step (by repeat (first | (with_reducible first | exact HB.out | apply below_alloc | apply pw_below_drewN | apply below_drew1 | refine below_set ?_ GE469.out | refine below_set ?_ GE470.out | refine below_set ?_ GE471.out) | exact HB.out)) hb)
    clear BK469
    clear BK470
    clear BK471
    clear HB
    have HO474 := n0_
    have BK469 := n1_
    have BK470 := n2_
    have BK471 := n3_
    have HB := n4_
    clear n0_ n1_ n2_ n3_ n4_
    clear hb ho15
    refine hK.out _ _ ⟨(blk_cell BK469.out 0).trans rfl, (blk_cell BK469.out 1).trans rfl, (blk_cell BK469.out 2).trans rfl, (blk_cell BK469.out 3).trans rfl, (blk_cell BK469.out 4).trans rfl⟩ (fun hHeld => ?_)
    clear hK K
    refine norm_ (a' := ?_) ?_ ?_
    rotate_left
    · show Act.put _ (some 7) _ = _
      simp only [Act.put, List.setIfInBounds_toArray, List.set_cons_zero, List.set_cons_succ, i64_w, i32_w]
      rfl
    refine one_ (i := 3) (N := some 10) #[true, true, true, true, true, true, false, true, false, false, false, false, false] rfl rfl (one_of HT_.out (by kernel_rfl)) (by decide) (fun K hK => ?_)
    refine Kd.R_append_rows_step k61 (w0 := w) w.heap.size (by rfl) (.tmp 7) (.tmp 9) 23 61 (.agg #[(.int .i64 0), (.bool false)]) 16 rfl Try.underlying23 info61 rfl (by decide) (by omega) v473 y472 l0_2 _ _ _ (fun _ => True) (fun _ => False) rfl rfl ?aO ?aR (fun _ _ h => h) (fun _ h => h.elim) ?aF ?aB ?aS ?aL ?_
    (case aR => repeat (first | exact (Kd.C_below HR0_2.out HB.out) | (with_reducible refine Kd.C_alloc ?_ _) | (with_reducible refine Kd.C_drewN ?_ _) | (with_reducible refine Kd.C_drew ?_)))
    (case aB => exact (by repeat (first | (with_reducible first | exact HB.out | apply below_alloc | apply pw_below_drewN | apply below_drew1 | refine below_set ?_ GE469.out | refine below_set ?_ GE470.out | refine below_set ?_ GE471.out) | exact HB.out)))
    (case aF => exact (fun _ _ => trivial))
    (case aO => exact (by (with_reducible repeat (first | apply Kd.R_alloc | apply Kd.R_drewN | apply Kd.R_drew)); exact HO474.out))
    (case aS => exact (below_size (by repeat (first | (with_reducible first | exact HB.out | apply below_alloc | apply pw_below_drewN | apply below_drew1 | refine below_set ?_ GE469.out | refine below_set ?_ GE470.out | refine below_set ?_ GE471.out) | exact HB.out))))
    (case aL => have := LMc2.out; omega)
    intro v476 w16 ho hb hg hat
    rw [← Ny475.out] at ho
    have n0_ := Aside0.mk (blk_grown (g := gb469) (o := .cells #[.slice A0_0 l0_0.length c0_0, .int .i64 a0_1, .slice A0_2 l0_2.length c0_2, .int .i64 a0_3, .slice A0_4 l0_4.length c0_4] 26 (0, 0)) (by (with_reducible repeat (first | refine blk_drewN ?_ _ | refine blk_drew ?_ | refine blk_alloc ?_ _)); exact BK469.out) hg (Kd.R_ne HO474.out BK469.out (by decide)))
    have n1_ := Aside0.mk (blk_grown (g := gb470) (o := .cells #[.slice none 0 0, .int .i64 0, .slice none 0 0, .int .i64 0, .slice none 0 0] 26 (0, 0)) (by (with_reducible repeat (first | refine blk_drewN ?_ _ | refine blk_drew ?_ | refine blk_alloc ?_ _)); exact BK470.out) hg (Kd.R_ne HO474.out BK470.out (by decide)))
    have n2_ := Aside0.mk (blk_grown (g := gb471) (o := .cells #[.slice A0_0 l0_0.length c0_0, .int .i64 a0_1, .slice A0_2 l0_2.length c0_2, .int .i64 a0_3, .slice A0_4 l0_4.length c0_4] 26 (0, 0)) (by (with_reducible repeat (first | refine blk_drewN ?_ _ | refine blk_drew ?_ | refine blk_alloc ?_ _)); exact BK471.out) hg (Kd.R_ne HO474.out BK471.out (by decide)))
    have n3_ := Aside0.mk (hb)
    have n4_ := Aside0.mk (ho)
    clear BK469
    clear BK470
    clear BK471
    clear HB
    clear HO474
    have BK469 := n0_
    have BK470 := n1_
    have BK471 := n2_
    have HB := n3_
    have HO477 := n4_
    clear n0_ n1_ n2_ n3_ n4_
    clear ho hb hg hat
    refine hK.out _ _ ⟨(blk_cell BK469.out 0).trans rfl, (blk_cell BK469.out 1).trans rfl, (blk_cell BK469.out 2).trans rfl, (blk_cell BK469.out 3).trans rfl, (blk_cell BK469.out 4).trans rfl⟩ (fun hHeld => ?_)
    clear hK K
    refine norm_ (a' := ?_) ?_ ?_
    rotate_left
    · show Act.put _ (some 10) _ = _
      simp only [Act.put, List.setIfInBounds_toArray, List.set_cons_zero, List.set_cons_succ, i64_w, i32_w]
      rfl
    refine one_ (i := 6) (N := some 13) #[true, true, true, true, true, true, true, true, false, false, false, false, false] rfl rfl (one_of HT_.out (by kernel_rfl)) (by decide) (fun K hK => ?_)
    refine goes_ Try.func43 (by kernel_rfl) rfl #[.slice A0_4 l0_4.length c0_4] (by rfl) rfl rfl (by (try simp only [List.map_toArray, List.map_cons, List.map_nil]); first | done | rfl | (simp only [List.length_drop, List.length_take]; rfl)) ?_
    with_reducible refine (swarfkit_Ints.calls _ _ l0_4 t478 _ ?side1 ?side2 A3.out).mono ?_
    (case side1 => repeat (first | exact (Kd.C_below HR0_4.out HB.out) | (with_reducible refine Kd.C_alloc ?_ _) | (with_reducible refine Kd.C_drewN ?_ _) | (with_reducible refine Kd.C_drew ?_)))
    (case side2 => exact HC0_4.out)
    rintro e w17 ⟨v479, rfl, ho0, hb⟩
    refine ⟨_, rfl, ?_⟩
    have n0_ := Aside0.mk (Kd.R_below (by (with_reducible repeat (first | apply Kd.R_alloc | apply Kd.R_drewN | apply Kd.R_drew)); exact HO477.out) hb)
    have n1_ := Aside0.mk (Kd.R_lower ho0 (below_size (by repeat (first | (with_reducible first | exact HB.out | apply below_alloc | apply pw_below_drewN | apply below_drew1 | refine below_set ?_ GE469.out | refine below_set ?_ GE470.out | refine below_set ?_ GE471.out) | exact HB.out))))
    have n2_ := Aside0.mk (blk_below (g := gb469) (o := .cells #[.slice A0_0 l0_0.length c0_0, .int .i64 a0_1, .slice A0_2 l0_2.length c0_2, .int .i64 a0_3, .slice A0_4 l0_4.length c0_4] 26 (0, 0)) (by (with_reducible repeat (first | refine blk_drewN ?_ _ | refine blk_drew ?_ | refine blk_alloc ?_ _)); exact BK469.out) hb)
    have n3_ := Aside0.mk (blk_below (g := gb470) (o := .cells #[.slice none 0 0, .int .i64 0, .slice none 0 0, .int .i64 0, .slice none 0 0] 26 (0, 0)) (by (with_reducible repeat (first | refine blk_drewN ?_ _ | refine blk_drew ?_ | refine blk_alloc ?_ _)); exact BK470.out) hb)
    have n4_ := Aside0.mk (blk_below (g := gb471) (o := .cells #[.slice A0_0 l0_0.length c0_0, .int .i64 a0_1, .slice A0_2 l0_2.length c0_2, .int .i64 a0_3, .slice A0_4 l0_4.length c0_4] 26 (0, 0)) (by (with_reducible repeat (first | refine blk_drewN ?_ _ | refine blk_drew ?_ | refine blk_alloc ?_ _)); exact BK471.out) hb)
    have n5_ := Aside0.mk (below_step (by repeat (first | (with_reducible first | exact HB.out | apply below_alloc | apply pw_below_drewN | apply below_drew1 | refine below_set ?_ GE469.out | refine below_set ?_ GE470.out | refine below_set ?_ GE471.out) | exact HB.out)) hb)
    clear HO477
    clear BK469
    clear BK470
    clear BK471
    clear HB
    have HO477 := n0_
    have HO480 := n1_
    have BK469 := n2_
    have BK470 := n3_
    have BK471 := n4_
    have HB := n5_
    clear n0_ n1_ n2_ n3_ n4_ n5_
    (try clear hb)
    (try clear hb2)
    (try clear hk)
    (try clear hi)
    (try clear ho0)
    obtain ⟨Ao19, co19, eo19⟩ := Kd.R_slice HO477.out
    (first | subst eo19 | (injection eo19 with f1_ f2_ f3_; have f4_ := f1_.symm; have f5_ := f3_.symm; clear f1_ f2_ f3_; subst f4_; subst f5_))
    obtain ⟨Ao21, co21, eo21⟩ := Kd.R_slice HO480.out
    (first | subst eo21 | (injection eo21 with f1_ f2_ f3_; have f4_ := f1_.symm; have f5_ := f3_.symm; clear f1_ f2_ f3_; subst f4_; subst f5_))
    refine hK.out _ _ ⟨(blk_cell BK469.out 0).trans rfl, (blk_cell BK469.out 1).trans rfl, (blk_cell BK469.out 2).trans rfl, (blk_cell BK469.out 3).trans rfl, (blk_cell BK469.out 4).trans rfl⟩ (fun hHeld => ?_)
    clear hK K
    refine norm_ (a' := ?_) ?_ ?_
    rotate_left
    · show Act.put _ (some 13) _ = _
      simp only [Act.put, List.setIfInBounds_toArray, List.set_cons_zero, List.set_cons_succ, i64_w, i32_w]
      rfl
    refine one_ (i := 8) (N := none) #[true, true, true, true, true, true, true, true, true, false, false, false, false] rfl rfl (one_of HT_.out (by kernel_rfl)) (by decide) (fun K hK => ?_)
    have hs18 : w17.cell? ⟨gb471, 0, none⟩ = some (.slice A0_0 l0_0.length c0_0) := (blk_cell BK471.out 0).trans rfl
    have hfs18 := blk_frozen BK471.out 0
    have hns18_0 := NB469_471.out
    have hns18_1 := NB470_471.out
    have hms18_0 := NB471_469.out
    have hms18_1 := NB471_470.out
    refine skip_ (w1 := ?_) (by rfl) rfl ?_ ?_
    rotate_left
    · go_simp
      rfl
    refine hK.out _ _ ⟨((cell_far (p := ⟨gb471, _, none⟩) NB469_471.out _).trans (hHeld.1)), ((cell_far (p := ⟨gb471, _, none⟩) NB469_471.out _).trans (hHeld.2.1)), ((cell_far (p := ⟨gb471, _, none⟩) NB469_471.out _).trans (hHeld.2.2.1)), ((cell_far (p := ⟨gb471, _, none⟩) NB469_471.out _).trans (hHeld.2.2.2.1)), ((cell_far (p := ⟨gb471, _, none⟩) NB469_471.out _).trans (hHeld.2.2.2.2))⟩ (fun hHeld => ?_)
    clear hK K
    refine pure_ (i := 9) (N := some 15) (v := ?_) (a' := ?_) #[true, true, true, true, true, true, true, true, true, true, false, false, false] rfl rfl (any_of HT_.out (by kernel_rfl)) (fun _ _ _ h => h) (Or.inl ⟨by rfl, ?_⟩) ?_ ?_
    rotate_left
    · intro w'
      go_simp
      with_reducible rfl
    rotate_left
    · simp only [Act.put, List.setIfInBounds_toArray, List.set_cons_zero, List.set_cons_succ, i64_w, i32_w]
      rfl
    refine one_ (i := 10) (N := none) #[true, true, true, true, true, true, true, true, true, true, true, false, false] rfl rfl (one_of HT_.out (by kernel_rfl)) (by decide) (fun K hK => ?_)
    have hs20 : w17.cell? ⟨gb471, 2, none⟩ = some (.slice A0_2 l0_2.length c0_2) := (blk_cell BK471.out 2).trans rfl
    have hfs20 := blk_frozen BK471.out 2
    have hns20_0 := NB469_471.out
    have hns20_1 := NB470_471.out
    have hms20_0 := NB471_469.out
    have hms20_1 := NB471_470.out
    refine skip_ (w1 := ?_) (by rfl) rfl ?_ ?_
    rotate_left
    · go_simp
      rfl
    refine hK.out _ _ ⟨((cell_far (p := ⟨gb471, _, none⟩) NB469_471.out _).trans (hHeld.1)), ((cell_far (p := ⟨gb471, _, none⟩) NB469_471.out _).trans (hHeld.2.1)), ((cell_far (p := ⟨gb471, _, none⟩) NB469_471.out _).trans (hHeld.2.2.1)), ((cell_far (p := ⟨gb471, _, none⟩) NB469_471.out _).trans (hHeld.2.2.2.1)), ((cell_far (p := ⟨gb471, _, none⟩) NB469_471.out _).trans (hHeld.2.2.2.2))⟩ (fun hHeld => ?_)
    clear hK K
    refine pure_ (i := 11) (N := some 16) (v := ?_) (a' := ?_) #[true, true, true, true, true, true, true, true, true, true, true, true, false] rfl rfl (any_of HT_.out (by kernel_rfl)) (fun _ _ _ h => h) (Or.inl ⟨by rfl, ?_⟩) ?_ ?_
    rotate_left
    · intro w'
      go_simp
      with_reducible rfl
    rotate_left
    · simp only [Act.put, List.setIfInBounds_toArray, List.set_cons_zero, List.set_cons_succ, i64_w, i32_w]
      rfl
    refine one_ (i := 12) (N := none) #[true, true, true, true, true, true, true, true, true, true, true, true, true] rfl rfl (one_of HT_.out (by kernel_rfl)) (by decide) (fun K hK => ?_)
    have hs22 : w17.cell? ⟨gb471, 4, none⟩ = some (.slice A0_4 l0_4.length c0_4) := (blk_cell BK471.out 4).trans rfl
    have hfs22 := blk_frozen BK471.out 4
    have hns22_0 := NB469_471.out
    have hns22_1 := NB470_471.out
    have hms22_0 := NB471_469.out
    have hms22_1 := NB471_470.out
    refine skip_ (w1 := ?_) (by rfl) rfl ?_ ?_
    rotate_left
    · go_simp
      rfl
    refine hK.out _ _ ⟨((cell_far (p := ⟨gb471, _, none⟩) NB469_471.out _).trans (hHeld.1)), ((cell_far (p := ⟨gb471, _, none⟩) NB469_471.out _).trans (hHeld.2.1)), ((cell_far (p := ⟨gb471, _, none⟩) NB469_471.out _).trans (hHeld.2.2.1)), ((cell_far (p := ⟨gb471, _, none⟩) NB469_471.out _).trans (hHeld.2.2.2.1)), ((cell_far (p := ⟨gb471, _, none⟩) NB469_471.out _).trans (hHeld.2.2.2.2))⟩ (fun hHeld => ?_)
    clear hK K
    refine done_ (done_of HT_.out (by kernel_rfl)) ?_
    try go_wp2
    go_loopg [4] k (fun kq v4 w' => ∃ (x4_1 : Int) (x472000_1 : List (S50)) (u472000 : Value), v4 = .int .i64 x4_1 ∧ Aside0 (swarfkit_CopyCar.l0 kq x4_1 l0_0 a0_1 l0_2 a0_3 l0_4 x472000_1 a0_1 y475 a0_3 t478 = some (r1, r2, r3, r4, r5)) ∧ Aside0 (kq ≤ k) ∧ Aside0 (Kd.S k50 50 w' w.heap.size (fun k_ => some k_ ≠ ((.slice Ao21 t478.length co21) : Value).ownBlock) u472000 x472000_1) ∧ Aside0 (Kd.R k61 61 w' w.heap.size (fun _ => True) (.slice Ao19 y475.length co19) y475) ∧ Aside0 (Kd.R (Kd.int .i64) 3 w' w.heap.size (fun _ => True) (.slice Ao21 t478.length co21) t478) ∧ Aside0 (w'.heap[gb469]? = some (.cells #[(.slice A0_0 l0_0.length c0_0), .int .i64 a0_1, (.slice A0_2 l0_2.length c0_2), .int .i64 a0_3, (.slice A0_4 l0_4.length c0_4)] 26 (0, 0))) ∧ Aside0 (w'.heap[gb470]? = some (.cells #[(.slice none 0 0), .int .i64 0, (.slice none 0 0), .int .i64 0, (.slice none 0 0)] 26 (0, 0))) ∧ Aside0 (w'.heap[gb471]? = some (.cells #[u472000, .int .i64 a0_1, (.slice Ao19 y475.length co19), .int .i64 a0_3, (.slice Ao21 t478.length co21)] 26 (0, 0))) ∧ Aside0 (Below w.heap.size w w'))
    case atStart => exact ⟨(0), (([] : List (S50))), (.slice none 0 0), (by first | rfl | (simp; done) | (simp [*]; done)), H', ⟨Nat.le_refl _⟩, ⟨by first | exact Kd.S_nil _ _ _ _ _ | exact Kd.N_nil _ _ _ _ _ | exact Kd.V_nil _ _ _ _ _ | exact Kd.Q_nil _ _ _ _ _ | exact Kd.R_nil _ _ _ _ _⟩, ⟨by (with_reducible repeat (first | apply Kd.R_alloc | apply Kd.R_drewN | apply Kd.R_drew)); exact Kd.R_mono (Kd.R_far (p := ⟨gb471, 4, none⟩) (Kd.R_far (p := ⟨gb471, 2, none⟩) (Kd.R_far (p := ⟨gb471, 0, none⟩) (Kd.R_types HO477.out BK471.out (by decide)) (fun _ hk => hk.2) (.slice none 0 0)) (fun _ hk => hk.2) (.slice Ao19 y475.length co19)) (fun _ hk => hk.2) (.slice Ao21 t478.length co21)) (fun _ hk => trivial)⟩, ⟨by (with_reducible repeat (first | apply Kd.R_alloc | apply Kd.R_drewN | apply Kd.R_drew)); exact Kd.R_mono (Kd.R_far (p := ⟨gb471, 4, none⟩) (Kd.R_far (p := ⟨gb471, 2, none⟩) (Kd.R_far (p := ⟨gb471, 0, none⟩) (Kd.R_types HO480.out BK471.out (by decide)) (fun _ hk => hk.2) (.slice none 0 0)) (fun _ hk => hk.2) (.slice Ao19 y475.length co19)) (fun _ hk => hk.2) (.slice Ao21 t478.length co21)) (fun _ hk => trivial)⟩, ⟨by (with_reducible repeat (first | refine blk_drewN ?_ _ | refine blk_drew ?_ | refine blk_alloc ?_ _)); refine blk_far ?_ NB469_471.out _; (with_reducible repeat (first | refine blk_drewN ?_ _ | refine blk_drew ?_ | refine blk_alloc ?_ _)); refine blk_far ?_ NB469_471.out _; (with_reducible repeat (first | refine blk_drewN ?_ _ | refine blk_drew ?_ | refine blk_alloc ?_ _)); refine blk_far ?_ NB469_471.out _; (with_reducible repeat (first | refine blk_drewN ?_ _ | refine blk_drew ?_ | refine blk_alloc ?_ _)); exact BK469.out⟩, ⟨by (with_reducible repeat (first | refine blk_drewN ?_ _ | refine blk_drew ?_ | refine blk_alloc ?_ _)); refine blk_far ?_ NB470_471.out _; (with_reducible repeat (first | refine blk_drewN ?_ _ | refine blk_drew ?_ | refine blk_alloc ?_ _)); refine blk_far ?_ NB470_471.out _; (with_reducible repeat (first | refine blk_drewN ?_ _ | refine blk_drew ?_ | refine blk_alloc ?_ _)); refine blk_far ?_ NB470_471.out _; (with_reducible repeat (first | refine blk_drewN ?_ _ | refine blk_drew ?_ | refine blk_alloc ?_ _)); exact BK470.out⟩, ⟨by (with_reducible repeat (first | refine blk_drewN ?_ _ | refine blk_drew ?_ | refine blk_alloc ?_ _)); refine blk_put (cs := #[.slice none 0 0, .int .i64 a0_1, .slice Ao19 y475.length co19, .int .i64 a0_3, .slice A0_4 l0_4.length c0_4]) ?_ 4 _ rfl; (with_reducible repeat (first | refine blk_drewN ?_ _ | refine blk_drew ?_ | refine blk_alloc ?_ _)); refine blk_put (cs := #[.slice none 0 0, .int .i64 a0_1, .slice A0_2 l0_2.length c0_2, .int .i64 a0_3, .slice A0_4 l0_4.length c0_4]) ?_ 2 _ rfl; (with_reducible repeat (first | refine blk_drewN ?_ _ | refine blk_drew ?_ | refine blk_alloc ?_ _)); refine blk_put (cs := #[.slice A0_0 l0_0.length c0_0, .int .i64 a0_1, .slice A0_2 l0_2.length c0_2, .int .i64 a0_3, .slice A0_4 l0_4.length c0_4]) ?_ 0 _ rfl; (with_reducible repeat (first | refine blk_drewN ?_ _ | refine blk_drew ?_ | refine blk_alloc ?_ _)); exact BK471.out⟩, ⟨by repeat (first | (with_reducible first | exact HB.out | apply below_alloc | apply pw_below_drewN | apply below_drew1 | refine below_set ?_ GE469.out | refine below_set ?_ GE470.out | refine below_set ?_ GE471.out) | exact HB.out)⟩⟩
    case round =>
      clear H'
      try clear c1
      try clear c2
      try clear p2
      try clear c4
      try clear c6
      try clear c9
      try clear c10
      try clear c19
      try clear hcz11_0
      try clear hcz11_1
      try clear hcz11_2
      try clear hcz11_3
      try clear hcz11_4
      try clear hcz7_0
      try clear hcz7_1
      try clear hcz7_2
      try clear hcz7_3
      try clear hcz7_4
      try clear hfz11_0
      try clear hfz11_1
      try clear hfz11_2
      try clear hfz11_3
      try clear hfz11_4
      try clear hfz7_0
      try clear hfz7_1
      try clear hfz7_2
      try clear hfz7_3
      try clear hfz7_4
      try clear HO_472000
      try clear HO_472002
      try clear HO_472004
      try clear BK469
      try clear BK470
      try clear BK471
      try clear HB
      obtain ⟨x4_1, x472000_1, u472000, rfl, HA, HK1, HO_472000, HO_472002, HO_472004, BK469, BK470, BK471, HB⟩ := hrel
      cases gk with
      | zero => exact absurd HA.out (by simp [swarfkit_CopyCar.l0])
      | succ k1 =>
        have H := HA.out
        clear HA
        simp only [swarfkit_CopyCar.l0] at H
        by_cases c23 : x4_1 < (l0_0.length : Int)
        · rw [if_pos c23] at H
          have c23b0 : decide (x4_1 < (l0_0.length : Int)) = true := decide_eq_true c23
          clear c23
          by_cases c24 : 0 ≤ x4_1
          · rw [if_pos c24] at H
            have c24b0 : decide (0 ≤ x4_1) = true := decide_eq_true c24
            clear c24
            replace H := Option.bind_eq_some_iff.mp H
            obtain ⟨t483, A250, H⟩ := H
            replace H : (if x472000_1.length < 2932031007402 then (swarfkit_CopyCar.l0 k1 (wrap64 (x4_1 + 1)) l0_0 a0_1 l0_2 a0_3 l0_4 (x472000_1 ++ [(⟨t483, (rd_T50 l0_0 x4_1).f1, (rd_T50 l0_0 x4_1).f2, (rd_T50 l0_0 x4_1).f3⟩ : S50)]) a0_1 y475 a0_3 t478) else (none)) = some (r1, r2, r3, r4, r5) := H
            have A25 := Aside0.mk A250
            clear A250
            by_cases c26 : x472000_1.length < 2932031007402
            · rw [if_pos c26] at H
              have LMc26 := Aside0.mk c26
              clear c26
              obtain ⟨y486, hy486⟩ : ∃ y_ : List (S50), y_ = (x472000_1 ++ [(⟨t483, (rd_T50 l0_0 x4_1).f1, (rd_T50 l0_0 x4_1).f2, (rd_T50 l0_0 x4_1).f3⟩ : S50)]) := ⟨_, rfl⟩
              replace H : (swarfkit_CopyCar.l0 k1 (wrap64 (x4_1 + 1)) l0_0 a0_1 l0_2 a0_3 l0_4 y486 a0_1 y475 a0_3 t478) = some (r1, r2, r3, r4, r5) := by first | (rw [hy486]; with_reducible exact H) | (have H2_ := (Option.bind_some _ _).symm.trans H; rw [hy486]; with_reducible exact H2_) | (have H2_ := (Option.bind_some _ _).symm.trans H; with_reducible exact H2_) | with_reducible exact H | (rw [hy486]; exact H) | exact H
              have Ny486 := Aside0.mk hy486
              clear hy486
              have H' := Aside0.mk H
              clear H
              have hnb27 := NB469_470.out
              have hnc27 := NB470_469.out
              have hnb28 := NB469_471.out
              have hnc28 := NB471_469.out
              have hcz29_0 : wr.cell? ⟨gb469, 0, none⟩ = some (.slice A0_0 l0_0.length c0_0) := (blk_cell BK469.out 0).trans rfl
              have hcz29_1 : wr.cell? ⟨gb469, 1, none⟩ = some (.int .i64 a0_1) := (blk_cell BK469.out 1).trans rfl
              have hcz29_2 : wr.cell? ⟨gb469, 2, none⟩ = some (.slice A0_2 l0_2.length c0_2) := (blk_cell BK469.out 2).trans rfl
              have hcz29_3 : wr.cell? ⟨gb469, 3, none⟩ = some (.int .i64 a0_3) := (blk_cell BK469.out 3).trans rfl
              have hcz29_4 : wr.cell? ⟨gb469, 4, none⟩ = some (.slice A0_4 l0_4.length c0_4) := (blk_cell BK469.out 4).trans rfl
              have hfz29_0 := blk_frozen BK469.out 0
              have hfz29_1 := blk_frozen BK469.out 1
              have hfz29_2 := blk_frozen BK469.out 2
              have hfz29_3 := blk_frozen BK469.out 3
              have hfz29_4 := blk_frozen BK469.out 4
              have p481 : 0 ≤ (x4_1 : Int) := of_decide_eq_true (by first | (with_reducible assumption) | assumption)
              have q481 : x4_1 < (l0_0.length : Int) := of_decide_eq_true (by first | (with_reducible assumption) | assumption)
              obtain ⟨ad481, A481_0, c481_0, e481, hx481_0, hx481_1, hx481_2, hx481_3, hl481_0, hi481_0⟩ := at_T50 HR0_0.out x4_1 p481 q481
              cases e481
              replace hx481_0 := (HB.out.cell (World.block_lt_of_cell? w _ hx481_0)).trans hx481_0
              replace hx481_1 := (HB.out.cell (World.block_lt_of_cell? w _ hx481_1)).trans hx481_1
              replace hx481_2 := (HB.out.cell (World.block_lt_of_cell? w _ hx481_2)).trans hx481_2
              replace hx481_3 := (HB.out.cell (World.block_lt_of_cell? w _ hx481_3)).trans hx481_3
              have HR481_0 := Aside0.mk hi481_0
              have HC481_0 := Aside0.mk hl481_0
              clear hi481_0 hl481_0
              replace p481 := eq_true p481
              replace q481 := eq_true q481
              go_wp2_with (first | ((with_reducible refine gate_dst (N := 5) rfl ?_); refine box_event ?hg (N := 5) ?hd (cs := #[.slice none 0 0, .bool false, .int .i64 0, .int .i64 0]) (t := 50) ?hr ?_; (case hd => rfl); (case hg => rfl); (case hr => first | (go_simp; done) | (go_simp; rfl)); intro gb482 hg w30 hbox hb; have n0_ := Aside0.mk (Kd.S_below (Kd.S_elderB (by (with_reducible repeat (first | apply Kd.S_alloc | apply Kd.S_drewN | apply Kd.S_drew)); exact HO_472000.out) gb482 (Nat.le_of_eq hg.symm)) hb); have n1_ := Aside0.mk (Kd.R_below (by (with_reducible repeat (first | apply Kd.R_alloc | apply Kd.R_drewN | apply Kd.R_drew)); exact HO_472002.out) hb); have n2_ := Aside0.mk (Kd.R_below (by (with_reducible repeat (first | apply Kd.R_alloc | apply Kd.R_drewN | apply Kd.R_drew)); exact HO_472004.out) hb); have n3_ := Aside0.mk (blk_below (g := gb469) (o := .cells #[.slice (some ad481) l0_0.length c0_0, .int .i64 a0_1, .slice A0_2 l0_2.length c0_2, .int .i64 a0_3, .slice A0_4 l0_4.length c0_4] 26 (0, 0)) (by (with_reducible repeat (first | refine blk_drewN ?_ _ | refine blk_drew ?_ | refine blk_alloc ?_ _)); exact BK469.out) hb); have n4_ := Aside0.mk (blk_below (g := gb470) (o := .cells #[.slice none 0 0, .int .i64 0, .slice none 0 0, .int .i64 0, .slice none 0 0] 26 (0, 0)) (by (with_reducible repeat (first | refine blk_drewN ?_ _ | refine blk_drew ?_ | refine blk_alloc ?_ _)); exact BK470.out) hb); have n5_ := Aside0.mk (blk_below (g := gb471) (o := .cells #[u472000, .int .i64 a0_1, .slice Ao19 y475.length co19, .int .i64 a0_3, .slice Ao21 t478.length co21] 26 (0, 0)) (by (with_reducible repeat (first | refine blk_drewN ?_ _ | refine blk_drew ?_ | refine blk_alloc ?_ _)); exact BK471.out) hb); have n6_ := Aside0.mk (below_step (by repeat (first | (with_reducible first | exact HB.out | apply below_alloc | apply pw_below_drewN | apply below_drew1 | refine below_set ?_ GE469.out | refine below_set ?_ GE470.out | refine below_set ?_ GE471.out) | exact HB.out)) hb); have n7_ := Aside0.mk (hbox); have n8_ := Aside0.mk ((by rw [hg]; exact (below_size (by repeat (first | (with_reducible first | exact HB.out | apply below_alloc | apply pw_below_drewN | apply below_drew1 | refine below_set ?_ GE469.out | refine below_set ?_ GE470.out | refine below_set ?_ GE471.out) | exact HB.out))) : w.heap.size ≤ gb482)); have n9_ := Aside0.mk ((by rw [hg]; exact (below_size (by repeat (first | (with_reducible first | exact HB.out | apply below_alloc | apply pw_below_drewN | apply below_drew1 | refine below_set ?_ GE469.out | refine below_set ?_ GE470.out | refine below_set ?_ GE471.out) | exact HB.out))) : w.heap.size ≤ gb482)); have n10_ := Aside0.mk ((by rw [hg]; exact Nat.ne_of_lt (blk_lt (g := gb469) (o := .cells #[.slice (some ad481) l0_0.length c0_0, .int .i64 a0_1, .slice A0_2 l0_2.length c0_2, .int .i64 a0_3, .slice A0_4 l0_4.length c0_4] 26 (0, 0)) (by (with_reducible repeat (first | refine blk_drewN ?_ _ | refine blk_drew ?_ | refine blk_alloc ?_ _)); exact BK469.out)) : gb469 ≠ gb482)); have n11_ := Aside0.mk ((by rw [hg]; exact Nat.ne_of_gt (blk_lt (g := gb469) (o := .cells #[.slice (some ad481) l0_0.length c0_0, .int .i64 a0_1, .slice A0_2 l0_2.length c0_2, .int .i64 a0_3, .slice A0_4 l0_4.length c0_4] 26 (0, 0)) (by (with_reducible repeat (first | refine blk_drewN ?_ _ | refine blk_drew ?_ | refine blk_alloc ?_ _)); exact BK469.out)) : gb482 ≠ gb469)); have n12_ := Aside0.mk ((by rw [hg]; exact Nat.ne_of_lt (blk_lt (g := gb470) (o := .cells #[.slice none 0 0, .int .i64 0, .slice none 0 0, .int .i64 0, .slice none 0 0] 26 (0, 0)) (by (with_reducible repeat (first | refine blk_drewN ?_ _ | refine blk_drew ?_ | refine blk_alloc ?_ _)); exact BK470.out)) : gb470 ≠ gb482)); have n13_ := Aside0.mk ((by rw [hg]; exact Nat.ne_of_gt (blk_lt (g := gb470) (o := .cells #[.slice none 0 0, .int .i64 0, .slice none 0 0, .int .i64 0, .slice none 0 0] 26 (0, 0)) (by (with_reducible repeat (first | refine blk_drewN ?_ _ | refine blk_drew ?_ | refine blk_alloc ?_ _)); exact BK470.out)) : gb482 ≠ gb470)); have n14_ := Aside0.mk ((by rw [hg]; exact Nat.ne_of_lt (blk_lt (g := gb471) (o := .cells #[u472000, .int .i64 a0_1, .slice Ao19 y475.length co19, .int .i64 a0_3, .slice Ao21 t478.length co21] 26 (0, 0)) (by (with_reducible repeat (first | refine blk_drewN ?_ _ | refine blk_drew ?_ | refine blk_alloc ?_ _)); exact BK471.out)) : gb471 ≠ gb482)); have n15_ := Aside0.mk ((by rw [hg]; exact Nat.ne_of_gt (blk_lt (g := gb471) (o := .cells #[u472000, .int .i64 a0_1, .slice Ao19 y475.length co19, .int .i64 a0_3, .slice Ao21 t478.length co21] 26 (0, 0)) (by (with_reducible repeat (first | refine blk_drewN ?_ _ | refine blk_drew ?_ | refine blk_alloc ?_ _)); exact BK471.out)) : gb482 ≠ gb471)); clear HO_472000; clear HO_472002; clear HO_472004; clear BK469; clear BK470; clear BK471; clear HB; have HO_472000 := n0_; have HO_472002 := n1_; have HO_472004 := n2_; have BK469 := n3_; have BK470 := n4_; have BK471 := n5_; have HB := n6_; have BK482 := n7_; have GW482 := n8_; have GE482 := n9_; have NB469_482 := n10_; have NB482_469 := n11_; have NB470_482 := n12_; have NB482_470 := n13_; have NB471_482 := n14_; have NB482_471 := n15_; clear n0_ n1_ n2_ n3_ n4_ n5_ n6_ n7_ n8_ n9_ n10_ n11_ n12_ n13_ n14_ n15_; clear hb hbox hg; have hnb31 := NB482_469.out; have hnc31 := NB469_482.out; have hnb32 := NB482_470.out; have hnc32 := NB470_482.out; have hnb33 := NB482_471.out; have hnc33 := NB471_482.out; have hcz34_0 : w30.cell? ⟨gb482, 0, none⟩ = some (.slice none 0 0) := (blk_cell BK482.out 0).trans rfl; have hcz34_1 : w30.cell? ⟨gb482, 1, none⟩ = some (.bool false) := (blk_cell BK482.out 1).trans rfl; have hcz34_2 : w30.cell? ⟨gb482, 2, none⟩ = some (.int .i64 0) := (blk_cell BK482.out 2).trans rfl; have hcz34_3 : w30.cell? ⟨gb482, 3, none⟩ = some (.int .i64 0) := (blk_cell BK482.out 3).trans rfl; have hfz34_0 := blk_frozen BK482.out 0; have hfz34_1 := blk_frozen BK482.out 1; have hfz34_2 := blk_frozen BK482.out 2; have hfz34_3 := blk_frozen BK482.out 3) | ((with_reducible refine gate_callee (f := 43) rfl ?_); refine goesL_ (some 31) rfl rfl Try.func43 (by kernel_rfl) rfl #[.slice A481_0 ((rd_T50 l0_0 x4_1).f0).length c481_0] rfl (by (try simp only [List.map_toArray, List.map_cons, List.map_nil]); first | done | rfl | (simp only [List.length_drop, List.length_take]; rfl)) ?_; (with_reducible refine (swarfkit_Ints.calls _ _ ((rd_T50 l0_0 x4_1).f0) t483 _ ?side1 ?side2 A25.out).mono ?_); (case side1 => exact Kd.C_below HR481_0.out (by repeat (first | (with_reducible first | exact HB.out | apply below_alloc | apply pw_below_drewN | apply below_drew1 | refine below_set ?_ GE469.out | refine below_set ?_ GE470.out | refine below_set ?_ GE471.out | refine below_set ?_ GE482.out) | exact HB.out))); (case side2 => exact HC481_0.out); rintro e w35 ⟨v484, rfl, ho0, hb⟩; refine ⟨_, rfl, ?_⟩; have n0_ := Aside0.mk (Kd.S_elder' (by (with_reducible repeat (first | apply Kd.S_alloc | apply Kd.S_drewN | apply Kd.S_drew)); exact (Kd.S_mono (Kd.S_far (p := ⟨gb482, 3, none⟩) (Kd.S_far (p := ⟨gb482, 2, none⟩) (Kd.S_far (p := ⟨gb482, 1, none⟩) (Kd.S_far (p := ⟨gb482, 0, none⟩) (Kd.S_mono HO_472000.out (fun k_ hk => (⟨hk, hk.2⟩ : _ ∧ k_ ≠ gb482))) (fun _ hk => hk.2) (.slice A481_0 ((rd_T50 l0_0 x4_1).f0).length c481_0)) (fun _ hk => hk.2) (.bool ((rd_T50 l0_0 x4_1).f1))) (fun _ hk => hk.2) (.int .i64 ((rd_T50 l0_0 x4_1).f2))) (fun _ hk => hk.2) (.int .i64 ((rd_T50 l0_0 x4_1).f3))) (fun _ h_ => h_.1))) (Kd.R_base ho0) hb); have n1_ := Aside0.mk (Kd.R_below (by (with_reducible repeat (first | apply Kd.R_alloc | apply Kd.R_drewN | apply Kd.R_drew)); exact (Kd.R_mono (Kd.R_far (p := ⟨gb482, 3, none⟩) (Kd.R_far (p := ⟨gb482, 2, none⟩) (Kd.R_far (p := ⟨gb482, 1, none⟩) (Kd.R_far (p := ⟨gb482, 0, none⟩) (Kd.R_types HO_472002.out BK482.out (by decide)) (fun _ hk => hk.2) (.slice A481_0 ((rd_T50 l0_0 x4_1).f0).length c481_0)) (fun _ hk => hk.2) (.bool ((rd_T50 l0_0 x4_1).f1))) (fun _ hk => hk.2) (.int .i64 ((rd_T50 l0_0 x4_1).f2))) (fun _ hk => hk.2) (.int .i64 ((rd_T50 l0_0 x4_1).f3))) (fun _ h_ => h_.1))) hb); have n2_ := Aside0.mk (Kd.R_elder' (by (with_reducible repeat (first | apply Kd.R_alloc | apply Kd.R_drewN | apply Kd.R_drew)); exact (Kd.R_mono (Kd.R_far (p := ⟨gb482, 3, none⟩) (Kd.R_far (p := ⟨gb482, 2, none⟩) (Kd.R_far (p := ⟨gb482, 1, none⟩) (Kd.R_far (p := ⟨gb482, 0, none⟩) (Kd.R_types HO_472004.out BK482.out (by decide)) (fun _ hk => hk.2) (.slice A481_0 ((rd_T50 l0_0 x4_1).f0).length c481_0)) (fun _ hk => hk.2) (.bool ((rd_T50 l0_0 x4_1).f1))) (fun _ hk => hk.2) (.int .i64 ((rd_T50 l0_0 x4_1).f2))) (fun _ hk => hk.2) (.int .i64 ((rd_T50 l0_0 x4_1).f3))) (fun _ h_ => h_.1))) (Kd.R_base ho0) hb); have n3_ := Aside0.mk (Kd.R_lower (Kd.R_new' ho0 (Kd.R_lt (by (with_reducible repeat (first | apply Kd.R_alloc | apply Kd.R_drewN | apply Kd.R_drew)); exact (Kd.R_mono (Kd.R_far (p := ⟨gb482, 3, none⟩) (Kd.R_far (p := ⟨gb482, 2, none⟩) (Kd.R_far (p := ⟨gb482, 1, none⟩) (Kd.R_far (p := ⟨gb482, 0, none⟩) (Kd.R_types HO_472004.out BK482.out (by decide)) (fun _ hk => hk.2) (.slice A481_0 ((rd_T50 l0_0 x4_1).f0).length c481_0)) (fun _ hk => hk.2) (.bool ((rd_T50 l0_0 x4_1).f1))) (fun _ hk => hk.2) (.int .i64 ((rd_T50 l0_0 x4_1).f2))) (fun _ hk => hk.2) (.int .i64 ((rd_T50 l0_0 x4_1).f3))) (fun _ h_ => h_.1))))) (below_size (by repeat (first | (with_reducible first | exact HB.out | apply below_alloc | apply pw_below_drewN | apply below_drew1 | refine below_set ?_ GE469.out | refine below_set ?_ GE470.out | refine below_set ?_ GE471.out | refine below_set ?_ GE482.out) | exact HB.out)))); have n4_ := Aside0.mk (blk_below (g := gb469) (o := .cells #[.slice (some ad481) l0_0.length c0_0, .int .i64 a0_1, .slice A0_2 l0_2.length c0_2, .int .i64 a0_3, .slice A0_4 l0_4.length c0_4] 26 (0, 0)) (by (with_reducible repeat (first | refine blk_drewN ?_ _ | refine blk_drew ?_ | refine blk_alloc ?_ _)); refine blk_far ?_ NB469_482.out _; (with_reducible repeat (first | refine blk_drewN ?_ _ | refine blk_drew ?_ | refine blk_alloc ?_ _)); refine blk_far ?_ NB469_482.out _; (with_reducible repeat (first | refine blk_drewN ?_ _ | refine blk_drew ?_ | refine blk_alloc ?_ _)); refine blk_far ?_ NB469_482.out _; (with_reducible repeat (first | refine blk_drewN ?_ _ | refine blk_drew ?_ | refine blk_alloc ?_ _)); refine blk_far ?_ NB469_482.out _; (with_reducible repeat (first | refine blk_drewN ?_ _ | refine blk_drew ?_ | refine blk_alloc ?_ _)); exact BK469.out) hb); have n5_ := Aside0.mk (blk_below (g := gb470) (o := .cells #[.slice none 0 0, .int .i64 0, .slice none 0 0, .int .i64 0, .slice none 0 0] 26 (0, 0)) (by (with_reducible repeat (first | refine blk_drewN ?_ _ | refine blk_drew ?_ | refine blk_alloc ?_ _)); refine blk_far ?_ NB470_482.out _; (with_reducible repeat (first | refine blk_drewN ?_ _ | refine blk_drew ?_ | refine blk_alloc ?_ _)); refine blk_far ?_ NB470_482.out _; (with_reducible repeat (first | refine blk_drewN ?_ _ | refine blk_drew ?_ | refine blk_alloc ?_ _)); refine blk_far ?_ NB470_482.out _; (with_reducible repeat (first | refine blk_drewN ?_ _ | refine blk_drew ?_ | refine blk_alloc ?_ _)); refine blk_far ?_ NB470_482.out _; (with_reducible repeat (first | refine blk_drewN ?_ _ | refine blk_drew ?_ | refine blk_alloc ?_ _)); exact BK470.out) hb); have n6_ := Aside0.mk (blk_below (g := gb471) (o := .cells #[u472000, .int .i64 a0_1, .slice Ao19 y475.length co19, .int .i64 a0_3, .slice Ao21 t478.length co21] 26 (0, 0)) (by (with_reducible repeat (first | refine blk_drewN ?_ _ | refine blk_drew ?_ | refine blk_alloc ?_ _)); refine blk_far ?_ NB471_482.out _; (with_reducible repeat (first | refine blk_drewN ?_ _ | refine blk_drew ?_ | refine blk_alloc ?_ _)); refine blk_far ?_ NB471_482.out _; (with_reducible repeat (first | refine blk_drewN ?_ _ | refine blk_drew ?_ | refine blk_alloc ?_ _)); refine blk_far ?_ NB471_482.out _; (with_reducible repeat (first | refine blk_drewN ?_ _ | refine blk_drew ?_ | refine blk_alloc ?_ _)); refine blk_far ?_ NB471_482.out _; (with_reducible repeat (first | refine blk_drewN ?_ _ | refine blk_drew ?_ | refine blk_alloc ?_ _)); exact BK471.out) hb); have n7_ := Aside0.mk (blk_below (g := gb482) (o := .cells #[.slice A481_0 ((rd_T50 l0_0 x4_1).f0).length c481_0, .bool ((rd_T50 l0_0 x4_1).f1), .int .i64 ((rd_T50 l0_0 x4_1).f2), .int .i64 ((rd_T50 l0_0 x4_1).f3)] 50 (0, 0)) (by (with_reducible repeat (first | refine blk_drewN ?_ _ | refine blk_drew ?_ | refine blk_alloc ?_ _)); refine blk_put (cs := #[.slice A481_0 ((rd_T50 l0_0 x4_1).f0).length c481_0, .bool ((rd_T50 l0_0 x4_1).f1), .int .i64 ((rd_T50 l0_0 x4_1).f2), .int .i64 0]) ?_ 3 _ rfl; (with_reducible repeat (first | refine blk_drewN ?_ _ | refine blk_drew ?_ | refine blk_alloc ?_ _)); refine blk_put (cs := #[.slice A481_0 ((rd_T50 l0_0 x4_1).f0).length c481_0, .bool ((rd_T50 l0_0 x4_1).f1), .int .i64 0, .int .i64 0]) ?_ 2 _ rfl; (with_reducible repeat (first | refine blk_drewN ?_ _ | refine blk_drew ?_ | refine blk_alloc ?_ _)); refine blk_put (cs := #[.slice A481_0 ((rd_T50 l0_0 x4_1).f0).length c481_0, .bool false, .int .i64 0, .int .i64 0]) ?_ 1 _ rfl; (with_reducible repeat (first | refine blk_drewN ?_ _ | refine blk_drew ?_ | refine blk_alloc ?_ _)); refine blk_put (cs := #[.slice none 0 0, .bool false, .int .i64 0, .int .i64 0]) ?_ 0 _ rfl; (with_reducible repeat (first | refine blk_drewN ?_ _ | refine blk_drew ?_ | refine blk_alloc ?_ _)); exact BK482.out) hb); have n8_ := Aside0.mk (below_step (by repeat (first | (with_reducible first | exact HB.out | apply below_alloc | apply pw_below_drewN | apply below_drew1 | refine below_set ?_ GE469.out | refine below_set ?_ GE470.out | refine below_set ?_ GE471.out | refine below_set ?_ GE482.out) | exact HB.out)) hb); clear HO_472000; clear HO_472002; clear HO_472004; clear BK469; clear BK470; clear BK471; clear BK482; clear HB; have HO_472000 := n0_; have HO_472002 := n1_; have HO_472004 := n2_; have HO485 := n3_; have BK469 := n4_; have BK470 := n5_; have BK471 := n6_; have BK482 := n7_; have HB := n8_; clear n0_ n1_ n2_ n3_ n4_ n5_ n6_ n7_ n8_; (try clear hb); (try clear hb2); (try clear hk); (try clear hi); (try clear ho0); obtain ⟨Ao36, co36, eo36⟩ := Kd.R_slice HO485.out; subst eo36; have hcz37_0 : w35.cell? ⟨gb482, 0, none⟩ = some (.slice A481_0 ((rd_T50 l0_0 x4_1).f0).length c481_0) := (blk_cell BK482.out 0).trans rfl; have hcz37_1 : w35.cell? ⟨gb482, 1, none⟩ = some (.bool ((rd_T50 l0_0 x4_1).f1)) := (blk_cell BK482.out 1).trans rfl; have hcz37_2 : w35.cell? ⟨gb482, 2, none⟩ = some (.int .i64 ((rd_T50 l0_0 x4_1).f2)) := (blk_cell BK482.out 2).trans rfl; have hcz37_3 : w35.cell? ⟨gb482, 3, none⟩ = some (.int .i64 ((rd_T50 l0_0 x4_1).f3)) := (blk_cell BK482.out 3).trans rfl; have hfz37_0 := blk_frozen BK482.out 0; have hfz37_1 := blk_frozen BK482.out 1; have hfz37_2 := blk_frozen BK482.out 2; have hfz37_3 := blk_frozen BK482.out 3) | ((with_reducible refine gate_store (t := 24) (p := 32) rfl ?_); refine store_event (t := 24) (p := 32) (v := ?vo_w38) (w1 := (w35.setCell ⟨gb482, 0, none⟩ (.slice Ao36 t483.length co36))) ?hg ?ho ?hn ?hr ?_; (case ho => rfl); (case hg => rfl); (case hn => rfl); (case hr => first | (go_simp; done) | (go_simp; rfl)); intro w38 hw; have n0_ : Aside0 (Kd.S k50 50 w38 w.heap.size (fun k_ => some k_ ≠ (.slice Ao21 t478.length co21 : Value).ownBlock ∧ some k_ ≠ (.slice Ao36 t483.length co36 : Value).ownBlock ∧ k_ ≠ gb482) u472000 x472000_1) := ⟨(by rw [hw]; exact (by (with_reducible repeat (first | apply Kd.S_alloc | apply Kd.S_drewN | apply Kd.S_drew)); exact Kd.S_mono (Kd.S_far (p := ⟨gb482, 0, none⟩) (Kd.S_mono HO_472000.out (fun k_ hk => (⟨hk, hk.1.2⟩ : _ ∧ k_ ≠ gb482))) (fun _ hk => hk.2) (.slice Ao36 t483.length co36)) (fun _ hk => ⟨hk.1.1.1, ⟨hk.1.2, hk.1.1.2⟩⟩)))⟩; have n1_ : Aside0 (Kd.R k61 61 w38 w.heap.size (fun _ => True) (.slice Ao19 y475.length co19) y475) := ⟨(by rw [hw]; exact (by (with_reducible repeat (first | apply Kd.R_alloc | apply Kd.R_drewN | apply Kd.R_drew)); exact Kd.R_mono (Kd.R_far (p := ⟨gb482, 0, none⟩) (Kd.R_types HO_472002.out BK482.out (by decide)) (fun _ hk => hk.2) (.slice Ao36 t483.length co36)) (fun _ hk => trivial)))⟩; have n2_ : Aside0 (Kd.R (Kd.int .i64) 3 w38 w.heap.size (fun k_ => some k_ ≠ (.slice Ao36 t483.length co36 : Value).ownBlock) (.slice Ao21 t478.length co21) t478) := ⟨(by rw [hw]; exact (by (with_reducible repeat (first | apply Kd.R_alloc | apply Kd.R_drewN | apply Kd.R_drew)); exact Kd.R_mono (Kd.R_far (p := ⟨gb482, 0, none⟩) (Kd.R_types HO_472004.out BK482.out (by decide)) (fun _ hk => hk.2) (.slice Ao36 t483.length co36)) (fun _ hk => hk.1.2)))⟩; have n3_ : Aside0 (Kd.R (Kd.int .i64) 3 w38 w.heap.size (fun k_ => some k_ ≠ (.slice Ao21 t478.length co21 : Value).ownBlock) (.slice Ao36 t483.length co36) t483) := ⟨(by rw [hw]; exact (by (with_reducible repeat (first | apply Kd.R_alloc | apply Kd.R_drewN | apply Kd.R_drew)); exact Kd.R_mono (Kd.R_far (p := ⟨gb482, 0, none⟩) (Kd.R_types HO485.out BK482.out (by decide)) (fun _ hk => hk.2) (.slice Ao36 t483.length co36)) (fun _ hk => hk.1.2)))⟩; have n4_ : Aside0 (w38.heap[gb469]? = some (.cells #[.slice (some ad481) l0_0.length c0_0, .int .i64 a0_1, .slice A0_2 l0_2.length c0_2, .int .i64 a0_3, .slice A0_4 l0_4.length c0_4] 26 (0, 0))) := ⟨(by rw [hw]; exact (by (with_reducible repeat (first | refine blk_drewN ?_ _ | refine blk_drew ?_ | refine blk_alloc ?_ _)); refine blk_far ?_ NB469_482.out _; (with_reducible repeat (first | refine blk_drewN ?_ _ | refine blk_drew ?_ | refine blk_alloc ?_ _)); exact BK469.out))⟩; have n5_ : Aside0 (w38.heap[gb470]? = some (.cells #[.slice none 0 0, .int .i64 0, .slice none 0 0, .int .i64 0, .slice none 0 0] 26 (0, 0))) := ⟨(by rw [hw]; exact (by (with_reducible repeat (first | refine blk_drewN ?_ _ | refine blk_drew ?_ | refine blk_alloc ?_ _)); refine blk_far ?_ NB470_482.out _; (with_reducible repeat (first | refine blk_drewN ?_ _ | refine blk_drew ?_ | refine blk_alloc ?_ _)); exact BK470.out))⟩; have n6_ : Aside0 (w38.heap[gb471]? = some (.cells #[u472000, .int .i64 a0_1, .slice Ao19 y475.length co19, .int .i64 a0_3, .slice Ao21 t478.length co21] 26 (0, 0))) := ⟨(by rw [hw]; exact (by (with_reducible repeat (first | refine blk_drewN ?_ _ | refine blk_drew ?_ | refine blk_alloc ?_ _)); refine blk_far ?_ NB471_482.out _; (with_reducible repeat (first | refine blk_drewN ?_ _ | refine blk_drew ?_ | refine blk_alloc ?_ _)); exact BK471.out))⟩; have n7_ : Aside0 (w38.heap[gb482]? = some (.cells #[.slice Ao36 t483.length co36, .bool ((rd_T50 l0_0 x4_1).f1), .int .i64 ((rd_T50 l0_0 x4_1).f2), .int .i64 ((rd_T50 l0_0 x4_1).f3)] 50 (0, 0))) := ⟨(by rw [hw]; exact (by (with_reducible repeat (first | refine blk_drewN ?_ _ | refine blk_drew ?_ | refine blk_alloc ?_ _)); refine blk_put (cs := #[.slice A481_0 ((rd_T50 l0_0 x4_1).f0).length c481_0, .bool ((rd_T50 l0_0 x4_1).f1), .int .i64 ((rd_T50 l0_0 x4_1).f2), .int .i64 ((rd_T50 l0_0 x4_1).f3)]) ?_ 0 _ rfl; (with_reducible repeat (first | refine blk_drewN ?_ _ | refine blk_drew ?_ | refine blk_alloc ?_ _)); exact BK482.out))⟩; have n8_ : Aside0 (Below w.heap.size w w38) := ⟨(by rw [hw]; exact (by repeat (first | (with_reducible first | exact HB.out | apply below_alloc | apply pw_below_drewN | apply below_drew1 | refine below_set ?_ GE469.out | refine below_set ?_ GE470.out | refine below_set ?_ GE471.out | refine below_set ?_ GE482.out) | exact HB.out)))⟩; clear hw; clear HO_472000; clear HO_472002; clear HO_472004; clear HO485; clear BK469; clear BK470; clear BK471; clear BK482; clear HB; have HO_472000 := n0_; have HO_472002 := n1_; have HO_472004 := n2_; have HO485 := n3_; have BK469 := n4_; have BK470 := n5_; have BK471 := n6_; have BK482 := n7_; have HB := n8_; clear n0_ n1_ n2_ n3_ n4_ n5_ n6_ n7_ n8_; have hnb39 := NB471_470.out; have hnc39 := NB470_471.out; have hcz40_0 : w38.cell? ⟨gb471, 0, none⟩ = some (u472000) := (blk_cell BK471.out 0).trans rfl; have hcz40_1 : w38.cell? ⟨gb471, 1, none⟩ = some (.int .i64 a0_1) := (blk_cell BK471.out 1).trans rfl; have hcz40_2 : w38.cell? ⟨gb471, 2, none⟩ = some (.slice Ao19 y475.length co19) := (blk_cell BK471.out 2).trans rfl; have hcz40_3 : w38.cell? ⟨gb471, 3, none⟩ = some (.int .i64 a0_3) := (blk_cell BK471.out 3).trans rfl; have hcz40_4 : w38.cell? ⟨gb471, 4, none⟩ = some (.slice Ao21 t478.length co21) := (blk_cell BK471.out 4).trans rfl; have hfz40_0 := blk_frozen BK471.out 0; have hfz40_1 := blk_frozen BK471.out 1; have hfz40_2 := blk_frozen BK471.out 2; have hfz40_3 := blk_frozen BK471.out 3; have hfz40_4 := blk_frozen BK471.out 4; have hcz41_0 : w38.cell? ⟨gb482, 0, none⟩ = some (.slice Ao36 t483.length co36) := (blk_cell BK482.out 0).trans rfl; have hcz41_1 : w38.cell? ⟨gb482, 1, none⟩ = some (.bool ((rd_T50 l0_0 x4_1).f1)) := (blk_cell BK482.out 1).trans rfl; have hcz41_2 : w38.cell? ⟨gb482, 2, none⟩ = some (.int .i64 ((rd_T50 l0_0 x4_1).f2)) := (blk_cell BK482.out 2).trans rfl; have hcz41_3 : w38.cell? ⟨gb482, 3, none⟩ = some (.int .i64 ((rd_T50 l0_0 x4_1).f3)) := (blk_cell BK482.out 3).trans rfl; have hfz41_0 := blk_frozen BK482.out 0; have hfz41_1 := blk_frozen BK482.out 1; have hfz41_2 := blk_frozen BK482.out 2; have hfz41_3 := blk_frozen BK482.out 3) | ((with_reducible refine gate_builtin (b := .append) (xs := #[.tmp 34, .tmp 36]) rfl ?_); at_builtin; refine Kd.S_append k50 (w0 := w) w.heap.size rfl (.tmp 34) (.tmp 36) 22 50 (.agg #[(.slice none 0 0), (.bool false), (.int .i64 0), (.int .i64 0)]) 48 rfl Try.underlying22 info50 rfl (by decide) (by omega) u472000 x472000_1 (⟨t483, (rd_T50 l0_0 x4_1).f1, (rd_T50 l0_0 x4_1).f2, (rd_T50 l0_0 x4_1).f3⟩ : S50) [.slice Ao36 t483.length co36, .bool ((rd_T50 l0_0 x4_1).f1), .int .i64 ((rd_T50 l0_0 x4_1).f2), .int .i64 ((rd_T50 l0_0 x4_1).f3)] (fun k_ => some k_ ≠ (.slice Ao21 t478.length co21 : Value).ownBlock ∧ k_ ≠ gb482) (fun k_ => some k_ = (.slice Ao36 t483.length co36 : Value).ownBlock) rfl rfl ?aP (fun k_ hk_ => ((Kd.R_mono (ok' := fun k_ => ((fun k_ => some k_ ≠ (.slice Ao21 t478.length co21 : Value).ownBlock ∧ k_ ≠ gb482)) k_ ∧ some k_ ≠ (u472000 : Value).ownBlock) (Kd.R_types (Kd.R_apart' (HO485.out) (Kd.S_typed HO_472000.out) (by decide)) BK482.out (by decide)) (fun k_ hk => ⟨⟨hk.1.1, hk.2⟩, hk.1.2⟩))).1 k_ hk_.symm) ?aF ?aO ?aB ?aS ?aL ?_; (case aP => exact k50_mkM _ _ _ (⟨t483, (rd_T50 l0_0 x4_1).f1, (rd_T50 l0_0 x4_1).f2, (rd_T50 l0_0 x4_1).f3⟩ : S50) (Kd.R_mono (Kd.R_tight rfl (Kd.R_mono (ok' := fun k_ => ((fun k_ => some k_ ≠ (.slice Ao21 t478.length co21 : Value).ownBlock ∧ k_ ≠ gb482)) k_ ∧ some k_ ≠ (u472000 : Value).ownBlock) (Kd.R_types (Kd.R_apart' (HO485.out) (Kd.S_typed HO_472000.out) (by decide)) BK482.out (by decide)) (fun k_ hk => ⟨⟨hk.1.1, hk.2⟩, hk.1.2⟩))) (fun _ h_ => h_))); (case aB => exact (by repeat (first | (with_reducible first | exact HB.out | apply below_alloc | apply pw_below_drewN | apply below_drew1 | refine below_set ?_ GE469.out | refine below_set ?_ GE470.out | refine below_set ?_ GE471.out | refine below_set ?_ GE482.out) | exact HB.out))); (case aF => exact (fun k_ hk => ⟨Kd.fresh' (Kd.R_lt (by (with_reducible repeat (first | apply Kd.R_alloc | apply Kd.R_drewN | apply Kd.R_drew)); exact HO_472004.out)) k_ hk, Kd.freshB (g := gb482) (o := .cells #[.slice Ao36 t483.length co36, .bool ((rd_T50 l0_0 x4_1).f1), .int .i64 ((rd_T50 l0_0 x4_1).f2), .int .i64 ((rd_T50 l0_0 x4_1).f3)] 50 (0, 0)) (by (with_reducible repeat (first | refine blk_drewN ?_ _ | refine blk_drew ?_ | refine blk_alloc ?_ _)); exact BK482.out) k_ hk⟩)); (case aO => exact (by (with_reducible repeat (first | apply Kd.S_alloc | apply Kd.S_drewN | apply Kd.S_drew)); exact Kd.S_mono HO_472000.out (fun k_ hk => ⟨⟨hk.1, hk.2.2⟩, fun e_ => hk.2.1 e_⟩))); (case aS => exact (below_size (by repeat (first | (with_reducible first | exact HB.out | apply below_alloc | apply pw_below_drewN | apply below_drew1 | refine below_set ?_ GE469.out | refine below_set ?_ GE470.out | refine below_set ?_ GE471.out | refine below_set ?_ GE482.out) | exact HB.out)))); (case aL => have := LMc26.out; omega); intro v487 w42 ho hb hg hat; rw [← Ny486.out] at ho; have n0_ := Aside0.mk (Kd.R_over' (by (with_reducible repeat (first | apply Kd.R_alloc | apply Kd.R_drewN | apply Kd.R_drew)); exact HO_472002.out) (Kd.S_typed (by (with_reducible repeat (first | apply Kd.S_alloc | apply Kd.S_drewN | apply Kd.S_drew)); exact HO_472000.out)) (by decide) hg); have n1_ := Aside0.mk (Kd.R_over' (by (with_reducible repeat (first | apply Kd.R_alloc | apply Kd.R_drewN | apply Kd.R_drew)); exact HO_472004.out) (Kd.S_typed (by (with_reducible repeat (first | apply Kd.S_alloc | apply Kd.S_drewN | apply Kd.S_drew)); exact HO_472000.out)) (by decide) hg); have n2_ := Aside0.mk (blk_grown (g := gb469) (o := .cells #[.slice (some ad481) l0_0.length c0_0, .int .i64 a0_1, .slice A0_2 l0_2.length c0_2, .int .i64 a0_3, .slice A0_4 l0_4.length c0_4] 26 (0, 0)) (by (with_reducible repeat (first | refine blk_drewN ?_ _ | refine blk_drew ?_ | refine blk_alloc ?_ _)); exact BK469.out) hg (Kd.S_ne HO_472000.out BK469.out (by decide))); have n3_ := Aside0.mk (blk_grown (g := gb470) (o := .cells #[.slice none 0 0, .int .i64 0, .slice none 0 0, .int .i64 0, .slice none 0 0] 26 (0, 0)) (by (with_reducible repeat (first | refine blk_drewN ?_ _ | refine blk_drew ?_ | refine blk_alloc ?_ _)); exact BK470.out) hg (Kd.S_ne HO_472000.out BK470.out (by decide))); have n4_ := Aside0.mk (blk_grown (g := gb471) (o := .cells #[u472000, .int .i64 a0_1, .slice Ao19 y475.length co19, .int .i64 a0_3, .slice Ao21 t478.length co21] 26 (0, 0)) (by (with_reducible repeat (first | refine blk_drewN ?_ _ | refine blk_drew ?_ | refine blk_alloc ?_ _)); exact BK471.out) hg (Kd.S_ne HO_472000.out BK471.out (by decide))); have n5_ := Aside0.mk (blk_grown (g := gb482) (o := .cells #[.slice Ao36 t483.length co36, .bool ((rd_T50 l0_0 x4_1).f1), .int .i64 ((rd_T50 l0_0 x4_1).f2), .int .i64 ((rd_T50 l0_0 x4_1).f3)] 50 (0, 0)) (by (with_reducible repeat (first | refine blk_drewN ?_ _ | refine blk_drew ?_ | refine blk_alloc ?_ _)); exact BK482.out) hg (Kd.S_away HO_472000.out (fun _ hk => hk.2.2))); have n6_ := Aside0.mk (hb); have n7_ := Aside0.mk (ho); clear HO_472002; clear HO_472004; clear BK469; clear BK470; clear BK471; clear BK482; clear HB; clear HO_472000; clear HO485; have HO_472002 := n0_; have HO_472004 := n1_; have BK469 := n2_; have BK470 := n3_; have BK471 := n4_; have BK482 := n5_; have HB := n6_; have HO488 := n7_; clear n0_ n1_ n2_ n3_ n4_ n5_ n6_ n7_; clear ho hb hg hat; obtain ⟨Ao43, co43, eo43⟩ := Kd.S_slice HO488.out; subst eo43; have hcz44_0 : w42.cell? ⟨gb471, 0, none⟩ = some (u472000) := (blk_cell BK471.out 0).trans rfl; have hcz44_1 : w42.cell? ⟨gb471, 1, none⟩ = some (.int .i64 a0_1) := (blk_cell BK471.out 1).trans rfl; have hcz44_2 : w42.cell? ⟨gb471, 2, none⟩ = some (.slice Ao19 y475.length co19) := (blk_cell BK471.out 2).trans rfl; have hcz44_3 : w42.cell? ⟨gb471, 3, none⟩ = some (.int .i64 a0_3) := (blk_cell BK471.out 3).trans rfl; have hcz44_4 : w42.cell? ⟨gb471, 4, none⟩ = some (.slice Ao21 t478.length co21) := (blk_cell BK471.out 4).trans rfl; have hfz44_0 := blk_frozen BK471.out 0; have hfz44_1 := blk_frozen BK471.out 1; have hfz44_2 := blk_frozen BK471.out 2; have hfz44_3 := blk_frozen BK471.out 3; have hfz44_4 := blk_frozen BK471.out 4))
              go_roundg k1
              case measure => have := HK1.out; omega
              case rel => exact ⟨(wrap64 (x4_1 + 1)), (y486), (.slice Ao43 y486.length co43), (by first | rfl | (simp; done) | (simp [*]; done)), H', ⟨by have := HK1.out; omega⟩, ⟨by (with_reducible repeat (first | apply Kd.S_alloc | apply Kd.S_drewN | apply Kd.S_drew)); exact Kd.S_mono (Kd.S_far (p := ⟨gb471, 0, none⟩) (Kd.S_types HO488.out BK471.out (by decide)) (fun _ hk => hk.2) (.slice Ao43 y486.length co43)) (fun _ hk => hk.1.1)⟩, ⟨by (with_reducible repeat (first | apply Kd.R_alloc | apply Kd.R_drewN | apply Kd.R_drew)); exact Kd.R_mono (Kd.R_far (p := ⟨gb471, 0, none⟩) (Kd.R_types HO_472002.out BK471.out (by decide)) (fun _ hk => hk.2) (.slice Ao43 y486.length co43)) (fun _ hk => trivial)⟩, ⟨by (with_reducible repeat (first | apply Kd.R_alloc | apply Kd.R_drewN | apply Kd.R_drew)); exact Kd.R_mono (Kd.R_far (p := ⟨gb471, 0, none⟩) (Kd.R_types HO_472004.out BK471.out (by decide)) (fun _ hk => hk.2) (.slice Ao43 y486.length co43)) (fun _ hk => trivial)⟩, ⟨by (with_reducible repeat (first | refine blk_drewN ?_ _ | refine blk_drew ?_ | refine blk_alloc ?_ _)); refine blk_far ?_ NB469_471.out _; (with_reducible repeat (first | refine blk_drewN ?_ _ | refine blk_drew ?_ | refine blk_alloc ?_ _)); exact BK469.out⟩, ⟨by (with_reducible repeat (first | refine blk_drewN ?_ _ | refine blk_drew ?_ | refine blk_alloc ?_ _)); refine blk_far ?_ NB470_471.out _; (with_reducible repeat (first | refine blk_drewN ?_ _ | refine blk_drew ?_ | refine blk_alloc ?_ _)); exact BK470.out⟩, ⟨by (with_reducible repeat (first | refine blk_drewN ?_ _ | refine blk_drew ?_ | refine blk_alloc ?_ _)); refine blk_put (cs := #[u472000, .int .i64 a0_1, .slice Ao19 y475.length co19, .int .i64 a0_3, .slice Ao21 t478.length co21]) ?_ 0 _ rfl; (with_reducible repeat (first | refine blk_drewN ?_ _ | refine blk_drew ?_ | refine blk_alloc ?_ _)); exact BK471.out⟩, ⟨by repeat (first | (with_reducible first | exact HB.out | apply below_alloc | apply pw_below_drewN | apply below_drew1 | refine below_set ?_ GE469.out | refine below_set ?_ GE470.out | refine below_set ?_ GE471.out | refine below_set ?_ GE482.out) | exact HB.out)⟩⟩
            · rw [if_neg c26] at H
              exact absurd H (by simp)
          · rw [if_neg c24] at H
            exact absurd H (by simp)
        · rw [if_neg c23] at H
          have c23b0 : decide (x4_1 < (l0_0.length : Int)) = false := decide_eq_false c23
          clear c23
          simp only [Option.some.injEq, Prod.mk.injEq] at H
          obtain ⟨rfl, rfl, rfl, rfl, rfl⟩ := H
          have hnb45 := NB469_470.out
          have hnc45 := NB470_469.out
          have hnb46 := NB469_471.out
          have hnc46 := NB471_469.out
          have hcz47_0 : wr.cell? ⟨gb469, 0, none⟩ = some (.slice A0_0 l0_0.length c0_0) := (blk_cell BK469.out 0).trans rfl
          have hcz47_1 : wr.cell? ⟨gb469, 1, none⟩ = some (.int .i64 a0_1) := (blk_cell BK469.out 1).trans rfl
          have hcz47_2 : wr.cell? ⟨gb469, 2, none⟩ = some (.slice A0_2 l0_2.length c0_2) := (blk_cell BK469.out 2).trans rfl
          have hcz47_3 : wr.cell? ⟨gb469, 3, none⟩ = some (.int .i64 a0_3) := (blk_cell BK469.out 3).trans rfl
          have hcz47_4 : wr.cell? ⟨gb469, 4, none⟩ = some (.slice A0_4 l0_4.length c0_4) := (blk_cell BK469.out 4).trans rfl
          have hfz47_0 := blk_frozen BK469.out 0
          have hfz47_1 := blk_frozen BK469.out 1
          have hfz47_2 := blk_frozen BK469.out 2
          have hfz47_3 := blk_frozen BK469.out 3
          have hfz47_4 := blk_frozen BK469.out 4
          have hnb48 := NB471_470.out
          have hnc48 := NB470_471.out
          have hcz49_0 : wr.cell? ⟨gb471, 0, none⟩ = some (u472000) := (blk_cell BK471.out 0).trans rfl
          have hcz49_1 : wr.cell? ⟨gb471, 1, none⟩ = some (.int .i64 a0_1) := (blk_cell BK471.out 1).trans rfl
          have hcz49_2 : wr.cell? ⟨gb471, 2, none⟩ = some (.slice Ao19 y475.length co19) := (blk_cell BK471.out 2).trans rfl
          have hcz49_3 : wr.cell? ⟨gb471, 3, none⟩ = some (.int .i64 a0_3) := (blk_cell BK471.out 3).trans rfl
          have hcz49_4 : wr.cell? ⟨gb471, 4, none⟩ = some (.slice Ao21 t478.length co21) := (blk_cell BK471.out 4).trans rfl
          have hfz49_0 := blk_frozen BK471.out 0
          have hfz49_1 := blk_frozen BK471.out 1
          have hfz49_2 := blk_frozen BK471.out 2
          have hfz49_3 := blk_frozen BK471.out 3
          have hfz49_4 := blk_frozen BK471.out 4
          obtain ⟨Ao50, co50, eo50⟩ := Kd.S_slice HO_472000.out
          subst eo50
          have hcz51_0 : wr.cell? ⟨gb470, 0, none⟩ = some (.slice none 0 0) := (blk_cell BK470.out 0).trans rfl
          have hcz51_1 : wr.cell? ⟨gb470, 1, none⟩ = some (.int .i64 0) := (blk_cell BK470.out 1).trans rfl
          have hcz51_2 : wr.cell? ⟨gb470, 2, none⟩ = some (.slice none 0 0) := (blk_cell BK470.out 2).trans rfl
          have hcz51_3 : wr.cell? ⟨gb470, 3, none⟩ = some (.int .i64 0) := (blk_cell BK470.out 3).trans rfl
          have hcz51_4 : wr.cell? ⟨gb470, 4, none⟩ = some (.slice none 0 0) := (blk_cell BK470.out 4).trans rfl
          have hfz51_0 := blk_frozen BK470.out 0
          have hfz51_1 := blk_frozen BK470.out 1
          have hfz51_2 := blk_frozen BK470.out 2
          have hfz51_3 := blk_frozen BK470.out 3
          have hfz51_4 := blk_frozen BK470.out 4
          go_wp2
          refine bodyPost_ret (results_cell_row rfl _ _ gb470 26 #[.slice Ao50 x472000_1.length co50, .int .i64 a0_1, .slice Ao19 y475.length co19, .int .i64 a0_3, .slice Ao21 t478.length co21] (0, 0) _ rfl (by (with_reducible repeat (first | refine blk_drewN ?_ _ | refine blk_drew ?_ | refine blk_alloc ?_ _)); refine blk_put (cs := #[.slice Ao50 x472000_1.length co50, .int .i64 a0_1, .slice Ao19 y475.length co19, .int .i64 a0_3, .slice none 0 0]) ?_ 4 _ rfl; (with_reducible repeat (first | refine blk_drewN ?_ _ | refine blk_drew ?_ | refine blk_alloc ?_ _)); refine blk_put (cs := #[.slice Ao50 x472000_1.length co50, .int .i64 a0_1, .slice Ao19 y475.length co19, .int .i64 0, .slice none 0 0]) ?_ 3 _ rfl; (with_reducible repeat (first | refine blk_drewN ?_ _ | refine blk_drew ?_ | refine blk_alloc ?_ _)); refine blk_put (cs := #[.slice Ao50 x472000_1.length co50, .int .i64 a0_1, .slice none 0 0, .int .i64 0, .slice none 0 0]) ?_ 2 _ rfl; (with_reducible repeat (first | refine blk_drewN ?_ _ | refine blk_drew ?_ | refine blk_alloc ?_ _)); refine blk_put (cs := #[.slice Ao50 x472000_1.length co50, .int .i64 0, .slice none 0 0, .int .i64 0, .slice none 0 0]) ?_ 1 _ rfl; (with_reducible repeat (first | refine blk_drewN ?_ _ | refine blk_drew ?_ | refine blk_alloc ?_ _)); refine blk_put (cs := #[.slice none 0 0, .int .i64 0, .slice none 0 0, .int .i64 0, .slice none 0 0]) ?_ 0 _ rfl; (with_reducible repeat (first | refine blk_drewN ?_ _ | refine blk_drew ?_ | refine blk_alloc ?_ _)); exact BK470.out) Try.underlying26 rfl (by kernel_rfl)) rfl ?_
          exact ⟨_, _, _, by first | rfl | (simp [errW_none, errW_some] <;> rfl) | (simp [*, errW_none, errW_some] <;> rfl), by (with_reducible repeat (first | apply Kd.S_alloc | apply Kd.S_drewN | apply Kd.S_drew)); exact Kd.S_mono (Kd.S_far (p := ⟨gb470, 4, none⟩) (Kd.S_far (p := ⟨gb470, 3, none⟩) (Kd.S_far (p := ⟨gb470, 2, none⟩) (Kd.S_far (p := ⟨gb470, 1, none⟩) (Kd.S_far (p := ⟨gb470, 0, none⟩) (Kd.S_types HO_472000.out BK470.out (by decide)) (fun _ hk => hk.2) (.slice Ao50 x472000_1.length co50)) (fun _ hk => hk.2) (.int .i64 a0_1)) (fun _ hk => hk.2) (.slice Ao19 y475.length co19)) (fun _ hk => hk.2) (.int .i64 a0_3)) (fun _ hk => hk.2) (.slice Ao21 t478.length co21)) (fun _ hk => hk.1), by (with_reducible repeat (first | apply Kd.R_alloc | apply Kd.R_drewN | apply Kd.R_drew)); exact Kd.R_mono (Kd.R_far (p := ⟨gb470, 4, none⟩) (Kd.R_far (p := ⟨gb470, 3, none⟩) (Kd.R_far (p := ⟨gb470, 2, none⟩) (Kd.R_far (p := ⟨gb470, 1, none⟩) (Kd.R_far (p := ⟨gb470, 0, none⟩) (Kd.R_types HO_472002.out BK470.out (by decide)) (fun _ hk => hk.2) (.slice Ao50 x472000_1.length co50)) (fun _ hk => hk.2) (.int .i64 a0_1)) (fun _ hk => hk.2) (.slice Ao19 y475.length co19)) (fun _ hk => hk.2) (.int .i64 a0_3)) (fun _ hk => hk.2) (.slice Ao21 t478.length co21)) (fun _ hk => trivial), by (with_reducible repeat (first | apply Kd.R_alloc | apply Kd.R_drewN | apply Kd.R_drew)); exact Kd.R_mono (Kd.R_far (p := ⟨gb470, 4, none⟩) (Kd.R_far (p := ⟨gb470, 3, none⟩) (Kd.R_far (p := ⟨gb470, 2, none⟩) (Kd.R_far (p := ⟨gb470, 1, none⟩) (Kd.R_far (p := ⟨gb470, 0, none⟩) (Kd.R_types HO_472004.out BK470.out (by decide)) (fun _ hk => hk.2) (.slice Ao50 x472000_1.length co50)) (fun _ hk => hk.2) (.int .i64 a0_1)) (fun _ hk => hk.2) (.slice Ao19 y475.length co19)) (fun _ hk => hk.2) (.int .i64 a0_3)) (fun _ hk => hk.2) (.slice Ao21 t478.length co21)) (fun _ hk => trivial), by repeat (first | (with_reducible first | exact HB.out | apply below_alloc | apply pw_below_drewN | apply below_drew1 | refine below_set ?_ GE469.out | refine below_set ?_ GE470.out | refine below_set ?_ GE471.out) | exact HB.out)⟩
  · rw [if_neg c2] at H
    exact absurd H (by simp)
end Go.Proofs.Ytkkmfcdikkiodaa.PC4
namespace Go.Proofs.Ytkkmfcdikkiodaa.PC4
set_option linter.unusedVariables false
open Go.RowKit Go.Proofs.YtkkmfcdikkiodaaW.PrintWords Go.Proofs.YtkkmfcdikkiodaaW.PrintLast Go.Proofs.YtkkmfcdikkiodaaW.PrintMore
theorem Ev.succ {α : Type} {g : Nat → Option α} {r : α} (h : Ev (fun k => g (k + 1)) r) : Ev g r := Ev.step (fun _ => rfl) h
theorem Res.succ {α : Type} {g : Nat → Option α} {P : α → Prop} (h : Res (fun k => g (k + 1)) P) : Res g P := Res.step (fun _ => rfl) h
theorem Res.of {α : Type} {g : Nat → Option α} {P : α → Prop} {r : α} (h : Ev g r) (hp : P r) : Res g P := ⟨r, h, hp⟩
theorem Res.now {α : Type} {P : α → Prop} {r : α} (hp : P r) : Res (fun _ => some r) P := ⟨r, Ev.now r, hp⟩
theorem Res.mono {α : Type} {g : Nat → Option α} {P Q : α → Prop} (h : Res g P) (k : ∀ r, P r → Q r) : Res g Q := by
  obtain ⟨r, h1, h2⟩ := h
  exact ⟨r, h1, k r h2⟩
theorem Ev.tail {α : Type} {g : Nat → Option α} {r : α} (h : Ev g r) : Ev (fun k => (g k).bind fun t => some t) r := Ev.bind h (Ev.now r)
theorem Ev.take {α β : Type} {o : Option α} {a : α} {f : Nat → α → Option β} {r : β} (h : o = some a) (k : Ev (fun n => f n a) r) : Ev (fun n => o.bind (f n)) r := by subst h; exact k
theorem Res.take {α β : Type} {o : Option α} {a : α} {f : Nat → α → Option β} {P : β → Prop} (h : o = some a) (k : Res (fun n => f n a) P) : Res (fun n => o.bind (f n)) P := by subst h; exact k
theorem wrapS {i : Nat} (h : i < 4611686018427387904) : wrap64 ((i : Int) + 1) = ((i + 1 : Nat) : Int) := by rw [wrap64_id (by omega) (by omega)]; omega
theorem rd50 (l : List S50) (k : Nat) : rd_T50 l (k : Int) = l.getD k z50 := by simp [rd_T50]
theorem rdB (l : List Bool) (k : Nat) : rdOf false l (k : Int) = l.getD k false := by simp [rdOf]
theorem getD_mem {α : Type} (l : List α) (k : Nat) (d : α) (h : k < l.length) : l.getD k d ∈ l := by
  rw [List.getD, List.getElem?_eq_getElem h]; exact List.getElem_mem h
theorem getD_get {α : Type} (l : List α) (k : Nat) (d : α) (h : k < l.length) : l.getD k d = l[k] := by
  rw [List.getD, List.getElem?_eq_getElem h]; rfl
theorem ext_getD {α : Type} (d : α) {a b : List α} (hl : a.length = b.length) (h : ∀ i, i < a.length → a.getD i d = b.getD i d) : a = b := by
  apply List.ext_getElem hl
  intro i h1 h2
  have := h i h1
  rwa [getD_get _ _ _ h1, getD_get _ _ _ h2] at this
theorem isClean_l0 (parts : List S50) (swap : Int) (looks : List S61) (wrong : Int) (needs : List Int) (st : List Bool) (hl : st.length = parts.length) (h9 : parts.length ≤ 1000) (d : Nat) :
    ∀ i : Nat, i + d = parts.length → Ev (fun K => swarfref04_IsClean.l0 K st (i : Int) parts swap looks wrong needs) ((List.range' i d).all fun j => !(parts.getD j z50).f1 || st.getD j false) := by
  induction d with
  | zero =>
    intro i hi
    refine Ev.succ ?_
    simp (disch := omega) only [swarfref04_IsClean.l0, if_neg]
    exact Ev.now _
  | succ d ih =>
    intro i hi
    have ihk := ih (i + 1) (by omega)
    refine Ev.succ ?_
    simp (disch := omega) only [swarfref04_IsClean.l0, if_pos, wrapS, rd50, rdB]
    rw [List.range'_succ, List.all_cons]
    cases (parts.getD i z50).f1 with
    | false => simpa using ihk
    | true =>
      cases st.getD i false with
      | true => simpa using ihk
      | false => simpa using Ev.now false
theorem isClean_ev (parts : List S50) (swap : Int) (looks : List S61) (wrong : Int) (needs : List Int) (st : List Bool) (hl : st.length = parts.length) (h9 : parts.length ≤ 1000) :
    Ev (fun K => swarfref04_IsClean.f K parts swap looks wrong needs st) (subM (badMask parts) (stM st)) := by
  have h := isClean_l0 parts swap looks wrong needs st hl h9 parts.length 0 (by omega)
  have e : ((List.range' 0 parts.length).all fun j => !(parts.getD j z50).f1 || st.getD j false) = subM (badMask parts) (stM st) := by
    rw [Bool.eq_iff_iff, List.all_eq_true, sub_bad]
    constructor
    · intro h i hi hb
      have := h i (List.mem_range'_1.2 ⟨by omega, by omega⟩)
      rw [hb] at this
      rw [stM_bit]
      simpa using this
    · intro h i hi
      have hi2 := (List.mem_range'_1.1 hi).2
      cases hb : (parts.getD i z50).f1 with
      | false => rfl
      | true =>
        have := h i (by omega) hb
        rw [stM_bit] at this
        rw [this]; rfl
  rw [e] at h
  exact h
theorem CarGood.check2 {a1 a2 : Int} {parts : List S50} {swap : Int} {looks : List S61} {wrong : Int} {needs : List Int} {st : List Bool} (h : CarGood a1 a2 parts swap looks wrong needs st) (h9 : a1 ≤ 9) (h12 : a2 ≤ 12) {w : Int} (h0 : 0 ≤ w) (h1 : w ≤ 12) : checkE parts swap looks w needs = 0 := by
  have hc := h.check h9 h12
  have e1 : inB wrong 0 12 = true := inB_of ⟨h.wr.1, h.wr.2.1⟩
  have e2 : inB w 0 12 = true := inB_of ⟨h0, h1⟩
  unfold checkE checkT at hc ⊢
  rw [e1] at hc
  rw [e2]
  exact hc
theorem CarGood.out2 {a1 a2 : Int} {parts : List S50} {swap : Int} {looks : List S61} {wrong : Int} {needs : List Int} {st : List Bool} (h : CarGood a1 a2 parts swap looks wrong needs st) (h9 : a1 ≤ 9) (h12 : a2 ≤ 12) {w : Int} (h0 : 0 ≤ w) (h1 : w ≤ 12) :
    strip_Out.f parts swap looks w needs = some (if truthsL parts looks w = [] then ([], 9) else (outL parts.length (truthsL parts looks w), 0)) := by
  unfold strip_Out.f outE
  rw [if_pos (h.fits h9 h12), if_pos (h.check2 h9 h12 h0 h1)]
theorem CarGood.clean2 {a1 a2 : Int} {parts : List S50} {swap : Int} {looks : List S61} {wrong : Int} {needs : List Int} {st : List Bool} (h : CarGood a1 a2 parts swap looks wrong needs st) (h9 : a1 ≤ 9) (h12 : a2 ≤ 12) {w : Int} (h0 : 0 ≤ w) (h1 : w ≤ 12) :
    strip_Clean.f parts swap looks w needs = some (if truthsL parts looks w = [] then (0, 9) else (carV parts (truthsL parts looks w), 0)) := by
  unfold strip_Clean.f cleanE
  rw [if_pos (h.fits h9 h12), if_pos (h.check2 h9 h12 h0 h1)]
  rfl
end Go.Proofs.Ytkkmfcdikkiodaa.PC4
namespace Go.Proofs.Ytkkmfcdikkiodaa.PC4
set_option linter.unusedVariables false
set_option linter.unusedSimpArgs false
open Go.RowKit Go.Proofs.YtkkmfcdikkiodaaW.PrintWords Go.Proofs.YtkkmfcdikkiodaaW.PrintLast Go.Proofs.YtkkmfcdikkiodaaW.PrintMore
def tset (parts : List S50) (looks : List S61) (wrong : Int) (m : Nat) : List Nat := (List.range m).filter fun s => okM parts s && decide ((wrongM s looks : Int) ≤ wrong)
theorem truthsL_eq (parts : List S50) (looks : List S61) (wrong : Int) : truthsL parts looks wrong = tset parts looks wrong (2 ^ parts.length) := by
  unfold truthsL truthsOf statesL statesTo tset
  rw [List.filter_map, List.map_map, List.filter_filter]
  simp only [Function.comp_def, List.map_id']
  congr 1
  funext s
  rw [Bool.and_comm]
theorem tset_succ (parts : List S50) (looks : List S61) (wrong : Int) (m : Nat) : tset parts looks wrong (m + 1) = if (okM parts m && decide ((wrongM m looks : Int) ≤ wrong)) = true then tset parts looks wrong m ++ [m] else tset parts looks wrong m := by
  unfold tset
  rw [List.range_succ, List.filter_append]
  cases h : (okM parts m && decide ((wrongM m looks : Int) ≤ wrong)) <;> simp [h]
theorem tset_len (parts : List S50) (looks : List S61) (wrong : Int) (m : Nat) : (tset parts looks wrong m).length ≤ m := by
  unfold tset
  have := List.length_filter_le (fun s => okM parts s && decide ((wrongM s looks : Int) ≤ wrong)) (List.range m)
  rwa [List.length_range] at this
theorem said_verdict (T : List Nat) (hne : T ≠ []) (p : Int → Bool) (q : Nat → Bool) (hq : ∀ s, s ∈ T → p (s : Int) = q s) : swarflaw04_said.f ((T.countP q : Nat) : Int) ((T.length : Nat) : Int) = some (verdictS (setsI T) p) := by
  unfold swarflaw04_said.f
  obtain ⟨s0, hs0⟩ := List.exists_mem_of_ne_nil T hne
  have hpos : 0 < T.length := List.length_pos_iff.2 hne
  rcases verdict_cases T p q hq with ⟨h1, h2⟩ | ⟨h1, _, h2⟩ | ⟨h1, ⟨s, hs, h2⟩, t, ht, h3⟩
  · have : T.countP q = T.length := List.countP_eq_length.2 h2
    rw [h1, this, if_pos rfl]
  · have : T.countP q = 0 := List.countP_eq_zero.2 (fun a ha => by rw [h2 a ha]; simp)
    rw [h1, this, if_neg (by omega)]; rfl
  · have ha : T.countP q ≠ T.length := fun e => by have := List.countP_eq_length.1 e t ht; rw [h3] at this; cases this
    have hb : T.countP q ≠ 0 := fun e => by have := List.countP_eq_zero.1 e s hs; exact this h2
    rw [h1, if_neg (by omega), if_neg (by omega)]
def bitsTo (n i m : Nat) : List Bool := (List.range n).map fun j => decide (j < i) && m.testBit j
theorem bitsTo_len (n i m : Nat) : (bitsTo n i m).length = n := by simp [bitsTo]
theorem bitsTo_get {n i m j : Nat} (h : j < n) : (bitsTo n i m).getD j false = (decide (j < i) && m.testBit j) := by
  rw [getD_get _ _ _ (by rw [bitsTo_len]; exact h)]
  simp [bitsTo]
theorem bitsTo_zero (n m : Nat) : bitsTo n 0 m = List.replicate n false := by
  refine ext_getD false (by simp [bitsTo]) (fun j hj => ?_)
  rw [bitsTo_len] at hj
  rw [bitsTo_get hj, getD_get _ _ _ (by simpa using hj)]
  simp
theorem bitsTo_set {n i m : Nat} (h : i < n) : (bitsTo n i m).set i (m.testBit i) = bitsTo n (i + 1) m := by
  refine ext_getD false (by simp [bitsTo]) (fun j hj => ?_)
  rw [List.length_set, bitsTo_len] at hj
  rw [bitsTo_get hj, getD_get _ _ _ (by simpa [bitsTo] using hj), List.getElem_set]
  by_cases e : i = j
  · subst e; simp
  · rw [if_neg e, ← getD_get _ _ false, bitsTo_get hj]
    have : decide (j < i) = decide (j < i + 1) := by rw [decide_eq_decide]; omega
    rw [this]
theorem bitsTo_full {n m : Nat} {j : Nat} (h : j < n) : (bitsTo n n m).getD j false = m.testBit j := by
  rw [bitsTo_get h, decide_eq_true h, Bool.true_and]
theorem stM_bits {n m : Nat} (h : m < 2 ^ n) : stM (bitsTo n n m) = m := by
  apply Nat.eq_of_testBit_eq
  intro i
  rw [stM_bit]
  by_cases hi : i < n
  · exact bitsTo_full hi
  · rw [List.getD, List.getElem?_eq_none (by rw [bitsTo_len]; omega), Nat.testBit_lt_two_pow (Nat.lt_of_lt_of_le h (Nat.pow_le_pow_right (by decide) (by omega)))]
    rfl
theorem wraps_i64 (n : Int) (h₀ : 0 ≤ n) (h₁ : n < 2 ^ 62) : IntKind.i64.wrap n = n := by rw [IntKind.wrap_i64]; omega
theorem bit64 (m i : Nat) (hm : m < 4611686018427387904) (hi : i ≤ 60) : (Go.bits .and .i64 (shr .i64 (m : Int) (i : Int)) 1 == 1) = m.testBit i := by
  have e : shr .i64 (m : Int) (i : Int) = ((m >>> i : Nat) : Int) := by
    unfold shr
    rw [Int.toNat_natCast, Nat.min_eq_left (by show i ≤ 64; omega), Nat.shiftRight_eq_div_pow]
    simp
  have hlt : m >>> i < 2 ^ 62 := by rw [Nat.shiftRight_eq_div_pow]; exact Nat.lt_of_le_of_lt (Nat.div_le_self _ _) hm
  have hb := (bits_nat .i64 62 (by decide) wraps_i64 (m >>> i) 1 hlt (by decide)).1
  rw [e, show (1 : Int) = ((1 : Nat) : Int) from rfl, hb, Nat.testBit]
  have h2 : 1 &&& m >>> i = m >>> i &&& 1 := Nat.and_comm _ _
  rw [h2, Nat.and_one_is_mod]
  have h3 := Nat.mod_two_eq_zero_or_one (m >>> i)
  rcases h3 with h3 | h3 <;> simp [h3]
theorem shl64 (n : Nat) (h : n ≤ 60) : shl .i64 1 (n : Int) = ((2 ^ n : Nat) : Int) := by
  unfold shl
  rw [Int.toNat_natCast, Nat.min_eq_left (by show n ≤ 64; omega), Int.one_mul]
  have : 2 ^ n < 2 ^ 62 := Nat.pow_lt_pow_right (by decide) (by omega)
  rw [wraps_i64 _ (by exact_mod_cast Nat.zero_le _) (by exact_mod_cast this)]
  simp
def okTo (parts : List S50) (m i : Nat) : Bool := (List.range i).all fun j => !m.testBit j || (parts.getD j z50).f0.all fun x => m.testBit x.toNat
theorem okTo_succ (parts : List S50) (m i : Nat) : okTo parts m (i + 1) = (okTo parts m i && (!m.testBit i || (parts.getD i z50).f0.all fun x => m.testBit x.toNat)) := by
  simp [okTo, List.range_succ]
theorem okTo_full {parts : List S50} (h : ∀ i, i < parts.length → PartOK i (parts.getD i z50)) (m : Nat) : okTo parts m parts.length = okM parts m := by
  rw [Bool.eq_iff_iff, okM_iff h, okTo, List.all_eq_true]
  constructor
  · intro h1 i hi hb x hx
    have := h1 i (List.mem_range.2 hi)
    rw [hb, Bool.not_true, Bool.false_or, List.all_eq_true] at this
    exact this x hx
  · intro h1 i hi
    cases hb : m.testBit i with
    | false => rfl
    | true =>
      rw [Bool.not_true, Bool.false_or, List.all_eq_true]
      exact h1 i (List.mem_range.1 hi) hb
end Go.Proofs.Ytkkmfcdikkiodaa.PC4
namespace Go.Proofs.Ytkkmfcdikkiodaa.PC4
set_option linter.unusedVariables false
set_option linter.unusedSimpArgs false
open Go.RowKit Go.Proofs.YtkkmfcdikkiodaaW.PrintWords Go.Proofs.YtkkmfcdikkiodaaW.PrintLast
def outsOf (n : Nat) (T : List Nat) (outs : List Int) : Prop := outs.length = n ∧ ∀ j, j < n → outs.getD j 0 = ((T.countP fun s => s.testBit j : Nat) : Int)
section
variable (parts : List S50) (swap : Int) (looks : List S61) (wrong : Int) (needs : List Int) (x6 : List Int) (x7 x8 x9 : Int)
theorem all_l4 (outs : List Int) (T : List Nat) (ho : outsOf parts.length T outs) (h6 : x6 = outL parts.length T) (hne : T ≠ []) (hlt : ∀ s, s ∈ T → s < 65536) (h9 : parts.length ≤ 9) (d : Nat) :
    ∀ i : Nat, i + d = parts.length → Ev (fun K => swarflaw04_StripAll.l4 K x6 outs (T.length : Nat) (i : Int)) true := by
  have hl6 : x6.length = parts.length := by rw [h6, outL_len]
  have hlo := ho.1
  induction d with
  | zero =>
    intro i hi
    refine Ev.succ ?_
    simp (disch := omega) only [swarflaw04_StripAll.l4, if_neg]
    exact Ev.tail awake_ev
  | succ d ih =>
    intro i hi
    have hi2 : i < parts.length := by omega
    have hs := said_verdict T hne (rawHas (i : Int)) (fun s => s.testBit i) (fun s hs => rawHas_eq s i (hlt s hs) (by omega))
    have hv : x6.getD i 0 = verdictS (setsI T) (rawHas (i : Int)) := by rw [h6]; exact outL_getD _ _ hi2
    have ihk := ih (i + 1) (by omega)
    refine Ev.succ ?_
    simp (disch := omega) only [swarflaw04_StripAll.l4, if_pos, wrapS, rd_getD, ho.2 i hi2, hs, Option.bind_some, hv]
    exact ihk
theorem all_l3 (m : Nat) (hm : m < 2 ^ parts.length) (h6 : parts.length ≤ 6) (T : List Nat) (hT : T.length ≤ 64) (c : Nat) (hc : c ≤ 64) (many : Int)
    (hK : ∀ outs, outsOf parts.length (T ++ [m]) outs → Ev (fun K => swarflaw04_StripAll.l0 K x6 x7 x8 x9 outs ((if subM (badMask parts) m then c + 1 else c : Nat) : Int) many ((m + 1 : Nat) : Int) parts swap looks wrong needs) true) (d : Nat) :
    ∀ (i : Nat) (outs : List Int), i + d = parts.length → outs.length = parts.length → (∀ j, j < parts.length → outs.getD j 0 = ((T.countP fun s => s.testBit j : Nat) : Int) + (if j < i ∧ m.testBit j = true then 1 else 0)) →
      Ev (fun K => swarflaw04_StripAll.l3 K x6 x7 x8 x9 outs (c : Int) many (m : Int) (bitsTo parts.length parts.length m) (i : Int) parts swap looks wrong needs) true := by
  have hbl : (bitsTo parts.length parts.length m).length = parts.length := bitsTo_len _ _ _
  have h64 : 2 ^ parts.length ≤ 64 := Nat.pow_le_pow_right (n := 2) (by decide) h6
  induction d with
  | zero =>
    intro i outs hi hl ho
    have hout : outsOf parts.length (T ++ [m]) outs := by
      refine ⟨hl, fun j hj => ?_⟩
      rw [ho j hj, List.countP_append, List.countP_singleton]
      by_cases hb : m.testBit j = true
      · rw [if_pos ⟨by omega, hb⟩, if_pos hb]; rfl
      · rw [if_neg (fun e => hb e.2), if_neg hb]; rfl
    have hk := hK outs hout
    refine Ev.succ ?_
    simp (disch := omega) only [swarflaw04_StripAll.l3, if_neg]
    refine Ev.bind (isClean_ev parts swap looks wrong needs _ hbl (by omega)) ?_
    rw [stM_bits hm]
    cases hs : subM (badMask parts) m with
    | true =>
      rw [hs, if_pos rfl] at hk
      simp (disch := omega) only [if_true, wrapS]
      exact hk
    | false =>
      rw [hs, if_neg (by simp)] at hk
      simp (disch := omega) only [Bool.false_eq_true, if_false, wrapS]
      exact hk
  | succ d ih =>
    intro i outs hi hl ho
    have hi2 : i < parts.length := by omega
    have hb := bitsTo_full (m := m) hi2
    have hcle : (T.countP fun s => s.testBit i) ≤ T.length := List.countP_le_length
    refine Ev.succ ?_
    simp (disch := omega) only [swarflaw04_StripAll.l3, if_pos, wrapS, rdB, hb, rd_getD, Int.toNat_natCast]
    cases hbit : m.testBit i with
    | false =>
      simp only [Bool.false_eq_true, if_false]
      refine ih (i + 1) outs (by omega) hl (fun j hj => ?_)
      rw [ho j hj]
      by_cases e : j = i
      · subst e; rw [hbit]; simp
      · have : (j < i ∧ m.testBit j = true) ↔ (j < i + 1 ∧ m.testBit j = true) := by constructor <;> (rintro ⟨h, h'⟩; exact ⟨by omega, h'⟩)
        simp only [this]
    | true =>
      have hoi := ho i hi2
      rw [if_neg (by omega), Int.add_zero] at hoi
      rw [hoi]
      simp (disch := omega) only [if_true, wrapS]
      refine ih (i + 1) _ (by omega) (by simpa using hl) (fun j hj => ?_)
      rw [getD_get _ _ _ (by simpa using (by omega : j < outs.length)), List.getElem_set]
      by_cases e : i = j
      · subst e
        rw [if_pos rfl, if_pos ⟨by omega, hbit⟩]
        omega
      · rw [if_neg e, ← getD_get _ _ 0, ho j hj]
        have : (j < i ∧ m.testBit j = true) ↔ (j < i + 1 ∧ m.testBit j = true) := by constructor <;> (rintro ⟨h, h'⟩; exact ⟨by omega, h'⟩)
        simp only [this]
theorem all_l2 (m : Nat) (outs : List Int) (c many : Int) (h6 : parts.length ≤ 6) (st : List Bool) (hst : st.length = parts.length) (i : Nat) (hi : i < parts.length) (hbit : st.getD i false = true) (hb : (parts.getD i z50).f0.length ≤ 100) (hx : ∀ x, x ∈ (parts.getD i z50).f0 → 0 ≤ x ∧ x < i)
    (d : Nat) : ∀ (k : Nat) (is : Bool), k + d = (parts.getD i z50).f0.length →
      Ev (fun K => swarflaw04_StripAll.l1 K x6 x7 x8 x9 outs c many (m : Int) st (is && ((parts.getD i z50).f0.drop k).all fun x => st.getD x.toNat false) ((i + 1 : Nat) : Int) parts swap looks wrong needs) true →
      Ev (fun K => swarflaw04_StripAll.l2 K x6 x7 x8 x9 outs c many (m : Int) st is (i : Int) (k : Int) parts swap looks wrong needs) true := by
  have hrd := rd50 parts i
  have hbit2 : rdOf false st (i : Int) = true := by rw [rdB]; exact hbit
  generalize parts.getD i z50 = p at *
  induction d with
  | zero =>
    intro k is hk h
    rw [List.drop_of_length_le (by omega), List.all_nil, Bool.and_true] at h
    refine Ev.succ ?_
    simp (disch := omega) only [swarflaw04_StripAll.l2, if_pos, if_neg, hrd, hbit2, wrapS, if_true]
    exact h
  | succ d ih =>
    intro k is hk h
    rw [drop_cons_rd _ k (by omega) 0, List.all_cons, ← Bool.and_assoc] at h
    have hxk := hx _ (getD_mem p.f0 k 0 (by omega))
    have hq : rdOf false st (p.f0.getD k 0) = st.getD (p.f0.getD k 0).toNat false := rfl
    have ihk := ih (k + 1) _ (by omega) h
    refine Ev.succ ?_
    cases is with
    | false =>
      simp (disch := omega) only [swarflaw04_StripAll.l2, if_pos, if_neg, hrd, hbit2, wrapS, if_true, Bool.false_eq_true, if_false]
      exact ihk
    | true =>
      simp (disch := omega) only [swarflaw04_StripAll.l2, if_pos, if_neg, hrd, hbit2, wrapS, if_true, rd_getD, hq]
      exact ihk
theorem all_l1 (hp : ∀ i, i < parts.length → PartOK i (parts.getD i z50)) (hlk : ∀ l, l ∈ looks → 0 ≤ l.f0 ∧ l.f0 < parts.length) (hll : looks.length ≤ 12) (m : Nat) (hm : m < 2 ^ parts.length) (h6 : parts.length ≤ 6) (outs : List Int) (c : Nat) (hc : c ≤ 64)
    (ho : outsOf parts.length (tset parts looks wrong m) outs)
    (hK : ∀ outs', outsOf parts.length (tset parts looks wrong (m + 1)) outs' → Ev (fun K => swarflaw04_StripAll.l0 K x6 x7 x8 x9 outs' ((if okM parts m && decide ((wrongM m looks : Int) ≤ wrong) && subM (badMask parts) m then c + 1 else c : Nat) : Int) ((tset parts looks wrong (m + 1)).length : Nat) ((m + 1 : Nat) : Int) parts swap looks wrong needs) true) (d : Nat) :
    ∀ i : Nat, i + d = parts.length → Ev (fun K => swarflaw04_StripAll.l1 K x6 x7 x8 x9 outs (c : Int) ((tset parts looks wrong m).length : Nat) (m : Int) (bitsTo parts.length i m) (okTo parts m i) (i : Int) parts swap looks wrong needs) true := by
  have h64 : 2 ^ parts.length ≤ 64 := Nat.pow_le_pow_right (n := 2) (by decide) h6
  have htl := tset_len parts looks wrong m
  induction d with
  | zero =>
    intro i hi
    obtain rfl : i = parts.length := by omega
    have hbl : (bitsTo parts.length parts.length m).length = parts.length := bitsTo_len _ _ _
    have hwr := wrongs_ev parts swap looks wrong needs (bitsTo parts.length parts.length m) (by omega) (by rw [hbl]; exact hlk)
    have hwm : wrongB (bitsTo parts.length parts.length m) looks = wrongM m looks := by rw [← wrongM_st, stM_bits hm]
    rw [hwm] at hwr
    have hskip : (okM parts m && decide ((wrongM m looks : Int) ≤ wrong)) = false → Ev (fun K => swarflaw04_StripAll.j3 K x6 x7 x8 x9 outs (c : Int) ((tset parts looks wrong m).length : Nat) (m : Int) (bitsTo parts.length parts.length m) true parts swap looks wrong needs) true := by
      intro hf
      have ht := tset_succ parts looks wrong m
      rw [hf, if_neg (by simp)] at ht
      rw [hf, ht] at hK
      have hk := hK outs ho
      refine Ev.succ ?_
      simp (disch := omega) only [swarflaw04_StripAll.j3, if_true, wrapS]
      exact hk
    refine Ev.succ ?_
    simp (disch := omega) only [swarflaw04_StripAll.l1, if_neg, hbl, okTo_full hp]
    cases hok : okM parts m with
    | false =>
      simp only [Bool.false_eq_true, if_false]
      exact hskip (by rw [hok]; rfl)
    | true =>
      simp only [if_true]
      refine Ev.bind hwr ?_
      by_cases hw : (wrongM m looks : Int) ≤ wrong
      · have hnw : ¬ (wrongM m looks : Int) > wrong := by omega
        have hg : (okM parts m && decide ((wrongM m looks : Int) ≤ wrong)) = true := by rw [hok, decide_eq_true hw]; rfl
        have ht := tset_succ parts looks wrong m
        rw [hg, if_pos rfl] at ht
        rw [hg, ht, Bool.true_and] at hK
        refine Ev.succ ?_
        simp (disch := omega) only [swarflaw04_StripAll.j3, decide_eq_false hnw, Bool.false_eq_true, if_false, wrapS]
        rw [List.length_append, List.length_singleton] at hK
        exact all_l3 parts swap looks wrong needs x6 x7 x8 x9 m hm h6 _ (by omega) c hc _ hK parts.length 0 outs (by omega) ho.1 (fun j hj => by rw [ho.2 j hj]; simp)
      · have hgw : (wrongM m looks : Int) > wrong := by omega
        rw [decide_eq_true hgw]
        exact hskip (by rw [decide_eq_false hw, Bool.and_false])
  | succ d ih =>
    intro i hi
    have hi2 : i < parts.length := by omega
    have ihk := ih (i + 1) (by omega)
    have hbl : (bitsTo parts.length i m).length = parts.length := bitsTo_len _ _ _
    have hbit := bit64 m i (by omega) (by omega)
    have hP := hp i hi2
    have hPl := hP.len
    have hb1 : (bitsTo parts.length (i + 1) m).getD i false = m.testBit i := by rw [bitsTo_get hi2]; simp
    have hbl1 : (bitsTo parts.length (i + 1) m).length = parts.length := bitsTo_len _ _ _
    refine Ev.succ ?_
    simp (disch := omega) only [swarflaw04_StripAll.l1, if_pos, hbl, hbit, Int.toNat_natCast, bitsTo_set hi2]
    rw [okTo_succ] at ihk
    cases hbm : m.testBit i with
    | false =>
      rw [hbm, Bool.not_false, Bool.true_or, Bool.and_true] at ihk
      refine Ev.succ ?_
      simp (disch := omega) only [swarflaw04_StripAll.l2, if_pos, hbl1, rdB, hb1, hbm, Bool.false_eq_true, if_false, wrapS]
      exact ihk
    | true =>
      rw [hbm, Bool.not_true, Bool.false_or] at ihk
      refine all_l2 parts swap looks wrong needs x6 x7 x8 x9 m outs c _ h6 _ hbl1 i hi2 (by rw [hb1, hbm]) (by omega) (fun x hx => hP.lt x hx) _ 0 _ (Nat.zero_add _) ?_
      rw [List.drop_zero]
      have : ((parts.getD i z50).f0.all fun x => (bitsTo parts.length (i + 1) m).getD x.toNat false) = (parts.getD i z50).f0.all fun x => m.testBit x.toNat := by
        rw [Bool.eq_iff_iff, List.all_eq_true, List.all_eq_true]
        constructor
        · intro h x hx
          have h1 := h x hx
          have h2 := hP.lt x hx
          rw [bitsTo_get (by omega), decide_eq_true (by omega), Bool.true_and] at h1
          exact h1
        · intro h x hx
          have h1 := h x hx
          have h2 := hP.lt x hx
          rw [bitsTo_get (by omega), decide_eq_true (by omega), Bool.true_and]
          exact h1
      rw [this]
      exact ihk
theorem all_l0 (hp : ∀ i, i < parts.length → PartOK i (parts.getD i z50)) (hlk : ∀ l, l ∈ looks → 0 ≤ l.f0 ∧ l.f0 < parts.length) (hll : looks.length ≤ 12) (h6 : parts.length ≤ 6)
    (h1 : truthsL parts looks wrong = [] → x7 = 9 ∧ x9 = 9) (h2 : truthsL parts looks wrong ≠ [] → x7 = 0 ∧ x9 = 0 ∧ x6 = outL parts.length (truthsL parts looks wrong) ∧ x8 = carV parts (truthsL parts looks wrong)) (d : Nat) :
    ∀ (m : Nat) (outs : List Int), m + d = 2 ^ parts.length → outsOf parts.length (tset parts looks wrong m) outs →
      Ev (fun K => swarflaw04_StripAll.l0 K x6 x7 x8 x9 outs (((tset parts looks wrong m).countP fun s => subM (badMask parts) s : Nat) : Int) ((tset parts looks wrong m).length : Nat) (m : Int) parts swap looks wrong needs) true := by
  have h64 : 2 ^ parts.length ≤ 64 := Nat.pow_le_pow_right (n := 2) (by decide) h6
  have hsh := shl64 parts.length (by omega)
  have hT := truthsL_eq parts looks wrong
  induction d with
  | zero =>
    intro m outs hm ho
    have hm2 : m = 2 ^ parts.length := by omega
    subst hm2
    rw [← hT] at ho ⊢
    generalize hTT : truthsL parts looks wrong = T at *
    refine Ev.succ ?_
    by_cases hne : T = []
    · obtain ⟨e1, e2⟩ := h1 hne
      subst hne
      simp (disch := omega) only [swarflaw04_StripAll.l0, hsh, if_neg, e1, e2, List.length_nil, if_true, Int.natCast_zero]
      exact Ev.tail awake_ev
    · obtain ⟨e1, e2, e3, e4⟩ := h2 hne
      have hpos : 0 < T.length := List.length_pos_iff.2 hne
      have hbits : ∀ s, s ∈ T → s < 65536 := fun s hs => by
        rw [← hTT] at hs
        have := ((mem_truths s).1 hs).1
        omega
      have hs := said_verdict T hne (rawAll (badMask parts : Nat)) (fun s => subM (badMask parts) s) (fun s hs => rawAll_eq s _ (hbits s hs) (bad_lt parts (by omega)))
      have hlen : ((x6.length : Nat) : Int) = (outs.length : Nat) := by rw [e3, outL_len, ho.1]
      have hv : (x8 != verdictS (setsI T) (rawAll (badMask parts : Nat))) = false := by rw [e4]; simp [carV]
      have hlt : ¬ (2 ^ parts.length : Nat) < (2 ^ parts.length : Nat) := Nat.lt_irrefl _
      simp (disch := omega) only [swarflaw04_StripAll.l0, hsh, if_neg, if_pos, e1, e2, hs, hlen, Option.bind_some, hv, if_true]
      refine Ev.succ ?_
      simp only [swarflaw04_StripAll.j5, Bool.false_eq_true, if_false]
      exact all_l4 parts x6 outs T ho e3 hne hbits (by omega) parts.length 0 (by omega)
  | succ d ih =>
    intro m outs hm ho
    have htl := tset_len parts looks wrong m
    have hcl : ((tset parts looks wrong m).countP fun s => subM (badMask parts) s) ≤ (tset parts looks wrong m).length := List.countP_le_length
    refine Ev.succ ?_
    simp (disch := omega) only [swarflaw04_StripAll.l0, hsh, if_pos, Int.toNat_natCast]
    rw [← bitsTo_zero parts.length m]
    refine all_l1 parts swap looks wrong needs x6 x7 x8 x9 hp hlk hll m (by omega) h6 outs _ (by omega) ho (fun outs' ho' => ?_) parts.length 0 (by omega)
    have := ih (m + 1) outs' (by omega) ho'
    have e : ((tset parts looks wrong (m + 1)).countP fun s => subM (badMask parts) s) = if okM parts m && decide ((wrongM m looks : Int) ≤ wrong) && subM (badMask parts) m then ((tset parts looks wrong m).countP fun s => subM (badMask parts) s) + 1 else ((tset parts looks wrong m).countP fun s => subM (badMask parts) s) := by
      rw [tset_succ]
      cases hg : (okM parts m && decide ((wrongM m looks : Int) ≤ wrong)) with
      | false => simp
      | true =>
        rw [if_pos rfl, List.countP_append, List.countP_singleton, Bool.true_and]
        split <;> rfl
    rw [e] at this
    exact this
end
theorem stripAll_pure : swarflaw04_StripAll.Pure := by
  intro l0 h1 h2 h3
  obtain ⟨r, hev, hg⟩ := carOf_ev (feedAll l0) 6 8 (by decide) (by decide) (by decide) (by decide)
  obtain ⟨parts, swap, looks, wrong, needs, st, s'⟩ := r
  have hG : CarGood 6 8 parts swap looks wrong needs st := hg
  have hl0 : l0.length ≤ 140737488351232 := by omega
  have hfew := hG.few
  have hll := hG.ll
  obtain ⟨b, s2, hb, hb0, hb1⟩ := below_ok s' 4 (by decide) (by decide)
  obtain ⟨w, s3, he, hw⟩ := either_ok s2 [wrong, b] (by simp) (by simp)
  have hw12 : 0 ≤ w ∧ w ≤ 12 := by
    have := hG.wr
    rcases List.mem_cons.1 hw with e | e
    · omega
    · have := List.mem_singleton.1 e; omega
  have ho := hG.out2 (by decide) (by decide) hw12.1 hw12.2
  have hc := hG.clean2 (by decide) (by decide) hw12.1 hw12.2
  have f1 : truthsL parts looks w = [] → (if truthsL parts looks w = [] then (([], 9) : List Int × Int) else (outL parts.length (truthsL parts looks w), 0)).2 = 9 ∧ (if truthsL parts looks w = [] then ((0, 9) : Int × Int) else (carV parts (truthsL parts looks w), 0)).2 = 9 := fun e => by rw [if_pos e, if_pos e]; exact ⟨rfl, rfl⟩
  have f2 : truthsL parts looks w ≠ [] → (if truthsL parts looks w = [] then (([], 9) : List Int × Int) else (outL parts.length (truthsL parts looks w), 0)).2 = 0 ∧ (if truthsL parts looks w = [] then ((0, 9) : Int × Int) else (carV parts (truthsL parts looks w), 0)).2 = 0 ∧ (if truthsL parts looks w = [] then (([], 9) : List Int × Int) else (outL parts.length (truthsL parts looks w), 0)).1 = outL parts.length (truthsL parts looks w) ∧ (if truthsL parts looks w = [] then ((0, 9) : Int × Int) else (carV parts (truthsL parts looks w), 0)).1 = carV parts (truthsL parts looks w) := fun e => by rw [if_neg e, if_neg e]; exact ⟨rfl, rfl, rfl, rfl⟩
  generalize (if truthsL parts looks w = [] then (([], 9) : List Int × Int) else (outL parts.length (truthsL parts looks w), 0)) = P at *
  generalize (if truthsL parts looks w = [] then ((0, 9) : Int × Int) else (carV parts (truthsL parts looks w), 0)) = Q at *
  obtain ⟨P1, P2⟩ := P
  obtain ⟨Q1, Q2⟩ := Q
  have hfin := all_l0 parts swap looks w needs P1 P2 Q1 Q2 hG.p.ok hG.lk (by omega) (by omega) f1 f2 (2 ^ parts.length) 0 (List.replicate parts.length 0) (by omega) ⟨by simp, fun j hj => by rw [getD_get _ _ _ (by simpa using hj)]; simp [tset]⟩
  have e0 : tset parts looks w 0 = [] := rfl
  rw [e0, List.countP_nil, List.length_nil] at hfin
  refine Ev.rounds (r := true) ?_
  unfold swarflaw04_StripAll.f swarfkit_FeedOf.f
  simp only [hl0, if_true, Option.bind_some]
  refine Ev.bind hev ?_
  refine Ev.take hb ?_
  refine Ev.take he ?_
  refine Ev.take ho ?_
  refine Ev.take hc ?_
  simp (disch := omega) only [if_pos, Int.toNat_natCast]
  exact hfin
end Go.Proofs.Ytkkmfcdikkiodaa.PC4
namespace Go.Proofs.Ytkkmfcdikkiodaa.Pure
open Go.Proofs.Ytkkmfcdikkiodaa.PC4
theorem StripAll : swarflaw04_StripAll.Pure := stripAll_pure
end Go.Proofs.Ytkkmfcdikkiodaa.Pure
namespace Go.Proofs.YtkkmfcdikkiodaaW.PrintWords
open Go.ChangeShapes Go.WideShapes
theorem sized_ints {H : Type} {enc : TypeId × Value → H} {P : Program} {W : World} {base : Nat} {spare : Nat → Bool} {held : Bool} {t e : TypeId} {k : IntKind} {a : Option Addr} {len cap : Nat} {d : DataW H} {ps : List MemPlace} {ts : List TypeId} {ds : List (DataW H)} {j : Nat}
    (hsz : (DataW.weightsEach P ts ds).all (· ≤ reachBytes) = true) (ht : ts[j]? = some t) (hd : ds[j]? = some d) (hu : P.underlying t = some (.slice e)) (he : P.underlying e = some (.int k)) (hc : P.cellsOf e = 1) {B : Nat} (hB : P.bytesOf e = B)
    (h : DataW.Trod enc P W base spare held t (.slice a len cap) d ps) : len * B ≤ 140737488351232 := by
  obtain ⟨fuel, hf⟩ := h
  rcases open_ints hu he hc hf with ⟨hcs, _⟩ | ⟨x, l, c, zs, hcs, _, hl, _, hz, hx, _, _⟩
  · simp [Value.cells] at hcs
    obtain ⟨rfl, rfl, rfl⟩ := hcs
    simp
  · simp [Value.cells] at hcs
    obtain ⟨rfl, rfl, rfl⟩ := hcs
    obtain ⟨hx, _⟩ := Prod.mk.inj hx
    subst hx
    have z := sized_slice hsz ht hd hu
    rw [hB] at z
    have hl2 : len ≤ zs.length := by
      rw [hz]
      split
      · exact hl
      · exact Nat.le_refl _
    have h1 : (lits (H := H) k (zs.take len)).length + (lits (H := H) k (zs.drop len)).length = zs.length := by
      simp [lits]
      omega
    rw [h1] at z
    exact Nat.le_trans (Nat.mul_le_mul_right _ hl2) z
end Go.Proofs.YtkkmfcdikkiodaaW.PrintWords
namespace Go.Proofs.Ytkkmfcdikkiodaa.stripAll
open Go.ChangeShapes Go.WideShapes Go.ChangeAt Go.RowKit
open Go.ChangeMaps (open_string shut_string)
set_option linter.unusedVariables false
theorem own : ownKnob Try.prog.godebug = none := by kernel_rfl
theorem laidOut : laidOutB Try.prog = true := by kernel_rfl
def IsRow (k : IntKind) (w : World) (a : Option Addr) (len cap : Nat) (zs : List Int) : Prop :=
  (a = none ∧ len = 0 ∧ cap = 0 ∧ zs = []) ∨
  ∃ x, a = some x ∧ len ≤ cap ∧ cap ≤ maxLen ∧ zs.length = cap ∧ (∀ i, i < zs.length → w.cell? (x.add i) = some (.int k (zs.getD i 0))) ∧ ∀ n ∈ zs, (Lit.int k n).wf = true
set_option maxRecDepth 100000 in
theorem lifted (os : Os) (started : os.Started) (H : Type) (enc : TypeId × Value → H) :
    ReturnsInHanded {} Try.checked os 4 .any (Rows.stripAllSpec.pre6 enc Try.prog Try.f4 Rows.stripAllRow.domain false) (Rows.stripAllSpec.post enc Try.prog Try.f4 false true false false) := by
  refine returnsInHanded_of_change_sized (C := Try.checked) own started (by kernel_rfl) Try.func4
    (ChangeSpec.witness6 (enc := enc) (C := Try.checked) false ⟨#[], #[.slice none 0 0], []⟩ 8 (by kernel_rfl) (by kernel_rfl) (by kernel_rfl) (by kernel_rfl)) ?_
  intro W base args ds gs before hval0 hW hcnd hsz0 _
  have hsz : (DataW.weightsEach Try.prog (Try.f4.params.toList ++ Rows.stripAllSpec.plain.varTypes Try.prog) (ds ++ gs)).all (· ≤ reachBytes) = true := hsz0
  have hval : ∀ (j : Nat) t v, Try.f4.params[j]? = some t → args[j]? = some v → Value.okWide Try.prog W .any base t v := hval0
  have hW' := hW
  obtain ⟨p, q, hA0, hV, rfl, hfz, hnd⟩ := hW
  have hA : DataW.TrodAll enc Try.prog W 0 (fun _ => true) true Try.f4.params.toList args.toList ds p := hA0
  rw [Try.params4] at hA hval hsz
  obtain ⟨v0, vs0, d0, ds0, p0, q0, hargs, rfl, rfl, h0, r0⟩ := trodAll_cons hA
  obtain ⟨rfl, rfl, rfl⟩ := trodAll_nil r0
  obtain rfl : args = #[v0] := by cases args; simp_all
  obtain ⟨rfl, rfl⟩ := trodVars_none hV
  obtain ⟨a0, len0, cap0, rfl⟩ := okWide_slice Try.underlying24 (hval 0 24 v0 rfl rfl)
  have k0 := h0
  have lt0 : ∀ x ∈ p0, x.block < W.heap.size := by obtain ⟨m, hm⟩ := k0; exact DataW.trod_lt m _ _ _ hm
  obtain ⟨z0, w0⟩ : ∃ zs, IsRow .i64 W a0 len0 cap0 zs := by
    obtain ⟨fuel, hf⟩ := h0
    rcases open_ints Try.underlying24 Try.underlying3 (by kernel_rfl) hf with ⟨hcs, _⟩ | ⟨x, l, c, zs, hcs, _, hl, hm, hz, _, hcell, hwz⟩
    · simp [Value.cells] at hcs
      obtain ⟨rfl, rfl, rfl⟩ := hcs
      exact ⟨[], .inl ⟨rfl, rfl, rfl, rfl⟩⟩
    · simp [Value.cells] at hcs
      obtain ⟨rfl, rfl, rfl⟩ := hcs
      exact ⟨zs, .inr ⟨_, rfl, hl, hm, by simpa using hz, hcell, hwz⟩⟩
  have y0 : len0 * 8 ≤ 140737488351232 := Go.Proofs.YtkkmfcdikkiodaaW.PrintWords.sized_ints hsz (j := 0) (t := 24) rfl rfl Try.underlying24 Try.underlying3 (by kernel_rfl) (by kernel_rfl) h0
  clear hA0 hval0 hsz0 hsz
  refine (PC4.swarflaw04_StripAll.walk Pure.StripAll a0 len0 cap0 z0 W w0 y0).mono fun e W' ⟨he, bel⟩ => ?_
  subst he
  exact ⟨_, rfl, _, _, _, [], _, [], hW', trodAll_mk1 (shut_bool Try.underlying4 _), (trodAll_cons_mk (Below.trod laidOut (by kernel_rfl) (of_decide_eq_true (by kernel_rfl)) k0 bel lt0) trodAll_mk0), rfl, bel.frame _, fun h => by cases h⟩
theorem over : Rows.stripAllRow.holds Try.pinned (OpenSpec.ofChange Rows.stripAllSpec) :=
  OpenClaim.holds_of_wide 4 Try.f4 rfl rfl rfl rfl rfl rfl rfl ⟨rfl, rfl, rfl, rfl, rfl⟩ rfl rfl rfl rfl rfl (by kernel_rfl) Try.func4 (by kernel_rfl)
    (of_decide_eq_true (by kernel_rfl)) (by unfold Func.isWrapper; first | (rw [if_pos (by decide +kernel)]; kernel_rfl) | (rw [if_neg (by decide +kernel)]; exact ⟨rfl, rfl⟩))
    (fun os started H enc _ => lifted os started H enc)
theorem proved : Rows.StripAllSaid := over
#print axioms proved
end Go.Proofs.Ytkkmfcdikkiodaa.stripAll
namespace Go.Proofs.Ytkkmfcdikkiodaa
theorem stripAll_holds : Rows.StripAllSaid := stripAll.proved
end Go.Proofs.Ytkkmfcdikkiodaa
