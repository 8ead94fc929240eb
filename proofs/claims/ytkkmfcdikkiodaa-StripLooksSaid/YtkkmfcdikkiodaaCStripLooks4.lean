/- Lemmas on the way to this: What the program says of a car, of which parts are out, of whether it is clean and of the least number of wrong looks is what the reference says, and nothing is changed: for every car, every look and every list of numbers of the size that Go can hold. -/
import Derived.Test.YtkkmfcdikkiodaaCStripLooks1
import Derived.Test.YtkkmfcdikkiodaaCStripLooks3
import Derived.Test.YtkkmfcdikkiodaaCStripLooks2
import Derived.RegionTactic
import Derived.BigRegion
import Derived.Outline
namespace Go.Proofs.Ytkkmfcdikkiodaa.PC4
open Go.RowKit Go.Proofs.YtkkmfcdikkiodaaW.PrintWords Go.Proofs.YtkkmfcdikkiodaaW.PrintLast Go.Proofs.YtkkmfcdikkiodaaW.PrintMore
attribute [local go_sem] max2_int min2_int max_two min_two max_three min_three max_four min_four
set_option linter.unusedVariables false
set_option linter.unusedSimpArgs false
def swarfkit_CopyCar.l0 : Nat → Int → List (S50) → Int → List (S61) → Int → List Int → List (S50) → Int → List (S61) → Int → List Int → Option ((List (S50)) × Int × (List (S61)) × Int × List Int)
 | 0, _, _, _, _, _, _, _, _, _, _, _ => none
 | k + 1, x4, x470000, x470001, x470002, x470003, x470004, x472000, x472001, x472002, x472003, x472004 => if x4 < (x470000.length : Int) then (if 0 ≤ x4 then ((swarfkit_Ints.f ((rd_T50 x470000 x4).f0)).bind fun t483 => (if x472000.length < 2932031007402 then (swarfkit_CopyCar.l0 k (wrap64 (x4 + 1)) x470000 x470001 x470002 x470003 x470004 (x472000 ++ [(⟨t483, (rd_T50 x470000 x4).f1, (rd_T50 x470000 x4).f2, (rd_T50 x470000 x4).f3⟩ : S50)]) x472001 x472002 x472003 x472004) else (none))) else (none)) else (some (x472000, x472001, x472002, x472003, x472004))
def swarfkit_CopyCar.f (k : Nat) (l0_0 : List (S50)) (a0_1 : Int) (l0_2 : List (S61)) (a0_3 : Int) (l0_4 : List Int) : Option ((List (S50)) × Int × (List (S61)) × Int × List Int) := (some (([] : List (S61)) : List (S61))).bind fun y472 => (if y472.length + l0_2.length < 8796093022208 then ((swarfkit_Ints.f l0_4).bind fun t478 => (swarfkit_CopyCar.l0 k 0 l0_0 a0_1 l0_2 a0_3 l0_4 ([] : List (S50)) a0_1 (y472 ++ l0_2) a0_3 t478)) else (none))
def swarfkit_CopyCar.T2 : Bool × List (List Nat × List Nat) := (true, [([], []), ([], []), ([1], [1]), ([0, 2], [0, 2]), ([], []), ([4], [4]), ([5, 3], [5]), ([], []), ([7, 6], [7]), ([0, 1, 2, 3, 7, 8], []), ([9, 3, 8, 0, 1, 2, 3, 7, 8], [3, 9]), ([0, 1, 2, 3, 4, 5, 6, 7, 8, 9, 10], []), ([11, 6, 10, 0, 1, 2, 3, 4, 5, 6, 7, 8, 9, 10], [6, 11])])
def swarfkit_CopyCar.B2 : List Nat := [0, 0, 2, 7, 0, 16, 63, 0, 255, 511, 1023, 2047, 4095]
theorem swarfkit_CopyCar.tab2 : rtab .any (opsOf Try.f19 2) = swarfkit_CopyCar.T2 := by kernel_rfl
theorem swarfkit_CopyCar.bits2 : waitsOk swarfkit_CopyCar.T2.2 swarfkit_CopyCar.B2 = true := by kernel_rfl
set_option maxHeartbeats 8000000 in
set_option maxRecDepth 100000 in
theorem swarfkit_CopyCar.calls (k : Nat) (A0_0 : Option Addr) (c0_0 : Nat) (l0_0 : List (S50)) (a0_1 : Int) (A0_2 : Option Addr) (c0_2 : Nat) (l0_2 : List (S61)) (a0_3 : Int) (A0_4 : Option Addr) (c0_4 : Nat) (l0_4 : List Int) (r1 : List (S50)) (r2 : Int) (r3 : List (S61)) (r4 : Int) (r5 : List Int) (w : World) (hr0_0 : Kd.C k50 w A0_0 l0_0.length l0_0) (hc0_0 : l0_0.length ≤ c0_0) (hr0_2 : Kd.C k61 w A0_2 l0_2.length l0_2) (hc0_2 : l0_2.length ≤ c0_2) (hr0_4 : Kd.C (Kd.int .i64) w A0_4 l0_4.length l0_4) (hc0_4 : l0_4.length ≤ c0_4) (h : swarfkit_CopyCar.f k l0_0 a0_1 l0_2 a0_3 l0_4 = some (r1, r2, r3, r4, r5)) :
  Calls Try.prog 19 #[.agg #[.slice A0_0 l0_0.length c0_0, .int .i64 a0_1, .slice A0_2 l0_2.length c0_2, .int .i64 a0_3, .slice A0_4 l0_4.length c0_4]] w fun e w' => ∃ v0_ v2_ v4_ : Value, e = .returned (.agg #[v0_, .int .i64 r2, v2_, .int .i64 r4, v4_]) ∧ Kd.S k50 50 w' w.heap.size (fun k_ => some k_ ≠ (v4_ : Value).ownBlock) v0_ r1 ∧ Kd.R k61 61 w' w.heap.size (fun _ => True) v2_ r3 ∧ Kd.R (Kd.int .i64) 3 w' w.heap.size (fun _ => True) v4_ r5 ∧ Below w.heap.size w w' := by
 have hu26 := Try.underlying26
 have hu50 := Try.underlying50
 have HR0_0 := Aside0.mk hr0_0
 have HC0_0 := Aside0.mk hc0_0
 clear hr0_0 hc0_0
 have HR0_2 := Aside0.mk hr0_2
 have HC0_2 := Aside0.mk hc0_2
 clear hr0_2 hc0_2
 have HR0_4 := Aside0.mk hr0_4
 have HC0_4 := Aside0.mk hc0_4
 clear hr0_4 hc0_4
 have HB := Aside0.mk (Below.refl w.heap.size w)
 have H : ((some (([] : List (S61)) : List (S61))).bind fun y472 => (if y472.length + l0_2.length < 8796093022208 then ((swarfkit_Ints.f l0_4).bind fun t478 => (swarfkit_CopyCar.l0 k 0 l0_0 a0_1 l0_2 a0_3 l0_4 ([] : List (S50)) a0_1 (y472 ++ l0_2) a0_3 t478)) else (none))) = some (r1, r2, r3, r4, r5) := h
 clear h
 obtain ⟨y472, hy472⟩ : ∃ y_ : List (S61), y_ = (([] : List (S61))) := ⟨_, rfl⟩
 replace H : (if y472.length + l0_2.length < 8796093022208 then ((swarfkit_Ints.f l0_4).bind fun t478 => (swarfkit_CopyCar.l0 k 0 l0_0 a0_1 l0_2 a0_3 l0_4 ([] : List (S50)) a0_1 (y472 ++ l0_2) a0_3 t478)) else (none)) = some (r1, r2, r3, r4, r5) := by first | (rw [hy472]; with_reducible exact H) | (have H2_ := (Option.bind_some _ _).symm.trans H; rw [hy472]; with_reducible exact H2_) | (have H2_ := (Option.bind_some _ _).symm.trans H; with_reducible exact H2_) | with_reducible exact H | (rw [hy472]; exact H) | exact H
 have Ny472 := Aside0.mk hy472
 clear hy472
 by_cases c2 : y472.length + l0_2.length < 8796093022208
 ·
  rw [if_pos c2] at H
  have LMc2 := Aside0.mk c2
  clear c2
  obtain ⟨y475, hy475⟩ : ∃ y_ : List (S61), y_ = (y472 ++ l0_2) := ⟨_, rfl⟩
  replace H : ((swarfkit_Ints.f l0_4).bind fun t478 => (swarfkit_CopyCar.l0 k 0 l0_0 a0_1 l0_2 a0_3 l0_4 ([] : List (S50)) a0_1 y475 a0_3 t478)) = some (r1, r2, r3, r4, r5) := by first | (rw [hy475]; with_reducible exact H) | (have H2_ := (Option.bind_some _ _).symm.trans H; rw [hy475]; with_reducible exact H2_) | (have H2_ := (Option.bind_some _ _).symm.trans H; with_reducible exact H2_) | with_reducible exact H | (rw [hy475]; exact H) | exact H
  have Ny475 := Aside0.mk hy475
  clear hy475
  replace H := Option.bind_eq_some_iff.mp H
  obtain ⟨t478, A30, H⟩ := H
  try dsimp only at H
  have A3 := Aside0.mk A30
  clear A30
  have H' := Aside0.mk H
  clear H
  go_enter Try.func19, Try.ntmps19
  try go_wp2_with (first | ((with_reducible refine gate_dst (N := 1) rfl ?_); refine box_event ?hg (N := 1) ?hd (cs := #[.slice A0_0 l0_0.length c0_0, .int .i64 a0_1, .slice A0_2 l0_2.length c0_2, .int .i64 a0_3, .slice A0_4 l0_4.length c0_4]) (t := 26) ?hr ?_; (case hd => rfl); (case hg => rfl); (case hr => first | (go_simp; done) | (go_simp; rfl)); intro gb469 hg w4 hbox hb; have BK469 := Aside0.mk (hbox); have GW469 := Aside0.mk ((by rw [hg]; exact (below_size (below_x HB.out)) : w.heap.size ≤ gb469)); have GE469 := Aside0.mk ((by rw [hg]; exact (below_size (below_x HB.out)) : w.heap.size ≤ gb469)); replace HB := Aside0.mk (below_step (below_x HB.out) hb); clear hb hbox hg) | ((with_reducible refine gate_dst (N := 2) rfl ?_); refine box_event ?hg (N := 2) ?hd (cs := #[.slice none 0 0, .int .i64 0, .slice none 0 0, .int .i64 0, .slice none 0 0]) (t := 26) ?hr ?_; (case hd => rfl); (case hg => rfl); (case hr => first | (go_simp; done) | (go_simp; rfl)); intro gb470 hg w5 hbox hb; have BK470 := Aside0.mk (hbox); have GW470 := Aside0.mk ((by rw [hg]; exact (below_size (by exact below_y HB.out)) : w.heap.size ≤ gb470)); have GE470 := Aside0.mk ((by rw [hg]; exact (below_size (by exact below_y HB.out)) : w.heap.size ≤ gb470)); replace HB := bl_x HB hb; have NB469_470 := Aside0.mk ((by rw [hg]; exact Nat.ne_of_lt (blk_lt (g := gb469) (o := .cells #[.slice A0_0 l0_0.length c0_0, .int .i64 a0_1, .slice A0_2 l0_2.length c0_2, .int .i64 a0_3, .slice A0_4 l0_4.length c0_4] 26 (0, 0)) (blk_x BK469.out)) : gb469 ≠ gb470)); have NB470_469 := Aside0.mk ((by rw [hg]; exact Nat.ne_of_gt (blk_lt (g := gb469) (o := .cells #[.slice A0_0 l0_0.length c0_0, .int .i64 a0_1, .slice A0_2 l0_2.length c0_2, .int .i64 a0_3, .slice A0_4 l0_4.length c0_4] 26 (0, 0)) (blk_x BK469.out)) : gb470 ≠ gb469)); replace BK469 := Aside0.mk (blk_below (blk_x BK469.out) hb); clear hb hbox hg; have hnb6 := NB469_470.out; have hnc6 := NB470_469.out; obtain ⟨_, _, _, _, _⟩ := cz5 BK469; have hfz7_0 := blk_frozen BK469.out) | ((with_reducible refine gate_dst (N := 3) rfl ?_); refine box_event ?hg (N := 3) ?hd (cs := #[.slice none 0 0, .int .i64 0, .slice none 0 0, .int .i64 0, .slice none 0 0]) (t := 26) ?hr ?_; (case hd => rfl); (case hg => rfl); (case hr => first | (go_simp; done) | (go_simp; rfl)); intro gb471 hg w8 hbox hb; have BK471 := Aside0.mk (hbox); have GW471 := Aside0.mk ((by rw [hg]; exact (below_size (by exact below_y HB.out)) : w.heap.size ≤ gb471)); have GE471 := Aside0.mk ((by rw [hg]; exact (below_size (by exact below_y HB.out)) : w.heap.size ≤ gb471)); replace HB := bl_x HB hb; have NB469_471 := Aside0.mk ((by rw [hg]; exact Nat.ne_of_lt (blk_lt (g := gb469) (o := .cells #[.slice A0_0 l0_0.length c0_0, .int .i64 a0_1, .slice A0_2 l0_2.length c0_2, .int .i64 a0_3, .slice A0_4 l0_4.length c0_4] 26 (0, 0)) (blk_x BK469.out)) : gb469 ≠ gb471)); have NB471_469 := Aside0.mk ((by rw [hg]; exact Nat.ne_of_gt (blk_lt (g := gb469) (o := .cells #[.slice A0_0 l0_0.length c0_0, .int .i64 a0_1, .slice A0_2 l0_2.length c0_2, .int .i64 a0_3, .slice A0_4 l0_4.length c0_4] 26 (0, 0)) (blk_x BK469.out)) : gb471 ≠ gb469)); replace BK469 := Aside0.mk (blk_below (blk_x BK469.out) hb); have NB470_471 := Aside0.mk ((by rw [hg]; exact Nat.ne_of_lt (blk_lt (g := gb470) (o := .cells #[.slice none 0 0, .int .i64 0, .slice none 0 0, .int .i64 0, .slice none 0 0] 26 (0, 0)) (blk_x BK470.out)) : gb470 ≠ gb471)); have NB471_470 := Aside0.mk ((by rw [hg]; exact Nat.ne_of_gt (blk_lt (g := gb470) (o := .cells #[.slice none 0 0, .int .i64 0, .slice none 0 0, .int .i64 0, .slice none 0 0] 26 (0, 0)) (blk_x BK470.out)) : gb471 ≠ gb470)); replace BK470 := Aside0.mk (blk_below (blk_x BK470.out) hb); clear hb hbox hg; have hnb9 := NB471_469.out; have hnc9 := NB469_471.out; have hnb10 := NB471_470.out; have hnc10 := NB470_471.out; obtain ⟨_, _, _, _, _⟩ := cz5 BK471; have hfz11_0 := blk_frozen BK471.out))
  have n0_ : Aside0 ((((((w8.setCell ⟨gb471, 0, none⟩ (.slice A0_0 l0_0.length c0_0)).setCell ⟨gb471, 1, none⟩ (.int .i64 a0_1)).setCell ⟨gb471, 2, none⟩ (.slice A0_2 l0_2.length c0_2)).setCell ⟨gb471, 3, none⟩ (.int .i64 a0_3)).setCell ⟨gb471, 4, none⟩ (.slice A0_4 l0_4.length c0_4)).heap[gb469]? = some (.cells #[.slice A0_0 l0_0.length c0_0, .int .i64 a0_1, .slice A0_2 l0_2.length c0_2, .int .i64 a0_3, .slice A0_4 l0_4.length c0_4] 26 (0, 0))) := ⟨blk_w BK469.out⟩
  have n1_ : Aside0 ((((((w8.setCell ⟨gb471, 0, none⟩ (.slice A0_0 l0_0.length c0_0)).setCell ⟨gb471, 1, none⟩ (.int .i64 a0_1)).setCell ⟨gb471, 2, none⟩ (.slice A0_2 l0_2.length c0_2)).setCell ⟨gb471, 3, none⟩ (.int .i64 a0_3)).setCell ⟨gb471, 4, none⟩ (.slice A0_4 l0_4.length c0_4)).heap[gb470]? = some (.cells #[.slice none 0 0, .int .i64 0, .slice none 0 0, .int .i64 0, .slice none 0 0] 26 (0, 0))) := ⟨blk_w BK470.out⟩
  have n2_ : Aside0 ((((((w8.setCell ⟨gb471, 0, none⟩ (.slice A0_0 l0_0.length c0_0)).setCell ⟨gb471, 1, none⟩ (.int .i64 a0_1)).setCell ⟨gb471, 2, none⟩ (.slice A0_2 l0_2.length c0_2)).setCell ⟨gb471, 3, none⟩ (.int .i64 a0_3)).setCell ⟨gb471, 4, none⟩ (.slice A0_4 l0_4.length c0_4)).heap[gb471]? = some (.cells #[.slice A0_0 l0_0.length c0_0, .int .i64 a0_1, .slice A0_2 l0_2.length c0_2, .int .i64 a0_3, .slice A0_4 l0_4.length c0_4] 26 (0, 0))) := ⟨by (with_reducible repeat (first | refine blk_drewN ?_ _ | refine blk_drew ?_ | refine blk_alloc ?_ _)); refine blk_put (cs := #[.slice A0_0 l0_0.length c0_0, .int .i64 a0_1, .slice A0_2 l0_2.length c0_2, .int .i64 a0_3, .slice none 0 0]) ?_ 4 _ rfl; (with_reducible repeat (first | refine blk_drewN ?_ _ | refine blk_drew ?_ | refine blk_alloc ?_ _)); refine blk_put (cs := #[.slice A0_0 l0_0.length c0_0, .int .i64 a0_1, .slice A0_2 l0_2.length c0_2, .int .i64 0, .slice none 0 0]) ?_ 3 _ rfl; (with_reducible repeat (first | refine blk_drewN ?_ _ | refine blk_drew ?_ | refine blk_alloc ?_ _)); refine blk_put (cs := #[.slice A0_0 l0_0.length c0_0, .int .i64 a0_1, .slice none 0 0, .int .i64 0, .slice none 0 0]) ?_ 2 _ rfl; (with_reducible repeat (first | refine blk_drewN ?_ _ | refine blk_drew ?_ | refine blk_alloc ?_ _)); refine blk_put (cs := #[.slice A0_0 l0_0.length c0_0, .int .i64 0, .slice none 0 0, .int .i64 0, .slice none 0 0]) ?_ 1 _ rfl; (with_reducible repeat (first | refine blk_drewN ?_ _ | refine blk_drew ?_ | refine blk_alloc ?_ _)); refine blk_put (cs := #[.slice none 0 0, .int .i64 0, .slice none 0 0, .int .i64 0, .slice none 0 0]) ?_ 0 _ rfl; (with_reducible repeat (first | refine blk_drewN ?_ _ | refine blk_drew ?_ | refine blk_alloc ?_ _)); exact BK471.out⟩
  have n3_ : Aside0 (Below w.heap.size w (((((w8.setCell ⟨gb471, 0, none⟩ (.slice A0_0 l0_0.length c0_0)).setCell ⟨gb471, 1, none⟩ (.int .i64 a0_1)).setCell ⟨gb471, 2, none⟩ (.slice A0_2 l0_2.length c0_2)).setCell ⟨gb471, 3, none⟩ (.int .i64 a0_3)).setCell ⟨gb471, 4, none⟩ (.slice A0_4 l0_4.length c0_4))) := ⟨by exact below_y HB.out⟩
  (try clear BK469)
  (try clear BK470)
  (try clear BK471)
  (try clear HB)
  generalize (((((w8.setCell ⟨gb471, 0, none⟩ (.slice A0_0 l0_0.length c0_0)).setCell ⟨gb471, 1, none⟩ (.int .i64 a0_1)).setCell ⟨gb471, 2, none⟩ (.slice A0_2 l0_2.length c0_2)).setCell ⟨gb471, 3, none⟩ (.int .i64 a0_3)).setCell ⟨gb471, 4, none⟩ (.slice A0_4 l0_4.length c0_4)) = w12 at n0_ n1_ n2_ n3_ ⊢
  have BK469 := n0_
  have BK470 := n1_
  have BK471 := n2_
  have HB := n3_
  clear n0_ n1_ n2_ n3_
  replace BK469 := Aside0.mk (blk_drew BK469.out)
  replace BK470 := Aside0.mk (blk_drew BK470.out)
  replace BK471 := Aside0.mk (blk_drew BK471.out)
  replace HB := Aside0.mk (below_drew1 HB.out)
  refine start_ (n := 13) (S := fun w' => w'.cell? ⟨gb469, 0, none⟩ = some (.slice A0_0 l0_0.length c0_0) ∧ w'.cell? ⟨gb469, 1, none⟩ = some (.int .i64 a0_1) ∧ w'.cell? ⟨gb469, 2, none⟩ = some (.slice A0_2 l0_2.length c0_2) ∧ w'.cell? ⟨gb469, 3, none⟩ = some (.int .i64 a0_3) ∧ w'.cell? ⟨gb469, 4, none⟩ = some (.slice A0_4 l0_4.length c0_4)) (ds := []) #[false, false, false, false, false, false, false, false, false, false, false, false, false] (by kernel_rfl) rfl rfl ⟨(blk_cell BK469.out 0).trans rfl, (blk_cell BK469.out 1).trans rfl, (blk_cell BK469.out 2).trans rfl, (blk_cell BK469.out 3).trans rfl, (blk_cell BK469.out 4).trans rfl⟩ (fun hHeld => ?_); refine with_tabW swarfkit_CopyCar.tab2 swarfkit_CopyCar.bits2 (fun HT_ HW_ => ?_)
  generalize w12.drew = w13 at BK469 BK470 BK471 HB hHeld ⊢
  refine pure_ (i := 1) (N := some 8) (v := ?_) (a' := ?_) (bz 13 2) rfl rfl (any_of HT_.out (by kernel_rfl)) (fun _ _ _ h => h) (Or.inl ⟨by rfl, ?_⟩) ?_ ?_
  rotate_left
  ·
   intro w'
   go_simp
   with_reducible rfl
  rotate_left
  ·
   simp only [Act.put, put_x, i64_w, i32_w]
   rfl
  refine pure_ (i := 4) (N := some 11) (v := ?_) (a' := ?_) (bz 13 18) rfl rfl (any_of HT_.out (by kernel_rfl)) (fun _ _ _ h => h) (Or.inl ⟨by rfl, ?_⟩) ?_ ?_
  rotate_left
  ·
   intro w'
   go_simp
   with_reducible rfl
  rotate_left
  ·
   simp only [Act.put, put_x, i64_w, i32_w]
   rfl
  refine pure_ (i := 7) (N := some 14) (v := ?_) (a' := ?_) (bz 13 146) rfl rfl (any_of HT_.out (by kernel_rfl)) (fun _ _ _ h => h) (Or.inl ⟨by rfl, ?_⟩) ?_ ?_
  rotate_left
  ·
   intro w'
   go_simp
   with_reducible rfl
  rotate_left
  ·
   simp only [Act.put, put_x, i64_w, i32_w]
   rfl
  refine take_ (i := 2) (N := some 9) (v := ?_) (a' := ?_) (bz 13 150) rfl rfl (take_ofW HT_.out HW_.out (by kernel_rfl)) (fun _ _ _ h => h) (Or.inl ⟨by rfl, ?_⟩) hHeld ?_ ?_
  rotate_left
  ·
   rintro w' ⟨s0, s1, s2, s3, s4⟩
   go_simp
   with_reducible rfl
  rotate_left
  ·
   simp only [Act.put, put_x, i64_w, i32_w]
   rfl
  refine take_ (i := 5) (N := some 12) (v := ?_) (a' := ?_) (bz 13 182) rfl rfl (take_ofW HT_.out HW_.out (by kernel_rfl)) (fun _ _ _ h => h) (Or.inl ⟨by rfl, ?_⟩) hHeld ?_ ?_
  rotate_left
  ·
   rintro w' ⟨s0, s1, s2, s3, s4⟩
   go_simp
   with_reducible rfl
  rotate_left
  ·
   simp only [Act.put, put_x, i64_w, i32_w]
   rfl
  refine one_ (i := 0) (N := some 7) (bz 13 183) rfl rfl (one_of HT_.out (by kernel_rfl)) (by decide) (fun K hK => ?_)
  refine Kd.R_lit_step k61 _ 61 ?hg (N := 7) ?hd (xs := ([] : List (S61))) (inner := []) (ok := fun _ => True) (okp := fun _ => True) ?hr ?hp (fun _ hk => hk) trivial (Below.refl _ _) (Nat.le_refl _) (by simp) ?_; (case hd => rfl); (case hg => rfl); (case hr => first | (go_simp; done) | (go_simp; rfl)); (case hp => exact (Reps.none _ _))
  intro v473 w14 ho15 hb hg_ hnew_
  clear hg_ hnew_
  (first | rw [← Ny472.out] at ho15 | (simp only [Int.reduceToNat] at ho15; rw [← Ny472.out] at ho15))
  have HO474 := Aside0.mk (Kd.R_lower ho15 (below_size (by exact below_y HB.out)))
  replace BK469 := Aside0.mk (blk_below (blk_x BK469.out) hb)
  replace BK470 := Aside0.mk (blk_below (blk_x BK470.out) hb)
  replace BK471 := Aside0.mk (blk_below (blk_x BK471.out) hb)
  replace HB := bl_x HB hb
  clear hb ho15
  refine hK.out _ _ ⟨(blk_cell BK469.out 0).trans rfl, (blk_cell BK469.out 1).trans rfl, (blk_cell BK469.out 2).trans rfl, (blk_cell BK469.out 3).trans rfl, (blk_cell BK469.out 4).trans rfl⟩ (fun hHeld => ?_)
  clear hK K
  refine norm_ (a' := ?_) ?_ ?_
  rotate_left
  ·
   show Act.put _ (some 7) _ = _
   simp only [Act.put, put_x, i64_w, i32_w]
   rfl
  refine one_ (i := 3) (N := some 10) (bz 13 191) rfl rfl (one_of HT_.out (by kernel_rfl)) (by decide) (fun K hK => ?_)
  refine Kd.R_append_rows_step k61 (w0 := w) w.heap.size (by rfl) (.tmp 7) (.tmp 9) 23 61 (.agg #[(.int .i64 0), (.bool false)]) 16 rfl Try.underlying23 info61 rfl (by decide) (by omega) v473 y472 l0_2 _ _ _ (fun _ => True) (fun _ => False) rfl rfl ?aO ?aR (fun _ _ h => h) (fun _ h => h.elim) ?aF ?aB ?aS ?aL ?_
  (case aR => exact Kd.C_x HR0_2.out HB.out)
  (case aB => exact (by exact below_y HB.out))
  (case aF => exact (fun _ _ => trivial))
  (case aO => exact (Kd.R_x HO474.out))
  (case aS => exact (below_size (by exact below_y HB.out)))
  (case aL => have := LMc2.out; omega)
  intro v476 w16 ho hb hg hat
  rw [← Ny475.out] at ho
  replace BK469 := Aside0.mk (blk_grown (blk_x BK469.out) hg (Kd.R_ne HO474.out BK469.out (by decide)))
  replace BK470 := Aside0.mk (blk_grown (blk_x BK470.out) hg (Kd.R_ne HO474.out BK470.out (by decide)))
  replace BK471 := Aside0.mk (blk_grown (blk_x BK471.out) hg (Kd.R_ne HO474.out BK471.out (by decide)))
  replace HB := Aside0.mk (hb)
  have HO477 := Aside0.mk (ho)
  clear HO474 ho hb hg hat
  refine hK.out _ _ ⟨(blk_cell BK469.out 0).trans rfl, (blk_cell BK469.out 1).trans rfl, (blk_cell BK469.out 2).trans rfl, (blk_cell BK469.out 3).trans rfl, (blk_cell BK469.out 4).trans rfl⟩ (fun hHeld => ?_)
  clear hK K
  refine norm_ (a' := ?_) ?_ ?_
  rotate_left
  ·
   show Act.put _ (some 10) _ = _
   simp only [Act.put, put_x, i64_w, i32_w]
   rfl
  refine one_ (i := 6) (N := some 13) (bz 13 255) rfl rfl (one_of HT_.out (by kernel_rfl)) (by decide) (fun K hK => ?_)
  refine goes_ Try.func43 (by kernel_rfl) rfl #[.slice A0_4 l0_4.length c0_4] (by rfl) rfl rfl (by (try simp only [List.map_toArray, List.map_cons, List.map_nil]); first | done | rfl | (simp only [List.length_drop, List.length_take]; rfl)) ?_
  with_reducible refine (swarfkit_Ints.calls _ _ l0_4 t478 _ ?side1 ?side2 A3.out).mono ?_
  (case side1 => exact Kd.C_x HR0_4.out HB.out)
  (case side2 => exact HC0_4.out)
  rintro e w17 ⟨v479, rfl, ho0, hb⟩
  refine ⟨_, rfl, ?_⟩
  replace HO477 := Aside0.mk (Kd.R_below (Kd.R_x HO477.out) hb)
  have HO480 := Aside0.mk (Kd.R_lower ho0 (below_size (by exact below_y HB.out)))
  replace BK469 := Aside0.mk (blk_below (blk_x BK469.out) hb)
  replace BK470 := Aside0.mk (blk_below (blk_x BK470.out) hb)
  replace BK471 := Aside0.mk (blk_below (blk_x BK471.out) hb)
  replace HB := bl_x HB hb
  (try clear hb)
  (try clear hb2)
  (try clear hk)
  (try clear hi)
  (try clear ho0)
  obtain ⟨Ao19, co19, eo19⟩ := Kd.R_slice HO477.out
  (first | subst eo19 | (injection eo19 with f1_ f2_ f3_; have f4_ := f1_.symm; have f5_ := f3_.symm; clear f1_ f2_ f3_; subst f4_; subst f5_))
  obtain ⟨Ao21, co21, eo21⟩ := Kd.R_slice HO480.out
  (first | subst eo21 | (injection eo21 with f1_ f2_ f3_; have f4_ := f1_.symm; have f5_ := f3_.symm; clear f1_ f2_ f3_; subst f4_; subst f5_))
  refine hK.out _ _ ⟨(blk_cell BK469.out 0).trans rfl, (blk_cell BK469.out 1).trans rfl, (blk_cell BK469.out 2).trans rfl, (blk_cell BK469.out 3).trans rfl, (blk_cell BK469.out 4).trans rfl⟩ (fun hHeld => ?_)
  clear hK K
  refine norm_ (a' := ?_) ?_ ?_
  rotate_left
  ·
   show Act.put _ (some 13) _ = _
   simp only [Act.put, put_x, i64_w, i32_w]
   rfl
  refine one_ (i := 8) (N := none) (bz 13 511) rfl rfl (one_of HT_.out (by kernel_rfl)) (by decide) (fun K hK => ?_)
  have hs18 : w17.cell? ⟨gb471, 0, none⟩ = some (.slice A0_0 l0_0.length c0_0) := (blk_cell BK471.out 0).trans rfl
  have hfs18 := blk_frozen BK471.out 0
  have hns18_0 := NB469_471.out
  have hns18_1 := NB470_471.out
  have hms18_0 := NB471_469.out
  have hms18_1 := NB471_470.out
  refine skip_ (w1 := ?_) (by rfl) rfl ?_ ?_
  rotate_left
  ·
   go_simp
   rfl
  refine hK.out _ _ ⟨((cell_far (p := ⟨gb471, _, none⟩) NB469_471.out _).trans (hHeld.1)), ((cell_far (p := ⟨gb471, _, none⟩) NB469_471.out _).trans (hHeld.2.1)), ((cell_far (p := ⟨gb471, _, none⟩) NB469_471.out _).trans (hHeld.2.2.1)), ((cell_far (p := ⟨gb471, _, none⟩) NB469_471.out _).trans (hHeld.2.2.2.1)), ((cell_far (p := ⟨gb471, _, none⟩) NB469_471.out _).trans (hHeld.2.2.2.2))⟩ (fun hHeld => ?_)
  clear hK K
  refine pure_ (i := 9) (N := some 15) (v := ?_) (a' := ?_) (bz 13 1023) rfl rfl (any_of HT_.out (by kernel_rfl)) (fun _ _ _ h => h) (Or.inl ⟨by rfl, ?_⟩) ?_ ?_
  rotate_left
  ·
   intro w'
   go_simp
   with_reducible rfl
  rotate_left
  ·
   simp only [Act.put, put_x, i64_w, i32_w]
   rfl
  refine one_ (i := 10) (N := none) (bz 13 2047) rfl rfl (one_of HT_.out (by kernel_rfl)) (by decide) (fun K hK => ?_)
  have hs20 : w17.cell? ⟨gb471, 2, none⟩ = some (.slice A0_2 l0_2.length c0_2) := (blk_cell BK471.out 2).trans rfl
  have hfs20 := blk_frozen BK471.out 2
  have hns20_0 := NB469_471.out
  have hns20_1 := NB470_471.out
  have hms20_0 := NB471_469.out
  have hms20_1 := NB471_470.out
  refine skip_ (w1 := ?_) (by rfl) rfl ?_ ?_
  rotate_left
  ·
   go_simp
   rfl
  refine hK.out _ _ ⟨((cell_far (p := ⟨gb471, _, none⟩) NB469_471.out _).trans (hHeld.1)), ((cell_far (p := ⟨gb471, _, none⟩) NB469_471.out _).trans (hHeld.2.1)), ((cell_far (p := ⟨gb471, _, none⟩) NB469_471.out _).trans (hHeld.2.2.1)), ((cell_far (p := ⟨gb471, _, none⟩) NB469_471.out _).trans (hHeld.2.2.2.1)), ((cell_far (p := ⟨gb471, _, none⟩) NB469_471.out _).trans (hHeld.2.2.2.2))⟩ (fun hHeld => ?_)
  clear hK K
  refine pure_ (i := 11) (N := some 16) (v := ?_) (a' := ?_) (bz 13 4095) rfl rfl (any_of HT_.out (by kernel_rfl)) (fun _ _ _ h => h) (Or.inl ⟨by rfl, ?_⟩) ?_ ?_
  rotate_left
  ·
   intro w'
   go_simp
   with_reducible rfl
  rotate_left
  ·
   simp only [Act.put, put_x, i64_w, i32_w]
   rfl
  refine one_ (i := 12) (N := none) (bz 13 8191) rfl rfl (one_of HT_.out (by kernel_rfl)) (by decide) (fun K hK => ?_)
  have hs22 : w17.cell? ⟨gb471, 4, none⟩ = some (.slice A0_4 l0_4.length c0_4) := (blk_cell BK471.out 4).trans rfl
  have hfs22 := blk_frozen BK471.out 4
  have hns22_0 := NB469_471.out
  have hns22_1 := NB470_471.out
  have hms22_0 := NB471_469.out
  have hms22_1 := NB471_470.out
  refine skip_ (w1 := ?_) (by rfl) rfl ?_ ?_
  rotate_left
  ·
   go_simp
   rfl
  refine hK.out _ _ ⟨((cell_far (p := ⟨gb471, _, none⟩) NB469_471.out _).trans (hHeld.1)), ((cell_far (p := ⟨gb471, _, none⟩) NB469_471.out _).trans (hHeld.2.1)), ((cell_far (p := ⟨gb471, _, none⟩) NB469_471.out _).trans (hHeld.2.2.1)), ((cell_far (p := ⟨gb471, _, none⟩) NB469_471.out _).trans (hHeld.2.2.2.1)), ((cell_far (p := ⟨gb471, _, none⟩) NB469_471.out _).trans (hHeld.2.2.2.2))⟩ (fun hHeld => ?_)
  clear hK K
  refine done_ (done_of HT_.out (by kernel_rfl)) ?_
  try go_wp2
  go_loopg [4] k (fun kq v4 w' => ∃ (x4_1 : Int) (x472000_1 : List (S50)) (u472000 : Value), v4 = .int .i64 x4_1 ∧ Aside0 (swarfkit_CopyCar.l0 kq x4_1 l0_0 a0_1 l0_2 a0_3 l0_4 x472000_1 a0_1 y475 a0_3 t478 = some (r1, r2, r3, r4, r5)) ∧ Aside0 (kq ≤ k) ∧ Aside0 (Kd.S k50 50 w' w.heap.size (fun k_ => some k_ ≠ ((.slice Ao21 t478.length co21) : Value).ownBlock) u472000 x472000_1) ∧ Aside0 (Kd.R k61 61 w' w.heap.size (fun _ => True) (.slice Ao19 y475.length co19) y475) ∧ Aside0 (Kd.R (Kd.int .i64) 3 w' w.heap.size (fun _ => True) (.slice Ao21 t478.length co21) t478) ∧ Aside0 (w'.heap[gb469]? = some (.cells #[(.slice A0_0 l0_0.length c0_0), .int .i64 a0_1, (.slice A0_2 l0_2.length c0_2), .int .i64 a0_3, (.slice A0_4 l0_4.length c0_4)] 26 (0, 0))) ∧ Aside0 (w'.heap[gb470]? = some (.cells #[(.slice none 0 0), .int .i64 0, (.slice none 0 0), .int .i64 0, (.slice none 0 0)] 26 (0, 0))) ∧ Aside0 (w'.heap[gb471]? = some (.cells #[u472000, .int .i64 a0_1, (.slice Ao19 y475.length co19), .int .i64 a0_3, (.slice Ao21 t478.length co21)] 26 (0, 0))) ∧ Aside0 (Below w.heap.size w w'))
  case atStart => exact ⟨(0), (([] : List (S50))), (.slice none 0 0), (by first | rfl | (simp; done) | (simp [*]; done)), H', ⟨Nat.le_refl _⟩, ⟨by first | exact Kd.S_nil _ _ _ _ _ | exact Kd.N_nil _ _ _ _ _ | exact Kd.V_nil _ _ _ _ _ | exact Kd.Q_nil _ _ _ _ _ | exact Kd.R_nil _ _ _ _ _⟩, ⟨by (with_reducible repeat (first | apply Kd.R_alloc | apply Kd.R_drewN | apply Kd.R_drew)); exact Kd.R_mono (Kd.R_far (p := ⟨gb471, 4, none⟩) (Kd.R_far (p := ⟨gb471, 2, none⟩) (Kd.R_far (p := ⟨gb471, 0, none⟩) (Kd.R_types HO477.out BK471.out (by decide)) (fun _ hk => hk.2) (.slice none 0 0)) (fun _ hk => hk.2) (.slice Ao19 y475.length co19)) (fun _ hk => hk.2) (.slice Ao21 t478.length co21)) (fun _ hk => trivial)⟩, ⟨by (with_reducible repeat (first | apply Kd.R_alloc | apply Kd.R_drewN | apply Kd.R_drew)); exact Kd.R_mono (Kd.R_far (p := ⟨gb471, 4, none⟩) (Kd.R_far (p := ⟨gb471, 2, none⟩) (Kd.R_far (p := ⟨gb471, 0, none⟩) (Kd.R_types HO480.out BK471.out (by decide)) (fun _ hk => hk.2) (.slice none 0 0)) (fun _ hk => hk.2) (.slice Ao19 y475.length co19)) (fun _ hk => hk.2) (.slice Ao21 t478.length co21)) (fun _ hk => trivial)⟩, ⟨blk_w BK469.out⟩, ⟨blk_w BK470.out⟩, ⟨by (with_reducible repeat (first | refine blk_drewN ?_ _ | refine blk_drew ?_ | refine blk_alloc ?_ _)); refine blk_put (cs := #[.slice none 0 0, .int .i64 a0_1, .slice Ao19 y475.length co19, .int .i64 a0_3, .slice A0_4 l0_4.length c0_4]) ?_ 4 _ rfl; (with_reducible repeat (first | refine blk_drewN ?_ _ | refine blk_drew ?_ | refine blk_alloc ?_ _)); refine blk_put (cs := #[.slice none 0 0, .int .i64 a0_1, .slice A0_2 l0_2.length c0_2, .int .i64 a0_3, .slice A0_4 l0_4.length c0_4]) ?_ 2 _ rfl; (with_reducible repeat (first | refine blk_drewN ?_ _ | refine blk_drew ?_ | refine blk_alloc ?_ _)); refine blk_put (cs := #[.slice A0_0 l0_0.length c0_0, .int .i64 a0_1, .slice A0_2 l0_2.length c0_2, .int .i64 a0_3, .slice A0_4 l0_4.length c0_4]) ?_ 0 _ rfl; (with_reducible repeat (first | refine blk_drewN ?_ _ | refine blk_drew ?_ | refine blk_alloc ?_ _)); exact BK471.out⟩, ⟨by exact below_y HB.out⟩⟩
  case round =>
   clear H'
   try clear HO_472000
   try clear HO_472002
   try clear HO_472004
   try clear BK469
   try clear BK470
   try clear BK471
   try clear HB
   obtain ⟨x4_1, x472000_1, u472000, rfl, HA, HK1, HO_472000, HO_472002, HO_472004, BK469, BK470, BK471, HB⟩ := hrel
   cases gk with
   | zero => exact absurd HA.out (by simp [swarfkit_CopyCar.l0])
   | succ k1 =>
    have H := HA.out
    clear HA
    simp only [swarfkit_CopyCar.l0] at H
    by_cases c23 : x4_1 < (l0_0.length : Int)
    ·
     rw [if_pos c23] at H
     have c23b0 : decide (x4_1 < (l0_0.length : Int)) = true := decide_eq_true c23
     clear c23
     by_cases c24 : 0 ≤ x4_1
     ·
      rw [if_pos c24] at H
      have c24b0 : decide (0 ≤ x4_1) = true := decide_eq_true c24
      clear c24
      replace H := Option.bind_eq_some_iff.mp H
      obtain ⟨t483, A250, H⟩ := H
      try dsimp only at H
      have A25 := Aside0.mk A250
      clear A250
      by_cases c26 : x472000_1.length < 2932031007402
      ·
       rw [if_pos c26] at H
       have LMc26 := Aside0.mk c26
       clear c26
       obtain ⟨y486, hy486⟩ : ∃ y_ : List (S50), y_ = (x472000_1 ++ [(⟨t483, (rd_T50 l0_0 x4_1).f1, (rd_T50 l0_0 x4_1).f2, (rd_T50 l0_0 x4_1).f3⟩ : S50)]) := ⟨_, rfl⟩
       replace H : (swarfkit_CopyCar.l0 k1 (wrap64 (x4_1 + 1)) l0_0 a0_1 l0_2 a0_3 l0_4 y486 a0_1 y475 a0_3 t478) = some (r1, r2, r3, r4, r5) := by first | (rw [hy486]; with_reducible exact H) | (have H2_ := (Option.bind_some _ _).symm.trans H; rw [hy486]; with_reducible exact H2_) | (have H2_ := (Option.bind_some _ _).symm.trans H; with_reducible exact H2_) | with_reducible exact H | (rw [hy486]; exact H) | exact H
       have Ny486 := Aside0.mk hy486
       clear hy486
       have H' := Aside0.mk H
       clear H
       have hnb27 := NB469_470.out
       have hnc27 := NB470_469.out
       have hnb28 := NB469_471.out
       have hnc28 := NB471_469.out
       obtain ⟨_, _, _, _, _⟩ := cz5 BK469
       have hfz29_0 := blk_frozen BK469.out
       have p481 : 0 ≤ (x4_1 : Int) := of_x
       have q481 : x4_1 < (l0_0.length : Int) := of_x
       obtain ⟨ad481, A481_0, c481_0, e481, hx481_0, hx481_1, hx481_2, hx481_3, hl481_0, hi481_0⟩ := at_T50 HR0_0.out x4_1 p481 q481
       cases e481
       replace hx481_0 := cell_x HB hx481_0
       replace hx481_1 := cell_x HB hx481_1
       replace hx481_2 := cell_x HB hx481_2
       replace hx481_3 := cell_x HB hx481_3
       have HR481_0 := Aside0.mk hi481_0
       have HC481_0 := Aside0.mk hl481_0
       clear hi481_0 hl481_0
       replace p481 := eq_true p481
       replace q481 := eq_true q481
       go_wp2_with (first | ((with_reducible refine gate_dst (N := 5) rfl ?_); refine box_event ?hg (N := 5) ?hd (cs := #[.slice none 0 0, .bool false, .int .i64 0, .int .i64 0]) (t := 50) ?hr ?_; (case hd => rfl); (case hg => rfl); (case hr => first | (go_simp; done) | (go_simp; rfl)); intro gb482 hg w30 hbox hb; replace HO_472000 := Aside0.mk (Kd.S_below (Kd.S_elderB (Kd.S_x HO_472000.out) gb482 (Nat.le_of_eq hg.symm)) hb); replace HO_472002 := Aside0.mk (Kd.R_below (Kd.R_x HO_472002.out) hb); replace HO_472004 := Aside0.mk (Kd.R_below (Kd.R_x HO_472004.out) hb); have BK482 := Aside0.mk (hbox); have GW482 := Aside0.mk ((by rw [hg]; exact (below_size (by exact below_y HB.out)) : w.heap.size ≤ gb482)); have GE482 := Aside0.mk ((by rw [hg]; exact (below_size (by exact below_y HB.out)) : w.heap.size ≤ gb482)); replace HB := bl_x HB hb; have NB469_482 := Aside0.mk ((by rw [hg]; exact Nat.ne_of_lt (blk_lt (g := gb469) (o := .cells #[.slice (some ad481) l0_0.length c0_0, .int .i64 a0_1, .slice A0_2 l0_2.length c0_2, .int .i64 a0_3, .slice A0_4 l0_4.length c0_4] 26 (0, 0)) (blk_x BK469.out)) : gb469 ≠ gb482)); have NB482_469 := Aside0.mk ((by rw [hg]; exact Nat.ne_of_gt (blk_lt (g := gb469) (o := .cells #[.slice (some ad481) l0_0.length c0_0, .int .i64 a0_1, .slice A0_2 l0_2.length c0_2, .int .i64 a0_3, .slice A0_4 l0_4.length c0_4] 26 (0, 0)) (blk_x BK469.out)) : gb482 ≠ gb469)); replace BK469 := Aside0.mk (blk_below (blk_x BK469.out) hb); have NB470_482 := Aside0.mk ((by rw [hg]; exact Nat.ne_of_lt (blk_lt (g := gb470) (o := .cells #[.slice none 0 0, .int .i64 0, .slice none 0 0, .int .i64 0, .slice none 0 0] 26 (0, 0)) (blk_x BK470.out)) : gb470 ≠ gb482)); have NB482_470 := Aside0.mk ((by rw [hg]; exact Nat.ne_of_gt (blk_lt (g := gb470) (o := .cells #[.slice none 0 0, .int .i64 0, .slice none 0 0, .int .i64 0, .slice none 0 0] 26 (0, 0)) (blk_x BK470.out)) : gb482 ≠ gb470)); replace BK470 := Aside0.mk (blk_below (blk_x BK470.out) hb); have NB471_482 := Aside0.mk ((by rw [hg]; exact Nat.ne_of_lt (blk_lt (g := gb471) (o := .cells #[u472000, .int .i64 a0_1, .slice Ao19 y475.length co19, .int .i64 a0_3, .slice Ao21 t478.length co21] 26 (0, 0)) (blk_x BK471.out)) : gb471 ≠ gb482)); have NB482_471 := Aside0.mk ((by rw [hg]; exact Nat.ne_of_gt (blk_lt (g := gb471) (o := .cells #[u472000, .int .i64 a0_1, .slice Ao19 y475.length co19, .int .i64 a0_3, .slice Ao21 t478.length co21] 26 (0, 0)) (blk_x BK471.out)) : gb482 ≠ gb471)); replace BK471 := Aside0.mk (blk_below (blk_x BK471.out) hb); clear hb hbox hg; have hnb31 := NB482_469.out; have hnc31 := NB469_482.out; have hnb32 := NB482_470.out; have hnc32 := NB470_482.out; have hnb33 := NB482_471.out; have hnc33 := NB471_482.out; obtain ⟨_, _, _, _⟩ := cz4 BK482; have hfz34_0 := blk_frozen BK482.out) | ((with_reducible refine gate_callee (f := 43) rfl ?_); refine goesL_ (some 31) rfl rfl Try.func43 (by kernel_rfl) rfl #[.slice A481_0 ((rd_T50 l0_0 x4_1).f0).length c481_0] rfl (by (try simp only [List.map_toArray, List.map_cons, List.map_nil]); first | done | rfl | (simp only [List.length_drop, List.length_take]; rfl)) ?_; (with_reducible refine (swarfkit_Ints.calls _ _ ((rd_T50 l0_0 x4_1).f0) t483 _ ?side1 ?side2 A25.out).mono ?_); (case side1 => exact Kd.C_below HR481_0.out (by exact below_y HB.out)); (case side2 => exact HC481_0.out); rintro e w35 ⟨v484, rfl, ho0, hb⟩; refine ⟨_, rfl, ?_⟩; replace HO_472000 := Aside0.mk (Kd.S_elder' (by (with_reducible repeat (first | apply Kd.S_alloc | apply Kd.S_drewN | apply Kd.S_drew)); exact (Kd.S_mono (Kd.S_far (p := ⟨gb482, 3, none⟩) (Kd.S_far (p := ⟨gb482, 2, none⟩) (Kd.S_far (p := ⟨gb482, 1, none⟩) (Kd.S_far (p := ⟨gb482, 0, none⟩) (Kd.S_mono HO_472000.out (fun k_ hk => (⟨hk, hk.2⟩ : _ ∧ k_ ≠ gb482))) (fun _ hk => hk.2) (.slice A481_0 ((rd_T50 l0_0 x4_1).f0).length c481_0)) (fun _ hk => hk.2) (.bool ((rd_T50 l0_0 x4_1).f1))) (fun _ hk => hk.2) (.int .i64 ((rd_T50 l0_0 x4_1).f2))) (fun _ hk => hk.2) (.int .i64 ((rd_T50 l0_0 x4_1).f3))) (fun _ h_ => h_.1))) (Kd.R_base ho0) hb); replace HO_472002 := Aside0.mk (Kd.R_below (by (with_reducible repeat (first | apply Kd.R_alloc | apply Kd.R_drewN | apply Kd.R_drew)); exact (Kd.R_mono (Kd.R_far (p := ⟨gb482, 3, none⟩) (Kd.R_far (p := ⟨gb482, 2, none⟩) (Kd.R_far (p := ⟨gb482, 1, none⟩) (Kd.R_far (p := ⟨gb482, 0, none⟩) (Kd.R_types HO_472002.out BK482.out (by decide)) (fun _ hk => hk.2) (.slice A481_0 ((rd_T50 l0_0 x4_1).f0).length c481_0)) (fun _ hk => hk.2) (.bool ((rd_T50 l0_0 x4_1).f1))) (fun _ hk => hk.2) (.int .i64 ((rd_T50 l0_0 x4_1).f2))) (fun _ hk => hk.2) (.int .i64 ((rd_T50 l0_0 x4_1).f3))) (fun _ h_ => h_.1))) hb); have HO485 := Aside0.mk (Kd.R_lower (Kd.R_new' ho0 (Kd.R_lt (by (with_reducible repeat (first | apply Kd.R_alloc | apply Kd.R_drewN | apply Kd.R_drew)); exact (Kd.R_mono (Kd.R_far (p := ⟨gb482, 3, none⟩) (Kd.R_far (p := ⟨gb482, 2, none⟩) (Kd.R_far (p := ⟨gb482, 1, none⟩) (Kd.R_far (p := ⟨gb482, 0, none⟩) (Kd.R_types HO_472004.out BK482.out (by decide)) (fun _ hk => hk.2) (.slice A481_0 ((rd_T50 l0_0 x4_1).f0).length c481_0)) (fun _ hk => hk.2) (.bool ((rd_T50 l0_0 x4_1).f1))) (fun _ hk => hk.2) (.int .i64 ((rd_T50 l0_0 x4_1).f2))) (fun _ hk => hk.2) (.int .i64 ((rd_T50 l0_0 x4_1).f3))) (fun _ h_ => h_.1))))) (below_size (by exact below_y HB.out))); replace HO_472004 := Aside0.mk (Kd.R_elder' (by (with_reducible repeat (first | apply Kd.R_alloc | apply Kd.R_drewN | apply Kd.R_drew)); exact (Kd.R_mono (Kd.R_far (p := ⟨gb482, 3, none⟩) (Kd.R_far (p := ⟨gb482, 2, none⟩) (Kd.R_far (p := ⟨gb482, 1, none⟩) (Kd.R_far (p := ⟨gb482, 0, none⟩) (Kd.R_types HO_472004.out BK482.out (by decide)) (fun _ hk => hk.2) (.slice A481_0 ((rd_T50 l0_0 x4_1).f0).length c481_0)) (fun _ hk => hk.2) (.bool ((rd_T50 l0_0 x4_1).f1))) (fun _ hk => hk.2) (.int .i64 ((rd_T50 l0_0 x4_1).f2))) (fun _ hk => hk.2) (.int .i64 ((rd_T50 l0_0 x4_1).f3))) (fun _ h_ => h_.1))) (Kd.R_base ho0) hb); replace BK469 := Aside0.mk (blk_below (g := gb469) (o := .cells #[.slice (some ad481) l0_0.length c0_0, .int .i64 a0_1, .slice A0_2 l0_2.length c0_2, .int .i64 a0_3, .slice A0_4 l0_4.length c0_4] 26 (0, 0)) (blk_w BK469.out) hb); replace BK470 := Aside0.mk (blk_below (g := gb470) (o := .cells #[.slice none 0 0, .int .i64 0, .slice none 0 0, .int .i64 0, .slice none 0 0] 26 (0, 0)) (blk_w BK470.out) hb); replace BK471 := Aside0.mk (blk_below (g := gb471) (o := .cells #[u472000, .int .i64 a0_1, .slice Ao19 y475.length co19, .int .i64 a0_3, .slice Ao21 t478.length co21] 26 (0, 0)) (blk_w BK471.out) hb); replace BK482 := Aside0.mk (blk_below (g := gb482) (o := .cells #[.slice A481_0 ((rd_T50 l0_0 x4_1).f0).length c481_0, .bool ((rd_T50 l0_0 x4_1).f1), .int .i64 ((rd_T50 l0_0 x4_1).f2), .int .i64 ((rd_T50 l0_0 x4_1).f3)] 50 (0, 0)) (by (with_reducible repeat (first | refine blk_drewN ?_ _ | refine blk_drew ?_ | refine blk_alloc ?_ _)); refine blk_put (cs := #[.slice A481_0 ((rd_T50 l0_0 x4_1).f0).length c481_0, .bool ((rd_T50 l0_0 x4_1).f1), .int .i64 ((rd_T50 l0_0 x4_1).f2), .int .i64 0]) ?_ 3 _ rfl; (with_reducible repeat (first | refine blk_drewN ?_ _ | refine blk_drew ?_ | refine blk_alloc ?_ _)); refine blk_put (cs := #[.slice A481_0 ((rd_T50 l0_0 x4_1).f0).length c481_0, .bool ((rd_T50 l0_0 x4_1).f1), .int .i64 0, .int .i64 0]) ?_ 2 _ rfl; (with_reducible repeat (first | refine blk_drewN ?_ _ | refine blk_drew ?_ | refine blk_alloc ?_ _)); refine blk_put (cs := #[.slice A481_0 ((rd_T50 l0_0 x4_1).f0).length c481_0, .bool false, .int .i64 0, .int .i64 0]) ?_ 1 _ rfl; (with_reducible repeat (first | refine blk_drewN ?_ _ | refine blk_drew ?_ | refine blk_alloc ?_ _)); refine blk_put (cs := #[.slice none 0 0, .bool false, .int .i64 0, .int .i64 0]) ?_ 0 _ rfl; (with_reducible repeat (first | refine blk_drewN ?_ _ | refine blk_drew ?_ | refine blk_alloc ?_ _)); exact BK482.out) hb); replace HB := bl_x HB hb; (try clear hb); (try clear hk); (try clear hi); (try clear ho0); obtain ⟨Ao36, co36, eo36⟩ := Kd.R_slice HO485.out; subst eo36; obtain ⟨_, _, _, _⟩ := cz4 BK482; have hfz37_0 := blk_frozen BK482.out) | ((with_reducible refine gate_store (t := 24) (p := 32) rfl ?_); refine store_event (t := 24) (p := 32) (v := ?vo_w38) (w1 := (w35.setCell ⟨gb482, 0, none⟩ (.slice Ao36 t483.length co36))) ?hg ?ho ?hn ?hr ?_; (case ho => rfl); (case hg => rfl); (case hn => rfl); (case hr => first | (go_simp; done) | (go_simp; rfl)); intro w38 hw; replace HO_472000 : Aside0 (Kd.S k50 50 w38 w.heap.size (fun k_ => some k_ ≠ (.slice Ao21 t478.length co21 : Value).ownBlock ∧ some k_ ≠ (.slice Ao36 t483.length co36 : Value).ownBlock ∧ k_ ≠ gb482) u472000 x472000_1) := ⟨(by rw [hw]; exact (by (with_reducible repeat (first | apply Kd.S_alloc | apply Kd.S_drewN | apply Kd.S_drew)); exact Kd.S_mono (Kd.S_far (p := ⟨gb482, 0, none⟩) (Kd.S_mono HO_472000.out (fun k_ hk => (⟨hk, hk.1.2⟩ : _ ∧ k_ ≠ gb482))) (fun _ hk => hk.2) (.slice Ao36 t483.length co36)) (fun _ hk => ⟨hk.1.1.1, ⟨hk.1.2, hk.1.1.2⟩⟩)))⟩; replace HO_472002 : Aside0 (Kd.R k61 61 w38 w.heap.size (fun _ => True) (.slice Ao19 y475.length co19) y475) := ⟨(by rw [hw]; exact (by (with_reducible repeat (first | apply Kd.R_alloc | apply Kd.R_drewN | apply Kd.R_drew)); exact Kd.R_mono (Kd.R_far (p := ⟨gb482, 0, none⟩) (Kd.R_types HO_472002.out BK482.out (by decide)) (fun _ hk => hk.2) (.slice Ao36 t483.length co36)) (fun _ hk => trivial)))⟩; replace HO_472004 : Aside0 (Kd.R (Kd.int .i64) 3 w38 w.heap.size (fun k_ => some k_ ≠ (.slice Ao36 t483.length co36 : Value).ownBlock) (.slice Ao21 t478.length co21) t478) := ⟨(by rw [hw]; exact (by (with_reducible repeat (first | apply Kd.R_alloc | apply Kd.R_drewN | apply Kd.R_drew)); exact Kd.R_mono (Kd.R_far (p := ⟨gb482, 0, none⟩) (Kd.R_types HO_472004.out BK482.out (by decide)) (fun _ hk => hk.2) (.slice Ao36 t483.length co36)) (fun _ hk => hk.1.2)))⟩; replace HO485 : Aside0 (Kd.R (Kd.int .i64) 3 w38 w.heap.size (fun k_ => some k_ ≠ (.slice Ao21 t478.length co21 : Value).ownBlock) (.slice Ao36 t483.length co36) t483) := ⟨(by rw [hw]; exact (by (with_reducible repeat (first | apply Kd.R_alloc | apply Kd.R_drewN | apply Kd.R_drew)); exact Kd.R_mono (Kd.R_far (p := ⟨gb482, 0, none⟩) (Kd.R_types HO485.out BK482.out (by decide)) (fun _ hk => hk.2) (.slice Ao36 t483.length co36)) (fun _ hk => hk.1.2)))⟩; replace BK469 : Aside0 (w38.heap[gb469]? = some (.cells #[.slice (some ad481) l0_0.length c0_0, .int .i64 a0_1, .slice A0_2 l0_2.length c0_2, .int .i64 a0_3, .slice A0_4 l0_4.length c0_4] 26 (0, 0))) := ⟨(by rw [hw]; exact (blk_w BK469.out))⟩; replace BK470 : Aside0 (w38.heap[gb470]? = some (.cells #[.slice none 0 0, .int .i64 0, .slice none 0 0, .int .i64 0, .slice none 0 0] 26 (0, 0))) := ⟨(by rw [hw]; exact (blk_w BK470.out))⟩; replace BK471 : Aside0 (w38.heap[gb471]? = some (.cells #[u472000, .int .i64 a0_1, .slice Ao19 y475.length co19, .int .i64 a0_3, .slice Ao21 t478.length co21] 26 (0, 0))) := ⟨(by rw [hw]; exact (blk_w BK471.out))⟩; replace BK482 : Aside0 (w38.heap[gb482]? = some (.cells #[.slice Ao36 t483.length co36, .bool ((rd_T50 l0_0 x4_1).f1), .int .i64 ((rd_T50 l0_0 x4_1).f2), .int .i64 ((rd_T50 l0_0 x4_1).f3)] 50 (0, 0))) := ⟨(by rw [hw]; exact (by (with_reducible repeat (first | refine blk_drewN ?_ _ | refine blk_drew ?_ | refine blk_alloc ?_ _)); refine blk_put (cs := #[.slice A481_0 ((rd_T50 l0_0 x4_1).f0).length c481_0, .bool ((rd_T50 l0_0 x4_1).f1), .int .i64 ((rd_T50 l0_0 x4_1).f2), .int .i64 ((rd_T50 l0_0 x4_1).f3)]) ?_ 0 _ rfl; (with_reducible repeat (first | refine blk_drewN ?_ _ | refine blk_drew ?_ | refine blk_alloc ?_ _)); exact BK482.out))⟩; replace HB : Aside0 (Below w.heap.size w w38) := ⟨(by rw [hw]; exact (by exact below_y HB.out))⟩; clear hw; have hnb39 := NB471_470.out; have hnc39 := NB470_471.out; obtain ⟨_, _, _, _, _⟩ := cz5 BK471; have hfz40_0 := blk_frozen BK471.out; obtain ⟨_, _, _, _⟩ := cz4 BK482; have hfz41_0 := blk_frozen BK482.out) | ((with_reducible refine gate_builtin (b := .append) (xs := #[.tmp 34, .tmp 36]) rfl ?_); at_builtin; refine Kd.S_append k50 (w0 := w) w.heap.size rfl (.tmp 34) (.tmp 36) 22 50 (.agg #[(.slice none 0 0), (.bool false), (.int .i64 0), (.int .i64 0)]) 48 rfl Try.underlying22 info50 rfl (by decide) (by omega) u472000 x472000_1 (⟨t483, (rd_T50 l0_0 x4_1).f1, (rd_T50 l0_0 x4_1).f2, (rd_T50 l0_0 x4_1).f3⟩ : S50) [.slice Ao36 t483.length co36, .bool ((rd_T50 l0_0 x4_1).f1), .int .i64 ((rd_T50 l0_0 x4_1).f2), .int .i64 ((rd_T50 l0_0 x4_1).f3)] (fun k_ => some k_ ≠ (.slice Ao21 t478.length co21 : Value).ownBlock ∧ k_ ≠ gb482) (fun k_ => some k_ = (.slice Ao36 t483.length co36 : Value).ownBlock) rfl rfl ?aP (fun k_ hk_ => ((Kd.R_mono (ok' := fun k_ => ((fun k_ => some k_ ≠ (.slice Ao21 t478.length co21 : Value).ownBlock ∧ k_ ≠ gb482)) k_ ∧ some k_ ≠ (u472000 : Value).ownBlock) (Kd.R_types (Kd.R_apart' (HO485.out) (Kd.S_typed HO_472000.out) (by decide)) BK482.out (by decide)) (fun k_ hk => ⟨⟨hk.1.1, hk.2⟩, hk.1.2⟩))).1 k_ hk_.symm) ?aF ?aO ?aB ?aS ?aL ?_; (case aP => exact k50_mkM _ _ _ (⟨t483, (rd_T50 l0_0 x4_1).f1, (rd_T50 l0_0 x4_1).f2, (rd_T50 l0_0 x4_1).f3⟩ : S50) (Kd.R_mono (Kd.R_tight rfl (Kd.R_mono (ok' := fun k_ => ((fun k_ => some k_ ≠ (.slice Ao21 t478.length co21 : Value).ownBlock ∧ k_ ≠ gb482)) k_ ∧ some k_ ≠ (u472000 : Value).ownBlock) (Kd.R_types (Kd.R_apart' (HO485.out) (Kd.S_typed HO_472000.out) (by decide)) BK482.out (by decide)) (fun k_ hk => ⟨⟨hk.1.1, hk.2⟩, hk.1.2⟩))) (fun _ h_ => h_))); (case aB => exact (by exact below_y HB.out)); (case aF => exact (fun k_ hk => ⟨Kd.fresh' (Kd.R_lt (Kd.R_x HO_472004.out)) k_ hk, Kd.freshB (g := gb482) (o := .cells #[.slice Ao36 t483.length co36, .bool ((rd_T50 l0_0 x4_1).f1), .int .i64 ((rd_T50 l0_0 x4_1).f2), .int .i64 ((rd_T50 l0_0 x4_1).f3)] 50 (0, 0)) (blk_x BK482.out) k_ hk⟩)); (case aO => exact (by (with_reducible repeat (first | apply Kd.S_alloc | apply Kd.S_drewN | apply Kd.S_drew)); exact Kd.S_mono HO_472000.out (fun k_ hk => ⟨⟨hk.1, hk.2.2⟩, fun e_ => hk.2.1 e_⟩))); (case aS => exact (below_size (by exact below_y HB.out))); (case aL => have := LMc26.out; omega); intro v487 w42 ho hb hg hat; rw [← Ny486.out] at ho; replace HO_472002 := Aside0.mk (Kd.R_over' (Kd.R_x HO_472002.out) (Kd.S_typed (Kd.S_x HO_472000.out)) (by decide) hg); replace HO_472004 := Aside0.mk (Kd.R_over' (Kd.R_x HO_472004.out) (Kd.S_typed (Kd.S_x HO_472000.out)) (by decide) hg); replace BK469 := Aside0.mk (blk_grown (blk_x BK469.out) hg (Kd.S_ne HO_472000.out BK469.out (by decide))); replace BK470 := Aside0.mk (blk_grown (blk_x BK470.out) hg (Kd.S_ne HO_472000.out BK470.out (by decide))); replace BK471 := Aside0.mk (blk_grown (blk_x BK471.out) hg (Kd.S_ne HO_472000.out BK471.out (by decide))); replace BK482 := Aside0.mk (blk_grown (blk_x BK482.out) hg (Kd.S_away HO_472000.out (fun _ hk => hk.2.2))); replace HB := Aside0.mk (hb); have HO488 := Aside0.mk (ho); clear HO_472000 HO485; clear ho hb hg hat; obtain ⟨Ao43, co43, eo43⟩ := Kd.S_slice HO488.out; subst eo43; obtain ⟨_, _, _, _, _⟩ := cz5 BK471; have hfz44_0 := blk_frozen BK471.out))
       go_roundg k1
       case measure => have := HK1.out; omega
       case rel => exact ⟨(wrap64 (x4_1 + 1)), (y486), (.slice Ao43 y486.length co43), (by first | rfl | (simp; done) | (simp [*]; done)), H', ⟨by have := HK1.out; omega⟩, ⟨by (with_reducible repeat (first | apply Kd.S_alloc | apply Kd.S_drewN | apply Kd.S_drew)); exact Kd.S_mono (Kd.S_far (p := ⟨gb471, 0, none⟩) (Kd.S_types HO488.out BK471.out (by decide)) (fun _ hk => hk.2) (.slice Ao43 y486.length co43)) (fun _ hk => hk.1.1)⟩, ⟨by (with_reducible repeat (first | apply Kd.R_alloc | apply Kd.R_drewN | apply Kd.R_drew)); exact Kd.R_mono (Kd.R_far (p := ⟨gb471, 0, none⟩) (Kd.R_types HO_472002.out BK471.out (by decide)) (fun _ hk => hk.2) (.slice Ao43 y486.length co43)) (fun _ hk => trivial)⟩, ⟨by (with_reducible repeat (first | apply Kd.R_alloc | apply Kd.R_drewN | apply Kd.R_drew)); exact Kd.R_mono (Kd.R_far (p := ⟨gb471, 0, none⟩) (Kd.R_types HO_472004.out BK471.out (by decide)) (fun _ hk => hk.2) (.slice Ao43 y486.length co43)) (fun _ hk => trivial)⟩, ⟨blk_w BK469.out⟩, ⟨blk_w BK470.out⟩, ⟨by (with_reducible repeat (first | refine blk_drewN ?_ _ | refine blk_drew ?_ | refine blk_alloc ?_ _)); refine blk_put (cs := #[u472000, .int .i64 a0_1, .slice Ao19 y475.length co19, .int .i64 a0_3, .slice Ao21 t478.length co21]) ?_ 0 _ rfl; (with_reducible repeat (first | refine blk_drewN ?_ _ | refine blk_drew ?_ | refine blk_alloc ?_ _)); exact BK471.out⟩, ⟨by exact below_y HB.out⟩⟩
      ·
       rw [if_neg c26] at H
       exact absurd H (by simp)
     ·
      rw [if_neg c24] at H
      exact absurd H (by simp)
    ·
     rw [if_neg c23] at H
     have c23b0 : decide (x4_1 < (l0_0.length : Int)) = false := decide_eq_false c23
     clear c23
     simp only [Option.some.injEq, Prod.mk.injEq] at H
     obtain ⟨rfl, rfl, rfl, rfl, rfl⟩ := H
     have hnb45 := NB469_470.out
     have hnc45 := NB470_469.out
     have hnb46 := NB469_471.out
     have hnc46 := NB471_469.out
     obtain ⟨_, _, _, _, _⟩ := cz5 BK469
     have hfz47_0 := blk_frozen BK469.out
     have hnb48 := NB471_470.out
     have hnc48 := NB470_471.out
     obtain ⟨_, _, _, _, _⟩ := cz5 BK471
     have hfz49_0 := blk_frozen BK471.out
     obtain ⟨Ao50, co50, eo50⟩ := Kd.S_slice HO_472000.out
     subst eo50
     obtain ⟨_, _, _, _, _⟩ := cz5 BK470
     have hfz51_0 := blk_frozen BK470.out
     go_wp2
     refine bodyPost_ret (results_cell_row rfl _ _ gb470 26 #[.slice Ao50 x472000_1.length co50, .int .i64 a0_1, .slice Ao19 y475.length co19, .int .i64 a0_3, .slice Ao21 t478.length co21] (0, 0) _ rfl (by (with_reducible repeat (first | refine blk_drewN ?_ _ | refine blk_drew ?_ | refine blk_alloc ?_ _)); refine blk_put (cs := #[.slice Ao50 x472000_1.length co50, .int .i64 a0_1, .slice Ao19 y475.length co19, .int .i64 a0_3, .slice none 0 0]) ?_ 4 _ rfl; (with_reducible repeat (first | refine blk_drewN ?_ _ | refine blk_drew ?_ | refine blk_alloc ?_ _)); refine blk_put (cs := #[.slice Ao50 x472000_1.length co50, .int .i64 a0_1, .slice Ao19 y475.length co19, .int .i64 0, .slice none 0 0]) ?_ 3 _ rfl; (with_reducible repeat (first | refine blk_drewN ?_ _ | refine blk_drew ?_ | refine blk_alloc ?_ _)); refine blk_put (cs := #[.slice Ao50 x472000_1.length co50, .int .i64 a0_1, .slice none 0 0, .int .i64 0, .slice none 0 0]) ?_ 2 _ rfl; (with_reducible repeat (first | refine blk_drewN ?_ _ | refine blk_drew ?_ | refine blk_alloc ?_ _)); refine blk_put (cs := #[.slice Ao50 x472000_1.length co50, .int .i64 0, .slice none 0 0, .int .i64 0, .slice none 0 0]) ?_ 1 _ rfl; (with_reducible repeat (first | refine blk_drewN ?_ _ | refine blk_drew ?_ | refine blk_alloc ?_ _)); refine blk_put (cs := #[.slice none 0 0, .int .i64 0, .slice none 0 0, .int .i64 0, .slice none 0 0]) ?_ 0 _ rfl; (with_reducible repeat (first | refine blk_drewN ?_ _ | refine blk_drew ?_ | refine blk_alloc ?_ _)); exact BK470.out) Try.underlying26 rfl (by kernel_rfl)) rfl ?_
     exact ⟨_, _, _, by first | rfl | (simp [errW_none, errW_some] <;> rfl) | (simp [*, errW_none, errW_some] <;> rfl), by (with_reducible repeat (first | apply Kd.S_alloc | apply Kd.S_drewN | apply Kd.S_drew)); exact Kd.S_mono (Kd.S_far (p := ⟨gb470, 4, none⟩) (Kd.S_far (p := ⟨gb470, 3, none⟩) (Kd.S_far (p := ⟨gb470, 2, none⟩) (Kd.S_far (p := ⟨gb470, 1, none⟩) (Kd.S_far (p := ⟨gb470, 0, none⟩) (Kd.S_types HO_472000.out BK470.out (by decide)) (fun _ hk => hk.2) (.slice Ao50 x472000_1.length co50)) (fun _ hk => hk.2) (.int .i64 a0_1)) (fun _ hk => hk.2) (.slice Ao19 y475.length co19)) (fun _ hk => hk.2) (.int .i64 a0_3)) (fun _ hk => hk.2) (.slice Ao21 t478.length co21)) (fun _ hk => hk.1), by (with_reducible repeat (first | apply Kd.R_alloc | apply Kd.R_drewN | apply Kd.R_drew)); exact Kd.R_mono (Kd.R_far (p := ⟨gb470, 4, none⟩) (Kd.R_far (p := ⟨gb470, 3, none⟩) (Kd.R_far (p := ⟨gb470, 2, none⟩) (Kd.R_far (p := ⟨gb470, 1, none⟩) (Kd.R_far (p := ⟨gb470, 0, none⟩) (Kd.R_types HO_472002.out BK470.out (by decide)) (fun _ hk => hk.2) (.slice Ao50 x472000_1.length co50)) (fun _ hk => hk.2) (.int .i64 a0_1)) (fun _ hk => hk.2) (.slice Ao19 y475.length co19)) (fun _ hk => hk.2) (.int .i64 a0_3)) (fun _ hk => hk.2) (.slice Ao21 t478.length co21)) (fun _ hk => trivial), by (with_reducible repeat (first | apply Kd.R_alloc | apply Kd.R_drewN | apply Kd.R_drew)); exact Kd.R_mono (Kd.R_far (p := ⟨gb470, 4, none⟩) (Kd.R_far (p := ⟨gb470, 3, none⟩) (Kd.R_far (p := ⟨gb470, 2, none⟩) (Kd.R_far (p := ⟨gb470, 1, none⟩) (Kd.R_far (p := ⟨gb470, 0, none⟩) (Kd.R_types HO_472004.out BK470.out (by decide)) (fun _ hk => hk.2) (.slice Ao50 x472000_1.length co50)) (fun _ hk => hk.2) (.int .i64 a0_1)) (fun _ hk => hk.2) (.slice Ao19 y475.length co19)) (fun _ hk => hk.2) (.int .i64 a0_3)) (fun _ hk => hk.2) (.slice Ao21 t478.length co21)) (fun _ hk => trivial), by exact below_y HB.out⟩
 ·
  rw [if_neg c2] at H
  exact absurd H (by simp)
mutual
def swarfref04_States.l0 : Nat → List (List Bool) → Int → List (S50) → Int → List (S61) → Int → List Int → Option ((List (List Bool)))
 | 0, _, _, _, _, _, _, _ => none
 | k + 1, x3, x4, x607000, x607001, x607002, x607003, x607004 => if x4 < (x607000.length : Int) then (swarfref04_States.l1 k x3 x4 ([] : List (List Bool)) 0 x607000 x607001 x607002 x607003 x607004) else (some x3)
def swarfref04_States.l1 : Nat → List (List Bool) → Int → List (List Bool) → Int → List (S50) → Int → List (S61) → Int → List Int → Option ((List (List Bool)))
 | 0, _, _, _, _, _, _, _, _, _ => none
 | k + 1, x3, x4, x5, x6, x607000, x607001, x607002, x607003, x607004 => if x6 < (x3.length : Int) then (swarfref04_States.l2 k x3 x4 x5 x6 true 0 x607000 x607001 x607002 x607003 x607004) else (swarfref04_States.l0 k x5 (wrap64 (x4 + 1)) x607000 x607001 x607002 x607003 x607004)
def swarfref04_States.l2 : Nat → List (List Bool) → Int → List (List Bool) → Int → Bool → Int → List (S50) → Int → List (S61) → Int → List Int → Option ((List (List Bool)))
 | 0, _, _, _, _, _, _, _, _, _, _, _ => none
 | k + 1, x3, x4, x5, x6, x7, x8, x607000, x607001, x607002, x607003, x607004 => if 0 ≤ x4 then (if x4 < (x607000.length : Int) then (if x8 < (((rd_T50 x607000 x4).f0).length : Int) then (if x7 = true then (if 0 ≤ x6 then (if x6 < (x3.length : Int) then (if 0 ≤ x8 then (if 0 ≤ (rd ((rd_T50 x607000 x4).f0) x8) then (if (rd ((rd_T50 x607000 x4).f0) x8) < ((rd_L5 x3 x6).length : Int) then (swarfref04_States.l2 k x3 x4 x5 x6 (rdOf false (rd_L5 x3 x6) (rd ((rd_T50 x607000 x4).f0) x8)) (wrap64 (x8 + 1)) x607000 x607001 x607002 x607003 x607004) else (none)) else (none)) else (none)) else (none)) else (none)) else (swarfref04_States.l2 k x3 x4 x5 x6 false (wrap64 (x8 + 1)) x607000 x607001 x607002 x607003 x607004)) else ((some (([] : List Bool) : List Bool)).bind fun y615 => (if 0 ≤ x6 then (if x6 < (x3.length : Int) then (if y615.length + (rd_L5 x3 x6).length < 140737488355328 then ((some (y615 ++ (rd_L5 x3 x6) : List Bool)).bind fun y619 => (if y619.length < 140737488355328 then (if x5.length < 5864062014805 then ((some (x5 ++ [(y619 ++ [false])] : List (List Bool))).bind fun y625 => (if x7 = true then ((some (([] : List Bool) : List Bool)).bind fun y628 => (if y628.length + (rd_L5 x3 x6).length < 140737488355328 then ((some (y628 ++ (rd_L5 x3 x6) : List Bool)).bind fun y632 => (if y632.length < 140737488355328 then (if y625.length < 5864062014805 then (swarfref04_States.l1 k x3 x4 (y625 ++ [(y632 ++ [true])]) (wrap64 (x6 + 1)) x607000 x607001 x607002 x607003 x607004) else (none)) else (none))) else (none))) else (swarfref04_States.l1 k x3 x4 y625 (wrap64 (x6 + 1)) x607000 x607001 x607002 x607003 x607004))) else (none)) else (none))) else (none)) else (none)) else (none)))) else (none)) else (none)
end
def swarfref04_States.f (k : Nat) (l0_0 : List (S50)) (a0_1 : Int) (l0_2 : List (S61)) (a0_3 : Int) (l0_4 : List Int) : Option ((List (List Bool))) := swarfref04_States.l0 k (([[]] : List (List Bool))) 0 l0_0 a0_1 l0_2 a0_3 l0_4
set_option maxHeartbeats 8000000 in
set_option maxRecDepth 100000 in
theorem swarfref04_States.calls (k : Nat) (A0_0 : Option Addr) (c0_0 : Nat) (l0_0 : List (S50)) (a0_1 : Int) (A0_2 : Option Addr) (c0_2 : Nat) (l0_2 : List (S61)) (a0_3 : Int) (A0_4 : Option Addr) (c0_4 : Nat) (l0_4 : List Int) (r : List (List Bool)) (w : World) (hr0_0 : Kd.C k50 w A0_0 l0_0.length l0_0) (hc0_0 : l0_0.length ≤ c0_0) (hr0_2 : Kd.C k61 w A0_2 l0_2.length l0_2) (hc0_2 : l0_2.length ≤ c0_2) (hr0_4 : Kd.C (Kd.int .i64) w A0_4 l0_4.length l0_4) (hc0_4 : l0_4.length ≤ c0_4) (h : swarfref04_States.f k l0_0 a0_1 l0_2 a0_3 l0_4 = some r) :
  Calls Try.prog 71 #[.agg #[.slice A0_0 l0_0.length c0_0, .int .i64 a0_1, .slice A0_2 l0_2.length c0_2, .int .i64 a0_3, .slice A0_4 l0_4.length c0_4]] w fun e w' => ∃ v0_ : Value, e = .returned (v0_) ∧ Kd.S (Kd.slice 4 Kd.bool) 31 w' w.heap.size (fun _ => True) v0_ r ∧ Below w.heap.size w w' := by
 have hu26 := Try.underlying26
 have HR0_0 := Aside0.mk hr0_0
 have HC0_0 := Aside0.mk hc0_0
 clear hr0_0 hc0_0
 have HR0_2 := Aside0.mk hr0_2
 have HC0_2 := Aside0.mk hc0_2
 clear hr0_2 hc0_2
 have HR0_4 := Aside0.mk hr0_4
 have HC0_4 := Aside0.mk hc0_4
 clear hr0_4 hc0_4
 have HB := Aside0.mk (Below.refl w.heap.size w)
 have H : (swarfref04_States.l0 k (([[]] : List (List Bool))) 0 l0_0 a0_1 l0_2 a0_3 l0_4) = some r := h
 clear h
 obtain ⟨y607, hy607⟩ : ∃ y_ : List (List Bool), y_ = (([[]] : List (List Bool))) := ⟨_, rfl⟩
 replace H : (swarfref04_States.l0 k y607 0 l0_0 a0_1 l0_2 a0_3 l0_4) = some r := by first | (rw [hy607]; with_reducible exact H) | (have H2_ := (Option.bind_some _ _).symm.trans H; rw [hy607]; with_reducible exact H2_) | (have H2_ := (Option.bind_some _ _).symm.trans H; with_reducible exact H2_) | with_reducible exact H | (rw [hy607]; exact H) | exact H
 have Ny607 := Aside0.mk hy607
 clear hy607
 have H' := Aside0.mk H
 clear H
 go_enter Try.func71, Try.ntmps71
 go_wp2_with (first | ((with_reducible refine gate_dst (N := 1) rfl ?_); refine box_event ?hg (N := 1) ?hd (cs := #[.slice A0_0 l0_0.length c0_0, .int .i64 a0_1, .slice A0_2 l0_2.length c0_2, .int .i64 a0_3, .slice A0_4 l0_4.length c0_4]) (t := 26) ?hr ?_; (case hd => rfl); (case hg => rfl); (case hr => first | (go_simp; done) | (go_simp; rfl)); intro gb606 hg w2 hbox hb; have BK606 := Aside0.mk (hbox); have GW606 := Aside0.mk ((by rw [hg]; exact (below_size (below_x HB.out)) : w.heap.size ≤ gb606)); have GE606 := Aside0.mk ((by rw [hg]; exact (below_size (below_x HB.out)) : w.heap.size ≤ gb606)); replace HB := Aside0.mk (below_step (below_x HB.out) hb); clear hb hbox hg) | ((with_reducible refine gate_dst (N := 9) rfl ?_); refine Kd.S_lit (Kd.slice 4 Kd.bool) _ 31 ?hg (N := 9) ?hd (xs := ([[]] : List (List Bool))) (inner := [.slice none 0 0]) (ok := fun _ => True) (okp := fun _ => True) ?hr ?hp (fun _ hk => hk) trivial (Below.refl _ _) (Nat.le_refl _) (by simp) ?_; (case hd => rfl); (case hg => rfl); (case hr => first | (go_simp; done) | (go_simp; rfl)); (case hp => exact (Reps.one (show Kd.M (Kd.slice 4 Kd.bool) _ _ _ [] [.slice none 0 0] from ⟨_, rfl, Kd.R_nil _ _ _ _ _⟩) (Reps.none _ _))); intro v608 w3 ho4 hb hg_ hnew_; clear hg_ hnew_; (first | rw [← Ny607.out] at ho4 | (simp only [Int.reduceToNat] at ho4; rw [← Ny607.out] at ho4)); have HO609 := Aside0.mk (Kd.S_lower ho4 (below_size (by exact below_y HB.out))); replace BK606 := Aside0.mk (blk_below (blk_x BK606.out) hb); replace HB := bl_x HB hb; clear hb ho4))
 go_loopg [3, 4] k (fun kq v3 v4 w' => ∃ (x3_1 : List (List Bool)) (x4_1 : Int), v4 = .int .i64 x4_1 ∧ Aside0 (swarfref04_States.l0 kq x3_1 x4_1 l0_0 a0_1 l0_2 a0_3 l0_4 = some r) ∧ Aside0 (kq ≤ k) ∧ Aside0 (Kd.S (Kd.slice 4 Kd.bool) 31 w' w.heap.size (fun _ => True) v3 x3_1) ∧ Aside0 (w'.heap[gb606]? = some (.cells #[(.slice A0_0 l0_0.length c0_0), .int .i64 a0_1, (.slice A0_2 l0_2.length c0_2), .int .i64 a0_3, (.slice A0_4 l0_4.length c0_4)] 26 (0, 0))) ∧ Aside0 (Below w.heap.size w w'))
 case atStart => exact ⟨(y607), (0), (by first | rfl | (simp; done) | (simp [*]; done)), H', ⟨Nat.le_refl _⟩, ⟨by (with_reducible repeat (first | apply Kd.S_alloc | apply Kd.S_drewN | apply Kd.S_drew)); exact HO609.out⟩, ⟨blk_x BK606.out⟩, ⟨by exact below_y HB.out⟩⟩
 case round =>
  clear H'
  obtain ⟨x3_1, x4_1, rfl, HA, HK1, HO_3, BK606, HB⟩ := hrel
  cases gk with
  | zero => exact absurd HA.out (by simp [swarfref04_States.l0])
  | succ k1 =>
   have H := HA.out
   clear HA
   simp only [swarfref04_States.l0] at H
   by_cases c5 : x4_1 < (l0_0.length : Int)
   ·
    rw [if_pos c5] at H
    have c5b0 : decide (x4_1 < (l0_0.length : Int)) = true := decide_eq_true c5
    clear c5
    have H' := Aside0.mk H
    clear H
    obtain ⟨_, _, _, _, _⟩ := cz5 BK606
    have hfz6_0 := blk_frozen BK606.out
    go_wp2
    go_loopg [5, 6] k1 (fun kq v5 v6 w' => ∃ (x5_2 : List (List Bool)) (x6_2 : Int), v6 = .int .i64 x6_2 ∧ Aside0 (swarfref04_States.l1 kq x3_1 x4_1 x5_2 x6_2 l0_0 a0_1 l0_2 a0_3 l0_4 = some r) ∧ Aside0 (kq ≤ k1) ∧ Aside0 (Kd.S (Kd.slice 4 Kd.bool) 31 w' w.heap.size (fun k_ => some k_ ≠ (v5 : Value).ownBlock) u3 x3_1) ∧ Aside0 (Kd.S (Kd.slice 4 Kd.bool) 31 w' w.heap.size (fun k_ => some k_ ≠ (u3 : Value).ownBlock) v5 x5_2) ∧ Aside0 (w'.heap[gb606]? = some (.cells #[(.slice A0_0 l0_0.length c0_0), .int .i64 a0_1, (.slice A0_2 l0_2.length c0_2), .int .i64 a0_3, (.slice A0_4 l0_4.length c0_4)] 26 (0, 0))) ∧ Aside0 (Below w.heap.size w w'))
    case atStart => exact ⟨(([] : List (List Bool))), (0), (by first | rfl | (simp; done) | (simp [*]; done)), H', ⟨Nat.le_refl _⟩, ⟨by (with_reducible repeat (first | apply Kd.S_alloc | apply Kd.S_drewN | apply Kd.S_drew)); exact Kd.S_mono HO_3.out (fun _ hk => (by simp [Value.ownBlock]))⟩, ⟨by first | exact Kd.S_nil _ _ _ _ _ | exact Kd.N_nil _ _ _ _ _ | exact Kd.V_nil _ _ _ _ _ | exact Kd.Q_nil _ _ _ _ _ | exact Kd.R_nil _ _ _ _ _⟩, ⟨blk_x BK606.out⟩, ⟨by exact below_y HB.out⟩⟩
    case round =>
     clear H'
     obtain ⟨x5_2, x6_2, rfl, HA, HK2, HO_3, HO_5, BK606, HB⟩ := hrel
     cases gk with
     | zero => exact absurd HA.out (by simp [swarfref04_States.l1])
     | succ k2 =>
      have H := HA.out
      clear HA
      simp only [swarfref04_States.l1] at H
      by_cases c7 : x6_2 < (x3_1.length : Int)
      ·
       rw [if_pos c7] at H
       have c7b0 : decide (x6_2 < (x3_1.length : Int)) = true := decide_eq_true c7
       clear c7
       have H' := Aside0.mk H
       clear H
       obtain ⟨Ao8, co8, eo8⟩ := Kd.S_slice HO_3.out
       subst eo8
       go_wp2
       go_loopg [7, 8] k2 (fun kq v7 v8 w' => ∃ (x7_3 : Bool) (x8_3 : Int), v7 = .bool x7_3 ∧ v8 = .int .i64 x8_3 ∧ Aside0 (swarfref04_States.l2 kq x3_1 x4_1 x5_2 x6_2 x7_3 x8_3 l0_0 a0_1 l0_2 a0_3 l0_4 = some r) ∧ Aside0 (kq ≤ k2) ∧ Aside0 (Kd.S (Kd.slice 4 Kd.bool) 31 w' w.heap.size (fun k_ => some k_ ≠ (u5 : Value).ownBlock) (.slice Ao8 x3_1.length co8) x3_1) ∧ Aside0 (Kd.S (Kd.slice 4 Kd.bool) 31 w' w.heap.size (fun k_ => some k_ ≠ ((.slice Ao8 x3_1.length co8) : Value).ownBlock) u5 x5_2) ∧ Aside0 (w'.heap[gb606]? = some (.cells #[(.slice A0_0 l0_0.length c0_0), .int .i64 a0_1, (.slice A0_2 l0_2.length c0_2), .int .i64 a0_3, (.slice A0_4 l0_4.length c0_4)] 26 (0, 0))) ∧ Aside0 (Below w.heap.size w w'))
       case atStart => exact ⟨(true), (0), (by first | rfl | (simp; done) | (simp [*]; done)), (by first | rfl | (simp; done) | (simp [*]; done)), H', ⟨Nat.le_refl _⟩, ⟨by (with_reducible repeat (first | apply Kd.S_alloc | apply Kd.S_drewN | apply Kd.S_drew)); exact HO_3.out⟩, ⟨by (with_reducible repeat (first | apply Kd.S_alloc | apply Kd.S_drewN | apply Kd.S_drew)); exact HO_5.out⟩, ⟨blk_x BK606.out⟩, ⟨by exact below_y HB.out⟩⟩
       case round =>
        clear H'
        obtain ⟨x7_3, x8_3, rfl, rfl, HA, HK3, HO_3, HO_5, BK606, HB⟩ := hrel
        cases gk with
        | zero => exact absurd HA.out (by simp [swarfref04_States.l2])
        | succ k3 =>
         have H := HA.out
         clear HA
         simp only [swarfref04_States.l2] at H
         by_cases c9 : 0 ≤ x4_1
         ·
          rw [if_pos c9] at H
          have c9b0 : decide (0 ≤ x4_1) = true := decide_eq_true c9
          clear c9
          by_cases c10 : x4_1 < (l0_0.length : Int)
          ·
           rw [if_pos c10] at H
           have c10b0 : decide (x4_1 < (l0_0.length : Int)) = true := decide_eq_true c10
           clear c10
           by_cases c11 : x8_3 < (((rd_T50 l0_0 x4_1).f0).length : Int)
           ·
            rw [if_pos c11] at H
            have c11b0 : decide (x8_3 < (((rd_T50 l0_0 x4_1).f0).length : Int)) = true := decide_eq_true c11
            clear c11
            by_cases c12 : x7_3 = true
            ·
             subst c12
             have H1 : (if 0 ≤ x6_2 then (if x6_2 < (x3_1.length : Int) then (if 0 ≤ x8_3 then (if 0 ≤ (rd ((rd_T50 l0_0 x4_1).f0) x8_3) then (if (rd ((rd_T50 l0_0 x4_1).f0) x8_3) < ((rd_L5 x3_1 x6_2).length : Int) then (swarfref04_States.l2 k3 x3_1 x4_1 x5_2 x6_2 (rdOf false (rd_L5 x3_1 x6_2) (rd ((rd_T50 l0_0 x4_1).f0) x8_3)) (wrap64 (x8_3 + 1)) l0_0 a0_1 l0_2 a0_3 l0_4) else (none)) else (none)) else (none)) else (none)) else (none)) = some r := by rw [if_pos rfl] at H; exact H
             clear H
             have H := H1
             clear H1
             by_cases c13 : 0 ≤ x6_2
             ·
              rw [if_pos c13] at H
              have c13b0 : decide (0 ≤ x6_2) = true := decide_eq_true c13
              clear c13
              by_cases c14 : x6_2 < (x3_1.length : Int)
              ·
               rw [if_pos c14] at H
               have c14b0 : decide (x6_2 < (x3_1.length : Int)) = true := decide_eq_true c14
               clear c14
               by_cases c15 : 0 ≤ x8_3
               ·
                rw [if_pos c15] at H
                have c15b0 : decide (0 ≤ x8_3) = true := decide_eq_true c15
                clear c15
                by_cases c16 : 0 ≤ (rd ((rd_T50 l0_0 x4_1).f0) x8_3)
                ·
                 rw [if_pos c16] at H
                 have c16b0 : decide (0 ≤ (rd ((rd_T50 l0_0 x4_1).f0) x8_3)) = true := decide_eq_true c16
                 clear c16
                 by_cases c17 : (rd ((rd_T50 l0_0 x4_1).f0) x8_3) < ((rd_L5 x3_1 x6_2).length : Int)
                 ·
                  rw [if_pos c17] at H
                  have c17b0 : decide ((rd ((rd_T50 l0_0 x4_1).f0) x8_3) < ((rd_L5 x3_1 x6_2).length : Int)) = true := decide_eq_true c17
                  clear c17
                  have H' := Aside0.mk H
                  clear H
                  obtain ⟨_, _, _, _, _⟩ := cz5 BK606
                  have hfz18_0 := blk_frozen BK606.out
                  have p610 : 0 ≤ (x4_1 : Int) := of_x
                  have q610 : x4_1 < (l0_0.length : Int) := of_x
                  obtain ⟨ad610, A610_0, c610_0, e610, hx610_0, hx610_1, hx610_2, hx610_3, hl610_0, hi610_0⟩ := at_T50 HR0_0.out x4_1 p610 q610
                  cases e610
                  replace hx610_0 := cell_x HB hx610_0
                  replace hx610_1 := cell_x HB hx610_1
                  replace hx610_2 := cell_x HB hx610_2
                  replace hx610_3 := cell_x HB hx610_3
                  have HR610_0 := Aside0.mk hi610_0
                  have HC610_0 := Aside0.mk hl610_0
                  clear hi610_0 hl610_0
                  replace p610 := eq_true p610
                  replace q610 := eq_true q610
                  have p611 : 0 ≤ (x6_2 : Int) := of_x
                  have q611 : x6_2 < (x3_1.length : Int) := of_x
                  obtain ⟨ad611, A611_0, c611_0, e611, hx611_0, hl611_0, hi611_0⟩ := at_L5 (Kd.S_reads' HO_3.out).2.2 x6_2 p611 q611
                  cases e611
                  obtain ⟨ce611, hce611, hMe611, hcc611⟩ := Kd.S_get HO_3.out [] x6_2 p611 (by first | exact q611 | exact of_x | (have e_ := (Kd.S_reads' HO_3.out).1; omega))
                  obtain ⟨ve611_0, rfl, ge611_0⟩ := hMe611
                  have hv611_0 := hcc611 0 _ rfl
                  rw [Nat.add_zero, show ((Kd.slice 4 Kd.bool)).sz = 1 from rfl, Nat.mul_one] at hv611_0
                  replace hv611_0 := Option.some.inj (hv611_0.symm.trans hx611_0)
                  rw [hv611_0] at ge611_0
                  have HL611_0 := Aside0.mk (show Kd.R Kd.bool 4 _ _ _ _ (rd_L5 x3_1 x6_2) from ge611_0)
                  clear hv611_0 ge611_0 hcc611 hce611
                  have HR611_0 := Aside0.mk hi611_0
                  have HC611_0 := Aside0.mk hl611_0
                  clear hi611_0 hl611_0
                  replace p611 := eq_true p611
                  replace q611 := eq_true q611
                  have p612 : 0 ≤ (x4_1 : Int) := of_x
                  have q612 : x4_1 < (l0_0.length : Int) := of_x
                  obtain ⟨ad612, A612_0, c612_0, e612, hx612_0, hx612_1, hx612_2, hx612_3, hl612_0, hi612_0⟩ := at_T50 HR0_0.out x4_1 p612 q612
                  obtain rfl : ad610 = ad612 := (by injection e612)
                  replace hx612_0 := cell_x HB hx612_0
                  replace hx612_1 := cell_x HB hx612_1
                  replace hx612_2 := cell_x HB hx612_2
                  replace hx612_3 := cell_x HB hx612_3
                  have HR612_0 := Aside0.mk hi612_0
                  have HC612_0 := Aside0.mk hl612_0
                  clear hi612_0 hl612_0
                  replace p612 := eq_true p612
                  replace q612 := eq_true q612
                  have ea_ := Option.some.inj (hx610_0.symm.trans hx612_0)
                  injection ea_ with ea_ en_ ec_
                  subst ea_
                  subst ec_
                  clear en_
                  have p613 : 0 ≤ (x8_3 : Int) := of_x
                  have q613 : x8_3 < (((rd_T50 l0_0 x4_1).f0).length : Int) := of_x
                  obtain ⟨ad613, e613, hx613_0⟩ := Kd.at_int HR612_0.out x8_3 p613 q613
                  cases e613
                  replace hx613_0 := cell_x HB hx613_0
                  replace p613 := eq_true p613
                  replace q613 := eq_true q613
                  have p614 : 0 ≤ ((rd ((rd_T50 l0_0 x4_1).f0) x8_3) : Int) := of_x
                  have q614 : (rd ((rd_T50 l0_0 x4_1).f0) x8_3) < ((rd_L5 x3_1 x6_2).length : Int) := of_x
                  obtain ⟨ad614, e614, hx614_0⟩ := Kd.at_bool (by repeat (first | (with_reducible exact HR611_0.out) | (with_reducible refine Kd.C_alloc ?_ _) | (with_reducible refine Kd.C_drewN ?_ _) | (with_reducible refine Kd.C_drew ?_) | exact HR611_0.out)) (rd ((rd_T50 l0_0 x4_1).f0) x8_3) p614 q614
                  cases e614
                  replace p614 := eq_true p614
                  replace q614 := eq_true q614
                  go_wp2
                  repeat (go_quiet (fail); try go_wp2)
                  go_roundg k3
                  case measure => have := HK1.out; have := HK2.out; have := HK3.out; omega
                  case rel => exact ⟨(rdOf false (rd_L5 x3_1 x6_2) (rd ((rd_T50 l0_0 x4_1).f0) x8_3)), (wrap64 (x8_3 + 1)), (by first | rfl | (simp; done) | (simp [*]; done)), (by first | rfl | (simp; done) | (simp [*]; done)), H', ⟨by have := HK1.out; have := HK2.out; have := HK3.out; omega⟩, ⟨by (with_reducible repeat (first | apply Kd.S_alloc | apply Kd.S_drewN | apply Kd.S_drew)); exact HO_3.out⟩, ⟨by (with_reducible repeat (first | apply Kd.S_alloc | apply Kd.S_drewN | apply Kd.S_drew)); exact HO_5.out⟩, ⟨blk_x BK606.out⟩, ⟨by exact below_y HB.out⟩⟩
                 ·
                  rw [if_neg c17] at H
                  exact absurd H (by simp)
                ·
                 rw [if_neg c16] at H
                 exact absurd H (by simp)
               ·
                rw [if_neg c15] at H
                exact absurd H (by simp)
              ·
               rw [if_neg c14] at H
               exact absurd H (by simp)
             ·
              rw [if_neg c13] at H
              exact absurd H (by simp)
            ·
             replace c12 := Bool.eq_false_iff.mpr c12
             subst c12
             have H1 : (swarfref04_States.l2 k3 x3_1 x4_1 x5_2 x6_2 false (wrap64 (x8_3 + 1)) l0_0 a0_1 l0_2 a0_3 l0_4) = some r := by rw [if_neg (show ¬ (false = true) by decide)] at H; exact H
             clear H
             have H := H1
             clear H1
             have H' := Aside0.mk H
             clear H
             obtain ⟨_, _, _, _, _⟩ := cz5 BK606
             have hfz19_0 := blk_frozen BK606.out
             have p610 : 0 ≤ (x4_1 : Int) := of_x
             have q610 : x4_1 < (l0_0.length : Int) := of_x
             obtain ⟨ad610, A610_0, c610_0, e610, hx610_0, hx610_1, hx610_2, hx610_3, hl610_0, hi610_0⟩ := at_T50 HR0_0.out x4_1 p610 q610
             cases e610
             replace hx610_0 := cell_x HB hx610_0
             replace hx610_1 := cell_x HB hx610_1
             replace hx610_2 := cell_x HB hx610_2
             replace hx610_3 := cell_x HB hx610_3
             have HR610_0 := Aside0.mk hi610_0
             have HC610_0 := Aside0.mk hl610_0
             clear hi610_0 hl610_0
             replace p610 := eq_true p610
             replace q610 := eq_true q610
             go_wp2
             repeat (go_quiet (fail); try go_wp2)
             go_roundg k3
             case measure => have := HK1.out; have := HK2.out; have := HK3.out; omega
             case rel => exact ⟨(false), (wrap64 (x8_3 + 1)), (by first | rfl | (simp; done) | (simp [*]; done)), (by first | rfl | (simp; done) | (simp [*]; done)), H', ⟨by have := HK1.out; have := HK2.out; have := HK3.out; omega⟩, ⟨by (with_reducible repeat (first | apply Kd.S_alloc | apply Kd.S_drewN | apply Kd.S_drew)); exact HO_3.out⟩, ⟨by (with_reducible repeat (first | apply Kd.S_alloc | apply Kd.S_drewN | apply Kd.S_drew)); exact HO_5.out⟩, ⟨blk_x BK606.out⟩, ⟨by exact below_y HB.out⟩⟩
           ·
            rw [if_neg c11] at H
            have c11b0 : decide (x8_3 < (((rd_T50 l0_0 x4_1).f0).length : Int)) = false := decide_eq_false c11
            clear c11
            obtain ⟨y615, hy615⟩ : ∃ y_ : List Bool, y_ = (([] : List Bool)) := ⟨_, rfl⟩
            replace H : (if 0 ≤ x6_2 then (if x6_2 < (x3_1.length : Int) then (if y615.length + (rd_L5 x3_1 x6_2).length < 140737488355328 then ((some (y615 ++ (rd_L5 x3_1 x6_2) : List Bool)).bind fun y619 => (if y619.length < 140737488355328 then (if x5_2.length < 5864062014805 then ((some (x5_2 ++ [(y619 ++ [false])] : List (List Bool))).bind fun y625 => (if x7_3 = true then ((some (([] : List Bool) : List Bool)).bind fun y628 => (if y628.length + (rd_L5 x3_1 x6_2).length < 140737488355328 then ((some (y628 ++ (rd_L5 x3_1 x6_2) : List Bool)).bind fun y632 => (if y632.length < 140737488355328 then (if y625.length < 5864062014805 then (swarfref04_States.l1 k3 x3_1 x4_1 (y625 ++ [(y632 ++ [true])]) (wrap64 (x6_2 + 1)) l0_0 a0_1 l0_2 a0_3 l0_4) else (none)) else (none))) else (none))) else (swarfref04_States.l1 k3 x3_1 x4_1 y625 (wrap64 (x6_2 + 1)) l0_0 a0_1 l0_2 a0_3 l0_4))) else (none)) else (none))) else (none)) else (none)) else (none)) = some r := by first | (rw [hy615]; with_reducible exact H) | (have H2_ := (Option.bind_some _ _).symm.trans H; rw [hy615]; with_reducible exact H2_) | (have H2_ := (Option.bind_some _ _).symm.trans H; with_reducible exact H2_) | with_reducible exact H | (rw [hy615]; exact H) | exact H
            have Ny615 := Aside0.mk hy615
            clear hy615
            by_cases c20 : 0 ≤ x6_2
            ·
             rw [if_pos c20] at H
             have c20b0 : decide (0 ≤ x6_2) = true := decide_eq_true c20
             clear c20
             by_cases c21 : x6_2 < (x3_1.length : Int)
             ·
              rw [if_pos c21] at H
              have c21b0 : decide (x6_2 < (x3_1.length : Int)) = true := decide_eq_true c21
              clear c21
              by_cases c22 : y615.length + (rd_L5 x3_1 x6_2).length < 140737488355328
              ·
               rw [if_pos c22] at H
               have LMc22 := Aside0.mk c22
               clear c22
               obtain ⟨y619, hy619⟩ : ∃ y_ : List Bool, y_ = (y615 ++ (rd_L5 x3_1 x6_2)) := ⟨_, rfl⟩
               replace H : (if y619.length < 140737488355328 then (if x5_2.length < 5864062014805 then ((some (x5_2 ++ [(y619 ++ [false])] : List (List Bool))).bind fun y625 => (if x7_3 = true then ((some (([] : List Bool) : List Bool)).bind fun y628 => (if y628.length + (rd_L5 x3_1 x6_2).length < 140737488355328 then ((some (y628 ++ (rd_L5 x3_1 x6_2) : List Bool)).bind fun y632 => (if y632.length < 140737488355328 then (if y625.length < 5864062014805 then (swarfref04_States.l1 k3 x3_1 x4_1 (y625 ++ [(y632 ++ [true])]) (wrap64 (x6_2 + 1)) l0_0 a0_1 l0_2 a0_3 l0_4) else (none)) else (none))) else (none))) else (swarfref04_States.l1 k3 x3_1 x4_1 y625 (wrap64 (x6_2 + 1)) l0_0 a0_1 l0_2 a0_3 l0_4))) else (none)) else (none)) = some r := by first | (rw [hy619]; with_reducible exact H) | (have H2_ := (Option.bind_some _ _).symm.trans H; rw [hy619]; with_reducible exact H2_) | (have H2_ := (Option.bind_some _ _).symm.trans H; with_reducible exact H2_) | with_reducible exact H | (rw [hy619]; exact H) | exact H
               have Ny619 := Aside0.mk hy619
               clear hy619
               by_cases c23 : y619.length < 140737488355328
               ·
                rw [if_pos c23] at H
                have LMc23 := Aside0.mk c23
                clear c23
                obtain ⟨y622, hy622⟩ : ∃ y_ : List Bool, y_ = (y619 ++ [false]) := ⟨_, rfl⟩
                replace H : (if x5_2.length < 5864062014805 then ((some (x5_2 ++ [y622] : List (List Bool))).bind fun y625 => (if x7_3 = true then ((some (([] : List Bool) : List Bool)).bind fun y628 => (if y628.length + (rd_L5 x3_1 x6_2).length < 140737488355328 then ((some (y628 ++ (rd_L5 x3_1 x6_2) : List Bool)).bind fun y632 => (if y632.length < 140737488355328 then (if y625.length < 5864062014805 then (swarfref04_States.l1 k3 x3_1 x4_1 (y625 ++ [(y632 ++ [true])]) (wrap64 (x6_2 + 1)) l0_0 a0_1 l0_2 a0_3 l0_4) else (none)) else (none))) else (none))) else (swarfref04_States.l1 k3 x3_1 x4_1 y625 (wrap64 (x6_2 + 1)) l0_0 a0_1 l0_2 a0_3 l0_4))) else (none)) = some r := by first | (rw [hy622]; with_reducible exact H) | (have H2_ := (Option.bind_some _ _).symm.trans H; rw [hy622]; with_reducible exact H2_) | (have H2_ := (Option.bind_some _ _).symm.trans H; with_reducible exact H2_) | with_reducible exact H | (rw [hy622]; exact H) | exact H
                have Ny622 := Aside0.mk hy622
                clear hy622
                by_cases c24 : x5_2.length < 5864062014805
                ·
                 rw [if_pos c24] at H
                 have LMc24 := Aside0.mk c24
                 clear c24
                 obtain ⟨y625, hy625⟩ : ∃ y_ : List (List Bool), y_ = (x5_2 ++ [y622]) := ⟨_, rfl⟩
                 replace H : (if x7_3 = true then ((some (([] : List Bool) : List Bool)).bind fun y628 => (if y628.length + (rd_L5 x3_1 x6_2).length < 140737488355328 then ((some (y628 ++ (rd_L5 x3_1 x6_2) : List Bool)).bind fun y632 => (if y632.length < 140737488355328 then (if y625.length < 5864062014805 then (swarfref04_States.l1 k3 x3_1 x4_1 (y625 ++ [(y632 ++ [true])]) (wrap64 (x6_2 + 1)) l0_0 a0_1 l0_2 a0_3 l0_4) else (none)) else (none))) else (none))) else (swarfref04_States.l1 k3 x3_1 x4_1 y625 (wrap64 (x6_2 + 1)) l0_0 a0_1 l0_2 a0_3 l0_4)) = some r := by first | (rw [hy625]; with_reducible exact H) | (have H2_ := (Option.bind_some _ _).symm.trans H; rw [hy625]; with_reducible exact H2_) | (have H2_ := (Option.bind_some _ _).symm.trans H; with_reducible exact H2_) | with_reducible exact H | (rw [hy625]; exact H) | exact H
                 have Ny625 := Aside0.mk hy625
                 clear hy625
                 by_cases c25 : x7_3 = true
                 ·
                  subst c25
                  have H1 : ((some (([] : List Bool) : List Bool)).bind fun y628 => (if y628.length + (rd_L5 x3_1 x6_2).length < 140737488355328 then ((some (y628 ++ (rd_L5 x3_1 x6_2) : List Bool)).bind fun y632 => (if y632.length < 140737488355328 then (if y625.length < 5864062014805 then (swarfref04_States.l1 k3 x3_1 x4_1 (y625 ++ [(y632 ++ [true])]) (wrap64 (x6_2 + 1)) l0_0 a0_1 l0_2 a0_3 l0_4) else (none)) else (none))) else (none))) = some r := by rw [if_pos rfl] at H; exact H
                  clear H
                  have H := H1
                  clear H1
                  obtain ⟨y628, hy628⟩ : ∃ y_ : List Bool, y_ = (([] : List Bool)) := ⟨_, rfl⟩
                  replace H : (if y628.length + (rd_L5 x3_1 x6_2).length < 140737488355328 then ((some (y628 ++ (rd_L5 x3_1 x6_2) : List Bool)).bind fun y632 => (if y632.length < 140737488355328 then (if y625.length < 5864062014805 then (swarfref04_States.l1 k3 x3_1 x4_1 (y625 ++ [(y632 ++ [true])]) (wrap64 (x6_2 + 1)) l0_0 a0_1 l0_2 a0_3 l0_4) else (none)) else (none))) else (none)) = some r := by first | (rw [hy628]; with_reducible exact H) | (have H2_ := (Option.bind_some _ _).symm.trans H; rw [hy628]; with_reducible exact H2_) | (have H2_ := (Option.bind_some _ _).symm.trans H; with_reducible exact H2_) | with_reducible exact H | (rw [hy628]; exact H) | exact H
                  have Ny628 := Aside0.mk hy628
                  clear hy628
                  by_cases c26 : y628.length + (rd_L5 x3_1 x6_2).length < 140737488355328
                  ·
                   rw [if_pos c26] at H
                   have LMc26 := Aside0.mk c26
                   clear c26
                   obtain ⟨y632, hy632⟩ : ∃ y_ : List Bool, y_ = (y628 ++ (rd_L5 x3_1 x6_2)) := ⟨_, rfl⟩
                   replace H : (if y632.length < 140737488355328 then (if y625.length < 5864062014805 then (swarfref04_States.l1 k3 x3_1 x4_1 (y625 ++ [(y632 ++ [true])]) (wrap64 (x6_2 + 1)) l0_0 a0_1 l0_2 a0_3 l0_4) else (none)) else (none)) = some r := by first | (rw [hy632]; with_reducible exact H) | (have H2_ := (Option.bind_some _ _).symm.trans H; rw [hy632]; with_reducible exact H2_) | (have H2_ := (Option.bind_some _ _).symm.trans H; with_reducible exact H2_) | with_reducible exact H | (rw [hy632]; exact H) | exact H
                   have Ny632 := Aside0.mk hy632
                   clear hy632
                   by_cases c27 : y632.length < 140737488355328
                   ·
                    rw [if_pos c27] at H
                    have LMc27 := Aside0.mk c27
                    clear c27
                    obtain ⟨y635, hy635⟩ : ∃ y_ : List Bool, y_ = (y632 ++ [true]) := ⟨_, rfl⟩
                    replace H : (if y625.length < 5864062014805 then (swarfref04_States.l1 k3 x3_1 x4_1 (y625 ++ [y635]) (wrap64 (x6_2 + 1)) l0_0 a0_1 l0_2 a0_3 l0_4) else (none)) = some r := by first | (rw [hy635]; with_reducible exact H) | (have H2_ := (Option.bind_some _ _).symm.trans H; rw [hy635]; with_reducible exact H2_) | (have H2_ := (Option.bind_some _ _).symm.trans H; with_reducible exact H2_) | with_reducible exact H | (rw [hy635]; exact H) | exact H
                    have Ny635 := Aside0.mk hy635
                    clear hy635
                    by_cases c28 : y625.length < 5864062014805
                    ·
                     rw [if_pos c28] at H
                     have LMc28 := Aside0.mk c28
                     clear c28
                     obtain ⟨y638, hy638⟩ : ∃ y_ : List (List Bool), y_ = (y625 ++ [y635]) := ⟨_, rfl⟩
                     replace H : (swarfref04_States.l1 k3 x3_1 x4_1 y638 (wrap64 (x6_2 + 1)) l0_0 a0_1 l0_2 a0_3 l0_4) = some r := by first | (rw [hy638]; with_reducible exact H) | (have H2_ := (Option.bind_some _ _).symm.trans H; rw [hy638]; with_reducible exact H2_) | (have H2_ := (Option.bind_some _ _).symm.trans H; with_reducible exact H2_) | with_reducible exact H | (rw [hy638]; exact H) | exact H
                     have Ny638 := Aside0.mk hy638
                     clear hy638
                     have H' := Aside0.mk H
                     clear H
                     obtain ⟨_, _, _, _, _⟩ := cz5 BK606
                     have hfz29_0 := blk_frozen BK606.out
                     have p610 : 0 ≤ (x4_1 : Int) := of_x
                     have q610 : x4_1 < (l0_0.length : Int) := of_x
                     obtain ⟨ad610, A610_0, c610_0, e610, hx610_0, hx610_1, hx610_2, hx610_3, hl610_0, hi610_0⟩ := at_T50 HR0_0.out x4_1 p610 q610
                     cases e610
                     replace hx610_0 := cell_x HB hx610_0
                     replace hx610_1 := cell_x HB hx610_1
                     replace hx610_2 := cell_x HB hx610_2
                     replace hx610_3 := cell_x HB hx610_3
                     have HR610_0 := Aside0.mk hi610_0
                     have HC610_0 := Aside0.mk hl610_0
                     clear hi610_0 hl610_0
                     replace p610 := eq_true p610
                     replace q610 := eq_true q610
                     go_wp2_with (first | ((with_reducible refine gate_dst (N := 53) rfl ?_); refine Kd.R_lit Kd.bool _ 4 ?hg (N := 53) ?hd (xs := ([] : List Bool)) (inner := []) (ok := fun _ => True) (okp := fun _ => True) ?hr ?hp (fun _ hk => hk) trivial (Below.refl _ _) (Nat.le_refl _) (by simp) ?_; (case hd => rfl); (case hg => rfl); (case hr => first | (go_simp; done) | (go_simp; rfl)); (case hp => exact (Reps.none _ _)); intro v616 w30 ho31 hb hg_ hnew_; clear hg_ hnew_; (first | rw [← Ny615.out] at ho31 | (simp only [Int.reduceToNat] at ho31; rw [← Ny615.out] at ho31)); replace HO_3 := Aside0.mk (Kd.S_elder' (Kd.S_x HO_3.out) (Kd.R_base ho31) hb); replace HO_5 := Aside0.mk (Kd.S_elder' (Kd.S_x HO_5.out) (Kd.R_base ho31) hb); have HO617 := Aside0.mk (Kd.R_lower ho31 (below_size (by exact below_y HB.out))); replace BK606 := Aside0.mk (blk_below (blk_x BK606.out) hb); replace HB := bl_x HB hb; clear hb ho31; have p618 : 0 ≤ (x6_2 : Int) := of_x; have q618 : x6_2 < (x3_1.length : Int) := of_x; obtain ⟨ad618, A618_0, c618_0, e618, hx618_0, hl618_0, hi618_0⟩ := at_L5 (Kd.S_reads' HO_3.out).2.2 x6_2 p618 q618; cases e618; obtain ⟨ce618, hce618, hMe618, hcc618⟩ := Kd.S_get HO_3.out [] x6_2 p618 (by first | exact q618 | exact of_x | (have e_ := (Kd.S_reads' HO_3.out).1; omega)); obtain ⟨ve618_0, rfl, ge618_0⟩ := hMe618; have hv618_0 := hcc618 0 _ rfl; rw [Nat.add_zero, show ((Kd.slice 4 Kd.bool)).sz = 1 from rfl, Nat.mul_one] at hv618_0; replace hv618_0 := Option.some.inj (hv618_0.symm.trans hx618_0); rw [hv618_0] at ge618_0; have HL618_0 := Aside0.mk (show Kd.R Kd.bool 4 _ _ _ _ (rd_L5 x3_1 x6_2) from ge618_0); clear hv618_0 ge618_0; clear hcc618 hce618; have HR618_0 := Aside0.mk hi618_0; have HC618_0 := Aside0.mk hl618_0; clear hi618_0 hl618_0; replace p618 := eq_true p618; replace q618 := eq_true q618) | ((with_reducible refine gate_builtin (b := .append) (xs := #[.tmp 53, .tmp 57]) rfl ?_); at_builtin; refine Kd.R_append_rows Kd.bool (w0 := w) w.heap.size rfl (.tmp 53) (.tmp 57) 31 4 (.bool false) 1 rfl Try.underlying31 info4 rfl (by decide) (by omega) v616 y615 (rd_L5 x3_1 x6_2) _ _ _ (fun _ => True) (fun _ => False) rfl rfl ?aO ?aR (fun _ _ h => h) (fun _ h => h.elim) ?aF ?aB ?aS ?aL ?_; (case aR => repeat (first | exact (by repeat (first | (with_reducible exact HR618_0.out) | (with_reducible refine Kd.C_alloc ?_ _) | (with_reducible refine Kd.C_drewN ?_ _) | (with_reducible refine Kd.C_drew ?_) | exact HR618_0.out)) | (with_reducible refine Kd.C_alloc ?_ _) | (with_reducible refine Kd.C_drewN ?_ _) | (with_reducible refine Kd.C_drew ?_))); (case aB => exact (by exact below_y HB.out)); (case aF => exact (fun _ _ => trivial)); (case aO => exact (Kd.R_x HO617.out)); (case aS => exact (below_size (by exact below_y HB.out))); (case aL => have := LMc22.out; omega); intro v620 w32 ho hb hg hat; rw [← Ny619.out] at ho; replace HO_3 := Aside0.mk (Kd.S_after (ok := (fun k_ => some k_ ≠ (u5 : Value).ownBlock)) (Kd.S_x HO_3.out) hg hat); replace HO_5 := Aside0.mk (Kd.S_after (ok := (fun k_ => some k_ ≠ (.slice (some ad618) x3_1.length co8 : Value).ownBlock)) (Kd.S_x HO_5.out) hg hat); replace BK606 := Aside0.mk (blk_grown (blk_x BK606.out) hg (Kd.R_ne HO617.out BK606.out (by decide))); replace HL618_0 := Aside0.mk (Kd.R_after (ok := (fun k_ => some k_ ≠ (.slice (some ad618) x3_1.length co8 : Value).ownBlock ∧ some k_ ≠ (u5 : Value).ownBlock)) (by (with_reducible repeat (first | apply Kd.R_alloc | apply Kd.R_drewN | apply Kd.R_drew)); exact Kd.R_mono HL618_0.out (fun _ hk => ⟨⟨hk.2, hk.1.1⟩, hk.1.2⟩)) hg hat); replace HB := Aside0.mk (hb); have HO621 := Aside0.mk (ho); clear HO617; clear ho hb hg hat) | ((with_reducible refine gate_builtin (b := .append) (xs := #[.tmp 58, .tmp 59]) rfl ?_); at_builtin; refine Kd.R_append Kd.bool (w0 := w) w.heap.size rfl (.tmp 58) (.tmp 59) 31 4 (.bool false) 1 rfl Try.underlying31 info4 rfl (by decide) (by omega) v620 y619 false [.bool false] (fun _ => True) (fun _ => False) rfl rfl ?aP (fun _ hk => hk.elim) ?aF ?aO ?aB ?aS ?aL ?_; (case aP => exact rfl); (case aB => exact (by exact below_y HB.out)); (case aF => exact (fun _ _ => trivial)); (case aO => exact (Kd.R_x HO621.out)); (case aS => exact (below_size (by exact below_y HB.out))); (case aL => have := LMc23.out; omega); intro v623 w33 ho hb hg hat; rw [← Ny622.out] at ho; replace HO_3 := Aside0.mk (Kd.S_after (ok := (fun k_ => some k_ ≠ (u5 : Value).ownBlock)) (Kd.S_x HO_3.out) hg hat); replace HO_5 := Aside0.mk (Kd.S_after (ok := (fun k_ => some k_ ≠ (.slice (some ad618) x3_1.length co8 : Value).ownBlock)) (Kd.S_x HO_5.out) hg hat); replace BK606 := Aside0.mk (blk_grown (blk_x BK606.out) hg (Kd.R_ne HO621.out BK606.out (by decide))); replace HL618_0 := Aside0.mk (Kd.R_after (ok := (fun k_ => some k_ ≠ (.slice (some ad618) x3_1.length co8 : Value).ownBlock ∧ some k_ ≠ (u5 : Value).ownBlock)) (Kd.R_x HL618_0.out) hg hat); replace HB := Aside0.mk (hb); have HO624 := Aside0.mk (ho); clear HO621; clear ho hb hg hat; obtain ⟨Ao35, co35, eo35⟩ := Kd.R_slice HO624.out; subst eo35) | ((with_reducible refine gate_builtin (b := .append) (xs := #[.tmp 52, .tmp 61]) rfl ?_); at_builtin; refine Kd.S_append (Kd.slice 4 Kd.bool) (w0 := w) w.heap.size rfl (.tmp 52) (.tmp 61) 70 31 (.slice none 0 0) 24 rfl Try.underlying70 info31 rfl (by decide) (by omega) u5 x5_2 y622 [.slice Ao35 y622.length co35] (fun k_ => some k_ ≠ (.slice (some ad618) x3_1.length co8 : Value).ownBlock) (fun k_ => some k_ = (.slice Ao35 y622.length co35 : Value).ownBlock) rfl rfl ?aP (fun k_ hk_ => ((Kd.R_mono (ok' := fun k_ => ((fun k_ => some k_ ≠ (.slice (some ad618) x3_1.length co8 : Value).ownBlock)) k_ ∧ some k_ ≠ (u5 : Value).ownBlock) (Kd.R_apart' (Kd.R_apart' (HO624.out) (Kd.S_typed HO_3.out) (by decide)) (Kd.S_typed HO_5.out) (by decide)) (fun k_ hk => ⟨hk.1.2, hk.2⟩))).1 k_ hk_.symm) ?aF ?aO ?aB ?aS ?aL ?_; (case aP => exact Kd.M_row (Kd.R_mono (Kd.R_tight rfl (Kd.R_mono (ok' := fun k_ => ((fun k_ => some k_ ≠ (.slice (some ad618) x3_1.length co8 : Value).ownBlock)) k_ ∧ some k_ ≠ (u5 : Value).ownBlock) (Kd.R_apart' (Kd.R_apart' (HO624.out) (Kd.S_typed HO_3.out) (by decide)) (Kd.S_typed HO_5.out) (by decide)) (fun k_ hk => ⟨hk.1.2, hk.2⟩))) (fun _ h_ => h_))); (case aB => exact (by exact below_y HB.out)); (case aF => exact (fun k_ hk => Kd.fresh' (Kd.S_lt (Kd.S_x HO_3.out)) k_ hk)); (case aO => exact (by (with_reducible repeat (first | apply Kd.S_alloc | apply Kd.S_drewN | apply Kd.S_drew)); exact Kd.S_mono HO_5.out (fun k_ hk => ⟨hk.1, fun e_ => hk.2 e_⟩))); (case aS => exact (below_size (by exact below_y HB.out))); (case aL => have := LMc24.out; omega); intro v626 w34 ho hb hg hat; rw [← Ny625.out] at ho; replace HO_3 := Aside0.mk (Kd.S_after (ok := (fun k_ => some k_ ≠ (.slice Ao35 y622.length co35 : Value).ownBlock)) (by (with_reducible repeat (first | apply Kd.S_alloc | apply Kd.S_drewN | apply Kd.S_drew)); exact Kd.S_mono HO_3.out (fun _ hk => ⟨hk.2, hk.1⟩)) hg hat); replace BK606 := Aside0.mk (blk_grown (blk_x BK606.out) hg (Kd.S_ne HO_5.out BK606.out (by decide))); replace HL618_0 := Aside0.mk (Kd.R_after (ok := (fun k_ => some k_ ≠ (.slice (some ad618) x3_1.length co8 : Value).ownBlock ∧ some k_ ≠ (.slice Ao35 y622.length co35 : Value).ownBlock)) (by (with_reducible repeat (first | apply Kd.R_alloc | apply Kd.R_drewN | apply Kd.R_drew)); exact Kd.R_mono HL618_0.out (fun _ hk => ⟨⟨hk.1.1, hk.2⟩, hk.1.2⟩)) hg hat); replace HB := Aside0.mk (hb); have HO627 := Aside0.mk (ho); clear HO_5 HO624; clear ho hb hg hat) | ((with_reducible refine gate_dst (N := 65) rfl ?_); refine Kd.R_lit Kd.bool _ 4 ?hg (N := 65) ?hd (xs := ([] : List Bool)) (inner := []) (ok := fun _ => True) (okp := fun _ => True) ?hr ?hp (fun _ hk => hk) trivial (Below.refl _ _) (Nat.le_refl _) (by simp) ?_; (case hd => rfl); (case hg => rfl); (case hr => first | (go_simp; done) | (go_simp; rfl)); (case hp => exact (Reps.none _ _)); intro v629 w36 ho37 hb hg_ hnew_; clear hg_ hnew_; (first | rw [← Ny628.out] at ho37 | (simp only [Int.reduceToNat] at ho37; rw [← Ny628.out] at ho37)); replace HO_3 := Aside0.mk (Kd.S_elder' (Kd.S_x HO_3.out) (Kd.R_base ho37) hb); replace HO627 := Aside0.mk (Kd.S_elder' (Kd.S_x HO627.out) (Kd.R_base ho37) hb); have HO630 := Aside0.mk (Kd.R_lower (Kd.R_new' ho37 (Kd.R_lt (Kd.R_x HL618_0.out))) (below_size (by exact below_y HB.out))); replace HL618_0 := Aside0.mk (Kd.R_elder' (Kd.R_x HL618_0.out) (Kd.R_base ho37) hb); replace BK606 := Aside0.mk (blk_below (blk_x BK606.out) hb); replace HB := bl_x HB hb; clear hb ho37; have p631 : 0 ≤ (x6_2 : Int) := of_x; have q631 : x6_2 < (x3_1.length : Int) := of_x; obtain ⟨ad631, A631_0, c631_0, e631, hx631_0, hl631_0, hi631_0⟩ := at_L5 (Kd.S_reads' HO_3.out).2.2 x6_2 p631 q631; obtain rfl : ad618 = ad631 := (by injection e631); obtain ⟨ce631, hce631, hMe631, hcc631⟩ := Kd.S_get HO_3.out [] x6_2 p631 (by first | exact q631 | exact of_x | (have e_ := (Kd.S_reads' HO_3.out).1; omega)); obtain ⟨ve631_0, rfl, ge631_0⟩ := hMe631; have hv631_0 := hcc631 0 _ rfl; rw [Nat.add_zero, show ((Kd.slice 4 Kd.bool)).sz = 1 from rfl, Nat.mul_one] at hv631_0; replace hv631_0 := Option.some.inj (hv631_0.symm.trans hx631_0); rw [hv631_0] at ge631_0; have HL631_0 := Aside0.mk (show Kd.R Kd.bool 4 _ _ _ _ (rd_L5 x3_1 x6_2) from ge631_0); clear hv631_0 ge631_0; clear hcc631 hce631; have HR631_0 := Aside0.mk hi631_0; have HC631_0 := Aside0.mk hl631_0; clear hi631_0 hl631_0; replace p631 := eq_true p631; replace q631 := eq_true q631) | ((with_reducible refine gate_builtin (b := .append) (xs := #[.tmp 65, .tmp 69]) rfl ?_); at_builtin; refine Kd.R_append_rows Kd.bool (w0 := w) w.heap.size rfl (.tmp 65) (.tmp 69) 31 4 (.bool false) 1 rfl Try.underlying31 info4 rfl (by decide) (by omega) v629 y628 (rd_L5 x3_1 x6_2) _ _ _ (fun k_ => some k_ ≠ (.slice A618_0 (rd_L5 x3_1 x6_2).length c618_0 : Value).ownBlock) (fun _ => False) rfl rfl ?aO ?aR (fun _ _ h => h) (fun _ h => h.elim) ?aF ?aB ?aS ?aL ?_; (case aR => repeat (first | exact (by repeat (first | (with_reducible exact HR631_0.out) | (with_reducible refine Kd.C_alloc ?_ _) | (with_reducible refine Kd.C_drewN ?_ _) | (with_reducible refine Kd.C_drew ?_) | exact HR631_0.out)) | (with_reducible refine Kd.C_alloc ?_ _) | (with_reducible refine Kd.C_drewN ?_ _) | (with_reducible refine Kd.C_drew ?_))); (case aB => exact (by exact below_y HB.out)); (case aF => exact (fun k_ hk => Kd.fresh' (Kd.R_lt (Kd.R_x HL618_0.out)) k_ hk)); (case aO => exact (by (with_reducible repeat (first | apply Kd.R_alloc | apply Kd.R_drewN | apply Kd.R_drew)); exact Kd.R_mono HO630.out (fun _ hk => hk.2))); (case aS => exact (below_size (by exact below_y HB.out))); (case aL => have := LMc26.out; omega); intro v633 w38 ho hb hg hat; rw [← Ny632.out] at ho; replace HO_3 := Aside0.mk (Kd.S_after (ok := (fun k_ => some k_ ≠ (v626 : Value).ownBlock)) (by (with_reducible repeat (first | apply Kd.S_alloc | apply Kd.S_drewN | apply Kd.S_drew)); exact Kd.S_mono HO_3.out (fun _ hk => ⟨hk.1.2, hk.2⟩)) hg hat); replace BK606 := Aside0.mk (blk_grown (blk_x BK606.out) hg (Kd.R_ne HO630.out BK606.out (by decide))); replace HL618_0 := Aside0.mk (Kd.R_after (ok := (fun k_ => some k_ ≠ (.slice (some ad618) x3_1.length co8 : Value).ownBlock ∧ some k_ ≠ (v626 : Value).ownBlock)) (by (with_reducible repeat (first | apply Kd.R_alloc | apply Kd.R_drewN | apply Kd.R_drew)); exact Kd.R_mono HL618_0.out (fun _ hk => ⟨⟨hk.1.1.1, hk.1.2⟩, hk.2⟩)) hg hat); replace HO627 := Aside0.mk (Kd.S_after (ok := (fun k_ => some k_ ≠ (.slice (some ad618) x3_1.length co8 : Value).ownBlock)) (Kd.S_x HO627.out) hg hat); replace HL631_0 := Aside0.mk (Kd.R_after (ok := (fun k_ => some k_ ≠ (.slice (some ad618) x3_1.length co8 : Value).ownBlock ∧ some k_ ≠ (v626 : Value).ownBlock)) (by (with_reducible repeat (first | apply Kd.R_alloc | apply Kd.R_drewN | apply Kd.R_drew)); exact Kd.R_mono HL631_0.out (fun _ hk => ⟨⟨hk.2, hk.1.1.2⟩, hk.1.2⟩)) hg hat); replace HB := Aside0.mk (hb); have HO634 := Aside0.mk (ho); clear HO630; clear ho hb hg hat) | ((with_reducible refine gate_builtin (b := .append) (xs := #[.tmp 70, .tmp 71]) rfl ?_); at_builtin; refine Kd.R_append Kd.bool (w0 := w) w.heap.size rfl (.tmp 70) (.tmp 71) 31 4 (.bool false) 1 rfl Try.underlying31 info4 rfl (by decide) (by omega) v633 y632 true [.bool true] (fun k_ => some k_ ≠ (.slice A618_0 (rd_L5 x3_1 x6_2).length c618_0 : Value).ownBlock) (fun _ => False) rfl rfl ?aP (fun _ hk => hk.elim) ?aF ?aO ?aB ?aS ?aL ?_; (case aP => exact rfl); (case aB => exact (by exact below_y HB.out)); (case aF => exact (fun k_ hk => Kd.fresh' (Kd.R_lt (Kd.R_x HL618_0.out)) k_ hk)); (case aO => exact (Kd.R_x HO634.out)); (case aS => exact (below_size (by exact below_y HB.out))); (case aL => have := LMc27.out; omega); intro v636 w39 ho hb hg hat; rw [← Ny635.out] at ho; replace HO_3 := Aside0.mk (Kd.S_after (ok := (fun k_ => some k_ ≠ (v626 : Value).ownBlock)) (Kd.S_x HO_3.out) hg hat); replace BK606 := Aside0.mk (blk_grown (blk_x BK606.out) hg (Kd.R_ne HO634.out BK606.out (by decide))); replace HL618_0 := Aside0.mk (Kd.R_after (ok := (fun k_ => some k_ ≠ (.slice (some ad618) x3_1.length co8 : Value).ownBlock ∧ some k_ ≠ (v626 : Value).ownBlock)) (Kd.R_x HL618_0.out) hg hat); replace HO627 := Aside0.mk (Kd.S_after (ok := (fun k_ => some k_ ≠ (.slice (some ad618) x3_1.length co8 : Value).ownBlock)) (Kd.S_x HO627.out) hg hat); replace HL631_0 := Aside0.mk (Kd.R_after (ok := (fun k_ => some k_ ≠ (.slice (some ad618) x3_1.length co8 : Value).ownBlock ∧ some k_ ≠ (v626 : Value).ownBlock)) (Kd.R_x HL631_0.out) hg hat); replace HB := Aside0.mk (hb); have HO637 := Aside0.mk (ho); clear HO634; clear ho hb hg hat; obtain ⟨Ao41, co41, eo41⟩ := Kd.R_slice HO637.out; subst eo41) | ((with_reducible refine gate_builtin (b := .append) (xs := #[.tmp 64, .tmp 73]) rfl ?_); at_builtin; refine Kd.S_append (Kd.slice 4 Kd.bool) (w0 := w) w.heap.size rfl (.tmp 64) (.tmp 73) 70 31 (.slice none 0 0) 24 rfl Try.underlying70 info31 rfl (by decide) (by omega) v626 y625 y635 [.slice Ao41 y635.length co41] (fun k_ => some k_ ≠ (.slice (some ad618) x3_1.length co8 : Value).ownBlock) (fun k_ => some k_ = (.slice Ao41 y635.length co41 : Value).ownBlock) rfl rfl ?aP (fun k_ hk_ => ((Kd.R_mono (ok' := fun k_ => ((fun k_ => some k_ ≠ (.slice (some ad618) x3_1.length co8 : Value).ownBlock)) k_ ∧ some k_ ≠ (v626 : Value).ownBlock) (Kd.R_apart' (Kd.R_apart' (HO637.out) (Kd.S_typed HO_3.out) (by decide)) (Kd.S_typed HO627.out) (by decide)) (fun k_ hk => ⟨hk.1.2, hk.2⟩))).1 k_ hk_.symm) ?aF ?aO ?aB ?aS ?aL ?_; (case aP => exact Kd.M_row (Kd.R_mono (Kd.R_tight rfl (Kd.R_mono (ok' := fun k_ => ((fun k_ => some k_ ≠ (.slice (some ad618) x3_1.length co8 : Value).ownBlock)) k_ ∧ some k_ ≠ (v626 : Value).ownBlock) (Kd.R_apart' (Kd.R_apart' (HO637.out) (Kd.S_typed HO_3.out) (by decide)) (Kd.S_typed HO627.out) (by decide)) (fun k_ hk => ⟨hk.1.2, hk.2⟩))) (fun _ h_ => h_))); (case aB => exact (by exact below_y HB.out)); (case aF => exact (fun k_ hk => Kd.fresh' (Kd.S_lt (Kd.S_x HO_3.out)) k_ hk)); (case aO => exact (by (with_reducible repeat (first | apply Kd.S_alloc | apply Kd.S_drewN | apply Kd.S_drew)); exact Kd.S_mono HO627.out (fun k_ hk => ⟨hk.1, fun e_ => hk.2 e_⟩))); (case aS => exact (below_size (by exact below_y HB.out))); (case aL => have := LMc28.out; omega); intro v639 w40 ho hb hg hat; rw [← Ny638.out] at ho; replace HO_3 := Aside0.mk (Kd.S_after (ok := (fun k_ => some k_ ≠ (.slice Ao41 y635.length co41 : Value).ownBlock)) (by (with_reducible repeat (first | apply Kd.S_alloc | apply Kd.S_drewN | apply Kd.S_drew)); exact Kd.S_mono HO_3.out (fun _ hk => ⟨hk.2, hk.1⟩)) hg hat); replace BK606 := Aside0.mk (blk_grown (blk_x BK606.out) hg (Kd.S_ne HO627.out BK606.out (by decide))); replace HL618_0 := Aside0.mk (Kd.R_after (ok := (fun k_ => some k_ ≠ (.slice (some ad618) x3_1.length co8 : Value).ownBlock ∧ some k_ ≠ (.slice Ao41 y635.length co41 : Value).ownBlock)) (by (with_reducible repeat (first | apply Kd.R_alloc | apply Kd.R_drewN | apply Kd.R_drew)); exact Kd.R_mono HL618_0.out (fun _ hk => ⟨⟨hk.1.1, hk.2⟩, hk.1.2⟩)) hg hat); replace HL631_0 := Aside0.mk (Kd.R_after (ok := (fun k_ => some k_ ≠ (.slice (some ad618) x3_1.length co8 : Value).ownBlock ∧ some k_ ≠ (.slice Ao41 y635.length co41 : Value).ownBlock)) (by (with_reducible repeat (first | apply Kd.R_alloc | apply Kd.R_drewN | apply Kd.R_drew)); exact Kd.R_mono HL631_0.out (fun _ hk => ⟨⟨hk.1.1, hk.2⟩, hk.1.2⟩)) hg hat); replace HB := Aside0.mk (hb); have HO640 := Aside0.mk (ho); clear HO627 HO637; clear ho hb hg hat))
                     go_roundg k3
                     case measure => have := HK1.out; have := HK2.out; have := HK3.out; omega
                     case rel => exact ⟨(y638), (wrap64 (x6_2 + 1)), (by first | rfl | (simp; done) | (simp [*]; done)), H', ⟨by have := HK1.out; have := HK2.out; have := HK3.out; omega⟩, ⟨by (with_reducible repeat (first | apply Kd.S_alloc | apply Kd.S_drewN | apply Kd.S_drew)); exact Kd.S_mono HO_3.out (fun _ hk => hk.2)⟩, ⟨by (with_reducible repeat (first | apply Kd.S_alloc | apply Kd.S_drewN | apply Kd.S_drew)); exact HO640.out⟩, ⟨blk_x BK606.out⟩, ⟨by exact below_y HB.out⟩⟩
                    ·
                     rw [if_neg c28] at H
                     exact absurd H (by simp)
                   ·
                    rw [if_neg c27] at H
                    exact absurd H (by simp)
                  ·
                   rw [if_neg c26] at H
                   exact absurd H (by simp)
                 ·
                  replace c25 := Bool.eq_false_iff.mpr c25
                  subst c25
                  have H1 : (swarfref04_States.l1 k3 x3_1 x4_1 y625 (wrap64 (x6_2 + 1)) l0_0 a0_1 l0_2 a0_3 l0_4) = some r := by rw [if_neg (show ¬ (false = true) by decide)] at H; exact H
                  clear H
                  have H := H1
                  clear H1
                  have H' := Aside0.mk H
                  clear H
                  obtain ⟨_, _, _, _, _⟩ := cz5 BK606
                  have hfz42_0 := blk_frozen BK606.out
                  have p610 : 0 ≤ (x4_1 : Int) := of_x
                  have q610 : x4_1 < (l0_0.length : Int) := of_x
                  obtain ⟨ad610, A610_0, c610_0, e610, hx610_0, hx610_1, hx610_2, hx610_3, hl610_0, hi610_0⟩ := at_T50 HR0_0.out x4_1 p610 q610
                  cases e610
                  replace hx610_0 := cell_x HB hx610_0
                  replace hx610_1 := cell_x HB hx610_1
                  replace hx610_2 := cell_x HB hx610_2
                  replace hx610_3 := cell_x HB hx610_3
                  have HR610_0 := Aside0.mk hi610_0
                  have HC610_0 := Aside0.mk hl610_0
                  clear hi610_0 hl610_0
                  replace p610 := eq_true p610
                  replace q610 := eq_true q610
                  go_wp2_with (first | ((with_reducible refine gate_dst (N := 53) rfl ?_); refine Kd.R_lit Kd.bool _ 4 ?hg (N := 53) ?hd (xs := ([] : List Bool)) (inner := []) (ok := fun _ => True) (okp := fun _ => True) ?hr ?hp (fun _ hk => hk) trivial (Below.refl _ _) (Nat.le_refl _) (by simp) ?_; (case hd => rfl); (case hg => rfl); (case hr => first | (go_simp; done) | (go_simp; rfl)); (case hp => exact (Reps.none _ _)); intro v616 w43 ho44 hb hg_ hnew_; clear hg_ hnew_; (first | rw [← Ny615.out] at ho44 | (simp only [Int.reduceToNat] at ho44; rw [← Ny615.out] at ho44)); replace HO_3 := Aside0.mk (Kd.S_elder' (Kd.S_x HO_3.out) (Kd.R_base ho44) hb); replace HO_5 := Aside0.mk (Kd.S_elder' (Kd.S_x HO_5.out) (Kd.R_base ho44) hb); have HO617 := Aside0.mk (Kd.R_lower ho44 (below_size (by exact below_y HB.out))); replace BK606 := Aside0.mk (blk_below (blk_x BK606.out) hb); replace HB := bl_x HB hb; clear hb ho44; have p618 : 0 ≤ (x6_2 : Int) := of_x; have q618 : x6_2 < (x3_1.length : Int) := of_x; obtain ⟨ad618, A618_0, c618_0, e618, hx618_0, hl618_0, hi618_0⟩ := at_L5 (Kd.S_reads' HO_3.out).2.2 x6_2 p618 q618; cases e618; obtain ⟨ce618, hce618, hMe618, hcc618⟩ := Kd.S_get HO_3.out [] x6_2 p618 (by first | exact q618 | exact of_x | (have e_ := (Kd.S_reads' HO_3.out).1; omega)); obtain ⟨ve618_0, rfl, ge618_0⟩ := hMe618; have hv618_0 := hcc618 0 _ rfl; rw [Nat.add_zero, show ((Kd.slice 4 Kd.bool)).sz = 1 from rfl, Nat.mul_one] at hv618_0; replace hv618_0 := Option.some.inj (hv618_0.symm.trans hx618_0); rw [hv618_0] at ge618_0; have HL618_0 := Aside0.mk (show Kd.R Kd.bool 4 _ _ _ _ (rd_L5 x3_1 x6_2) from ge618_0); clear hv618_0 ge618_0; clear hcc618 hce618; have HR618_0 := Aside0.mk hi618_0; have HC618_0 := Aside0.mk hl618_0; clear hi618_0 hl618_0; replace p618 := eq_true p618; replace q618 := eq_true q618) | ((with_reducible refine gate_builtin (b := .append) (xs := #[.tmp 53, .tmp 57]) rfl ?_); at_builtin; refine Kd.R_append_rows Kd.bool (w0 := w) w.heap.size rfl (.tmp 53) (.tmp 57) 31 4 (.bool false) 1 rfl Try.underlying31 info4 rfl (by decide) (by omega) v616 y615 (rd_L5 x3_1 x6_2) _ _ _ (fun _ => True) (fun _ => False) rfl rfl ?aO ?aR (fun _ _ h => h) (fun _ h => h.elim) ?aF ?aB ?aS ?aL ?_; (case aR => repeat (first | exact (by repeat (first | (with_reducible exact HR618_0.out) | (with_reducible refine Kd.C_alloc ?_ _) | (with_reducible refine Kd.C_drewN ?_ _) | (with_reducible refine Kd.C_drew ?_) | exact HR618_0.out)) | (with_reducible refine Kd.C_alloc ?_ _) | (with_reducible refine Kd.C_drewN ?_ _) | (with_reducible refine Kd.C_drew ?_))); (case aB => exact (by exact below_y HB.out)); (case aF => exact (fun _ _ => trivial)); (case aO => exact (Kd.R_x HO617.out)); (case aS => exact (below_size (by exact below_y HB.out))); (case aL => have := LMc22.out; omega); intro v620 w45 ho hb hg hat; rw [← Ny619.out] at ho; replace HO_3 := Aside0.mk (Kd.S_after (ok := (fun k_ => some k_ ≠ (u5 : Value).ownBlock)) (Kd.S_x HO_3.out) hg hat); replace HO_5 := Aside0.mk (Kd.S_after (ok := (fun k_ => some k_ ≠ (.slice (some ad618) x3_1.length co8 : Value).ownBlock)) (Kd.S_x HO_5.out) hg hat); replace BK606 := Aside0.mk (blk_grown (blk_x BK606.out) hg (Kd.R_ne HO617.out BK606.out (by decide))); replace HL618_0 := Aside0.mk (Kd.R_after (ok := (fun k_ => some k_ ≠ (.slice (some ad618) x3_1.length co8 : Value).ownBlock ∧ some k_ ≠ (u5 : Value).ownBlock)) (by (with_reducible repeat (first | apply Kd.R_alloc | apply Kd.R_drewN | apply Kd.R_drew)); exact Kd.R_mono HL618_0.out (fun _ hk => ⟨⟨hk.2, hk.1.1⟩, hk.1.2⟩)) hg hat); replace HB := Aside0.mk (hb); have HO621 := Aside0.mk (ho); clear HO617; clear ho hb hg hat) | ((with_reducible refine gate_builtin (b := .append) (xs := #[.tmp 58, .tmp 59]) rfl ?_); at_builtin; refine Kd.R_append Kd.bool (w0 := w) w.heap.size rfl (.tmp 58) (.tmp 59) 31 4 (.bool false) 1 rfl Try.underlying31 info4 rfl (by decide) (by omega) v620 y619 false [.bool false] (fun _ => True) (fun _ => False) rfl rfl ?aP (fun _ hk => hk.elim) ?aF ?aO ?aB ?aS ?aL ?_; (case aP => exact rfl); (case aB => exact (by exact below_y HB.out)); (case aF => exact (fun _ _ => trivial)); (case aO => exact (Kd.R_x HO621.out)); (case aS => exact (below_size (by exact below_y HB.out))); (case aL => have := LMc23.out; omega); intro v623 w46 ho hb hg hat; rw [← Ny622.out] at ho; replace HO_3 := Aside0.mk (Kd.S_after (ok := (fun k_ => some k_ ≠ (u5 : Value).ownBlock)) (Kd.S_x HO_3.out) hg hat); replace HO_5 := Aside0.mk (Kd.S_after (ok := (fun k_ => some k_ ≠ (.slice (some ad618) x3_1.length co8 : Value).ownBlock)) (Kd.S_x HO_5.out) hg hat); replace BK606 := Aside0.mk (blk_grown (blk_x BK606.out) hg (Kd.R_ne HO621.out BK606.out (by decide))); replace HL618_0 := Aside0.mk (Kd.R_after (ok := (fun k_ => some k_ ≠ (.slice (some ad618) x3_1.length co8 : Value).ownBlock ∧ some k_ ≠ (u5 : Value).ownBlock)) (Kd.R_x HL618_0.out) hg hat); replace HB := Aside0.mk (hb); have HO624 := Aside0.mk (ho); clear HO621; clear ho hb hg hat; obtain ⟨Ao48, co48, eo48⟩ := Kd.R_slice HO624.out; subst eo48) | ((with_reducible refine gate_builtin (b := .append) (xs := #[.tmp 52, .tmp 61]) rfl ?_); at_builtin; refine Kd.S_append (Kd.slice 4 Kd.bool) (w0 := w) w.heap.size rfl (.tmp 52) (.tmp 61) 70 31 (.slice none 0 0) 24 rfl Try.underlying70 info31 rfl (by decide) (by omega) u5 x5_2 y622 [.slice Ao48 y622.length co48] (fun k_ => some k_ ≠ (.slice (some ad618) x3_1.length co8 : Value).ownBlock) (fun k_ => some k_ = (.slice Ao48 y622.length co48 : Value).ownBlock) rfl rfl ?aP (fun k_ hk_ => ((Kd.R_mono (ok' := fun k_ => ((fun k_ => some k_ ≠ (.slice (some ad618) x3_1.length co8 : Value).ownBlock)) k_ ∧ some k_ ≠ (u5 : Value).ownBlock) (Kd.R_apart' (Kd.R_apart' (HO624.out) (Kd.S_typed HO_3.out) (by decide)) (Kd.S_typed HO_5.out) (by decide)) (fun k_ hk => ⟨hk.1.2, hk.2⟩))).1 k_ hk_.symm) ?aF ?aO ?aB ?aS ?aL ?_; (case aP => exact Kd.M_row (Kd.R_mono (Kd.R_tight rfl (Kd.R_mono (ok' := fun k_ => ((fun k_ => some k_ ≠ (.slice (some ad618) x3_1.length co8 : Value).ownBlock)) k_ ∧ some k_ ≠ (u5 : Value).ownBlock) (Kd.R_apart' (Kd.R_apart' (HO624.out) (Kd.S_typed HO_3.out) (by decide)) (Kd.S_typed HO_5.out) (by decide)) (fun k_ hk => ⟨hk.1.2, hk.2⟩))) (fun _ h_ => h_))); (case aB => exact (by exact below_y HB.out)); (case aF => exact (fun k_ hk => Kd.fresh' (Kd.S_lt (Kd.S_x HO_3.out)) k_ hk)); (case aO => exact (by (with_reducible repeat (first | apply Kd.S_alloc | apply Kd.S_drewN | apply Kd.S_drew)); exact Kd.S_mono HO_5.out (fun k_ hk => ⟨hk.1, fun e_ => hk.2 e_⟩))); (case aS => exact (below_size (by exact below_y HB.out))); (case aL => have := LMc24.out; omega); intro v626 w47 ho hb hg hat; rw [← Ny625.out] at ho; replace HO_3 := Aside0.mk (Kd.S_after (ok := (fun k_ => some k_ ≠ (.slice Ao48 y622.length co48 : Value).ownBlock)) (by (with_reducible repeat (first | apply Kd.S_alloc | apply Kd.S_drewN | apply Kd.S_drew)); exact Kd.S_mono HO_3.out (fun _ hk => ⟨hk.2, hk.1⟩)) hg hat); replace BK606 := Aside0.mk (blk_grown (blk_x BK606.out) hg (Kd.S_ne HO_5.out BK606.out (by decide))); replace HL618_0 := Aside0.mk (Kd.R_after (ok := (fun k_ => some k_ ≠ (.slice (some ad618) x3_1.length co8 : Value).ownBlock ∧ some k_ ≠ (.slice Ao48 y622.length co48 : Value).ownBlock)) (by (with_reducible repeat (first | apply Kd.R_alloc | apply Kd.R_drewN | apply Kd.R_drew)); exact Kd.R_mono HL618_0.out (fun _ hk => ⟨⟨hk.1.1, hk.2⟩, hk.1.2⟩)) hg hat); replace HB := Aside0.mk (hb); have HO627 := Aside0.mk (ho); clear HO_5 HO624; clear ho hb hg hat))
                  go_roundg k3
                  case measure => have := HK1.out; have := HK2.out; have := HK3.out; omega
                  case rel => exact ⟨(y625), (wrap64 (x6_2 + 1)), (by first | rfl | (simp; done) | (simp [*]; done)), H', ⟨by have := HK1.out; have := HK2.out; have := HK3.out; omega⟩, ⟨by (with_reducible repeat (first | apply Kd.S_alloc | apply Kd.S_drewN | apply Kd.S_drew)); exact Kd.S_mono HO_3.out (fun _ hk => hk.2)⟩, ⟨by (with_reducible repeat (first | apply Kd.S_alloc | apply Kd.S_drewN | apply Kd.S_drew)); exact HO627.out⟩, ⟨blk_x BK606.out⟩, ⟨by exact below_y HB.out⟩⟩
                ·
                 rw [if_neg c24] at H
                 exact absurd H (by simp)
               ·
                rw [if_neg c23] at H
                exact absurd H (by simp)
              ·
               rw [if_neg c22] at H
               exact absurd H (by simp)
             ·
              rw [if_neg c21] at H
              exact absurd H (by simp)
            ·
             rw [if_neg c20] at H
             exact absurd H (by simp)
          ·
           rw [if_neg c10] at H
           exact absurd H (by simp)
         ·
          rw [if_neg c9] at H
          exact absurd H (by simp)
      ·
       rw [if_neg c7] at H
       have c7b0 : decide (x6_2 < (x3_1.length : Int)) = false := decide_eq_false c7
       clear c7
       have H' := Aside0.mk H
       clear H
       obtain ⟨Ao49, co49, eo49⟩ := Kd.S_slice HO_3.out
       subst eo49
       go_wp2
       go_roundg k2
       case measure => have := HK1.out; have := HK2.out; omega
       case rel => exact ⟨(x5_2), (wrap64 (x4_1 + 1)), (by first | rfl | (simp; done) | (simp [*]; done)), H', ⟨by have := HK1.out; have := HK2.out; omega⟩, ⟨by (with_reducible repeat (first | apply Kd.S_alloc | apply Kd.S_drewN | apply Kd.S_drew)); exact Kd.S_mono HO_5.out (fun _ hk => trivial)⟩, ⟨blk_x BK606.out⟩, ⟨by exact below_y HB.out⟩⟩
   ·
    rw [if_neg c5] at H
    have c5b0 : decide (x4_1 < (l0_0.length : Int)) = false := decide_eq_false c5
    clear c5
    obtain rfl := Option.some.inj H
    obtain ⟨_, _, _, _, _⟩ := cz5 BK606
    have hfz50_0 := blk_frozen BK606.out
    go_wp2
    go_ret
    exact ⟨_, by first | rfl | (simp [errW_none, errW_some] <;> rfl) | (simp [*, errW_none, errW_some] <;> rfl), by (with_reducible repeat (first | apply Kd.S_alloc | apply Kd.S_drewN | apply Kd.S_drew)); exact HO_3.out, by exact below_y HB.out⟩
def swarfref04_Truths.l0 : Nat → List (List Bool) → List (List Bool) → Int → List (S50) → Int → List (S61) → Int → List Int → Option ((List (List Bool)))
 | 0, _, _, _, _, _, _, _, _ => none
 | k + 1, x3, x4, x5, x642000, x642001, x642002, x642003, x642004 => if x5 < (x4.length : Int) then (if 0 ≤ x5 then ((swarfref04_Wrongs.f k x642000 x642001 x642002 x642003 x642004 (rd_L5 x4 x5)).bind fun t646 => (if t646 ≤ x642003 then (if x3.length < 5864062014805 then (swarfref04_Truths.l0 k (x3 ++ [rd_L5 x4 x5]) x4 (wrap64 (x5 + 1)) x642000 x642001 x642002 x642003 x642004) else (none)) else (swarfref04_Truths.l0 k x3 x4 (wrap64 (x5 + 1)) x642000 x642001 x642002 x642003 x642004))) else (none)) else (some x3)
def swarfref04_Truths.f (k : Nat) (l0_0 : List (S50)) (a0_1 : Int) (l0_2 : List (S61)) (a0_3 : Int) (l0_4 : List Int) : Option ((List (List Bool))) := (swarfref04_States.f k l0_0 a0_1 l0_2 a0_3 l0_4).bind fun t642 => (swarfref04_Truths.l0 k ([] : List (List Bool)) t642 0 l0_0 a0_1 l0_2 a0_3 l0_4)
def swarfref04_Truths.T6 : Bool × List (List Nat × List Nat) := (true, [([], []), ([], []), ([], []), ([1, 2], [1, 2]), ([3], [3]), ([0, 4], [0, 4]), ([], []), ([6], [6]), ([5, 7], [5, 7])])
def swarfref04_Truths.B6 : List Nat := [0, 0, 0, 6, 14, 31, 0, 64, 255]
theorem swarfref04_Truths.tab6 : rtab .any (opsOf Try.f48 6) = swarfref04_Truths.T6 := by kernel_rfl
theorem swarfref04_Truths.bits6 : waitsOk swarfref04_Truths.T6.2 swarfref04_Truths.B6 = true := by kernel_rfl
set_option maxHeartbeats 8000000 in
set_option maxRecDepth 100000 in
theorem swarfref04_Truths.calls (k : Nat) (A0_0 : Option Addr) (c0_0 : Nat) (l0_0 : List (S50)) (a0_1 : Int) (A0_2 : Option Addr) (c0_2 : Nat) (l0_2 : List (S61)) (a0_3 : Int) (A0_4 : Option Addr) (c0_4 : Nat) (l0_4 : List Int) (r : List (List Bool)) (w : World) (hr0_0 : Kd.C k50 w A0_0 l0_0.length l0_0) (hc0_0 : l0_0.length ≤ c0_0) (hr0_2 : Kd.C k61 w A0_2 l0_2.length l0_2) (hc0_2 : l0_2.length ≤ c0_2) (hr0_4 : Kd.C (Kd.int .i64) w A0_4 l0_4.length l0_4) (hc0_4 : l0_4.length ≤ c0_4) (h : swarfref04_Truths.f k l0_0 a0_1 l0_2 a0_3 l0_4 = some r) :
  Calls Try.prog 48 #[.agg #[.slice A0_0 l0_0.length c0_0, .int .i64 a0_1, .slice A0_2 l0_2.length c0_2, .int .i64 a0_3, .slice A0_4 l0_4.length c0_4]] w fun e w' => ∃ v0_ : Value, e = .returned (v0_) ∧ Kd.N (Kd.slice 4 Kd.bool) 31 w' w.heap.size (fun k_ => (w.heap.size ≤ k_)) v0_ r ∧ Below w.heap.size w w' := by
 have hu26 := Try.underlying26
 have HR0_0 := Aside0.mk hr0_0
 have HC0_0 := Aside0.mk hc0_0
 clear hr0_0 hc0_0
 have HR0_2 := Aside0.mk hr0_2
 have HC0_2 := Aside0.mk hc0_2
 clear hr0_2 hc0_2
 have HR0_4 := Aside0.mk hr0_4
 have HC0_4 := Aside0.mk hc0_4
 clear hr0_4 hc0_4
 have HB := Aside0.mk (Below.refl w.heap.size w)
 have H : ((swarfref04_States.f k l0_0 a0_1 l0_2 a0_3 l0_4).bind fun t642 => (swarfref04_Truths.l0 k ([] : List (List Bool)) t642 0 l0_0 a0_1 l0_2 a0_3 l0_4)) = some r := h
 clear h
 replace H := Option.bind_eq_some_iff.mp H
 obtain ⟨t642, A20, H⟩ := H
 try dsimp only at H
 have A2 := Aside0.mk A20
 clear A20
 have H' := Aside0.mk H
 clear H
 go_enter Try.func48, Try.ntmps48
 go_wp2_with (first | ((with_reducible refine gate_dst (N := 1) rfl ?_); refine box_event ?hg (N := 1) ?hd (cs := #[.slice A0_0 l0_0.length c0_0, .int .i64 a0_1, .slice A0_2 l0_2.length c0_2, .int .i64 a0_3, .slice A0_4 l0_4.length c0_4]) (t := 26) ?hr ?_; (case hd => rfl); (case hg => rfl); (case hr => first | (go_simp; done) | (go_simp; rfl)); intro gb641 hg w3 hbox hb; have BK641 := Aside0.mk (hbox); have GW641 := Aside0.mk ((by rw [hg]; exact (below_size (below_x HB.out)) : w.heap.size ≤ gb641)); have GE641 := Aside0.mk ((by rw [hg]; exact (below_size (below_x HB.out)) : w.heap.size ≤ gb641)); replace HB := Aside0.mk (below_step (below_x HB.out) hb); clear hb hbox hg; obtain ⟨_, _, _, _, _⟩ := cz5 BK641; have hfz4_0 := blk_frozen BK641.out) | ((with_reducible refine gate_callee (f := 71) rfl ?_); refine goesL_ (some 7) rfl rfl Try.func71 (by kernel_rfl) rfl #[.agg #[.slice A0_0 l0_0.length c0_0, .int .i64 a0_1, .slice A0_2 l0_2.length c0_2, .int .i64 a0_3, .slice A0_4 l0_4.length c0_4]] rfl (by (try simp only [List.map_toArray, List.map_cons, List.map_nil]); first | done | rfl | (simp only [List.length_drop, List.length_take]; rfl)) ?_; (with_reducible refine (swarfref04_States.calls k _ _ l0_0 a0_1 _ _ l0_2 a0_3 _ _ l0_4 t642 _ ?side1 ?side2 ?side3 ?side4 ?side5 ?side6 A2.out).mono ?_); (case side1 => exact Kd.C_x HR0_0.out HB.out); (case side2 => exact HC0_0.out); (case side3 => exact Kd.C_x HR0_2.out HB.out); (case side4 => exact HC0_2.out); (case side5 => exact Kd.C_x HR0_4.out HB.out); (case side6 => exact HC0_4.out); rintro e w5 ⟨v643, rfl, ho0, hb⟩; refine ⟨_, rfl, ?_⟩; have HO644 := Aside0.mk (Kd.N_lower (Kd.N_mono (ok' := fun k_ => (w.heap.size ≤ k_) ∧ k_ ≠ gb641) (Kd.S_N (Kd.S_bound ho0)) (fun k_ hk_ => ⟨(Nat.le_trans (below_size (by exact below_y HB.out)) hk_.2.1), (Kd.freshB (g := gb641) (o := .cells #[.slice A0_0 l0_0.length c0_0, .int .i64 a0_1, .slice A0_2 l0_2.length c0_2, .int .i64 a0_3, .slice A0_4 l0_4.length c0_4] 26 (0, 0)) (blk_x BK641.out) k_ hk_.2.1)⟩)) (below_size (by exact below_y HB.out))); replace BK641 := Aside0.mk (blk_below (blk_x BK641.out) hb); replace HB := bl_x HB hb; (try clear hb); (try clear hk); (try clear hi); (try clear ho0)))
 go_loopg [3, 5] k (fun kq v3 v5 w' => ∃ (x3_1 : List (List Bool)) (x5_1 : Int), v5 = .int .i64 x5_1 ∧ Aside0 (swarfref04_Truths.l0 kq x3_1 t642 x5_1 l0_0 a0_1 l0_2 a0_3 l0_4 = some r) ∧ Aside0 (kq ≤ k) ∧ Aside0 (Kd.N (Kd.slice 4 Kd.bool) 31 w' w.heap.size (fun k_ => (w.heap.size ≤ k_) ∧ some k_ ≠ (v643 : Value).ownBlock ∧ k_ ≠ gb641) v3 x3_1) ∧ Aside0 (Kd.N (Kd.slice 4 Kd.bool) 31 w' w.heap.size (fun k_ => (w.heap.size ≤ k_) ∧ some k_ ≠ (v3 : Value).ownBlock ∧ k_ ≠ gb641) v643 t642) ∧ Aside0 (w'.heap[gb641]? = some (.cells #[(.slice A0_0 l0_0.length c0_0), .int .i64 a0_1, (.slice A0_2 l0_2.length c0_2), .int .i64 a0_3, (.slice A0_4 l0_4.length c0_4)] 26 (0, 0))) ∧ Aside0 (Below w.heap.size w w'))
 case atStart => exact ⟨(([] : List (List Bool))), (0), (by first | rfl | (simp; done) | (simp [*]; done)), H', ⟨Nat.le_refl _⟩, ⟨by first | exact Kd.S_nil _ _ _ _ _ | exact Kd.N_nil _ _ _ _ _ | exact Kd.V_nil _ _ _ _ _ | exact Kd.Q_nil _ _ _ _ _ | exact Kd.R_nil _ _ _ _ _⟩, ⟨by (with_reducible repeat (first | apply Kd.N_alloc | apply Kd.N_drewN | apply Kd.N_drew)); exact Kd.N_mono HO644.out (fun _ hk => ⟨hk.1, ⟨(by simp [Value.ownBlock]), hk.2⟩⟩)⟩, ⟨blk_x BK641.out⟩, ⟨by exact below_y HB.out⟩⟩
 case round =>
  clear H'
  try clear HO_3
  try clear HO_4
  try clear BK641
  try clear HB
  obtain ⟨x3_1, x5_1, rfl, HA, HK1, HO_3, HO_4, BK641, HB⟩ := hrel
  cases gk with
  | zero => exact absurd HA.out (by simp [swarfref04_Truths.l0])
  | succ k1 =>
   have H := HA.out
   clear HA
   simp only [swarfref04_Truths.l0] at H
   by_cases c6 : x5_1 < (t642.length : Int)
   ·
    rw [if_pos c6] at H
    have c6b0 : decide (x5_1 < (t642.length : Int)) = true := decide_eq_true c6
    clear c6
    by_cases c7 : 0 ≤ x5_1
    ·
     rw [if_pos c7] at H
     have c7b0 : decide (0 ≤ x5_1) = true := decide_eq_true c7
     clear c7
     replace H := Option.bind_eq_some_iff.mp H
     obtain ⟨t646, A80, H⟩ := H
     try dsimp only at H
     have A8 := Aside0.mk A80
     clear A80
     by_cases c9 : t646 ≤ a0_3
     ·
      rw [if_pos c9] at H
      have c9b0 : decide (t646 ≤ a0_3) = true := decide_eq_true c9
      clear c9
      by_cases c10 : x3_1.length < 5864062014805
      ·
       rw [if_pos c10] at H
       have LMc10 := Aside0.mk c10
       clear c10
       obtain ⟨y648, hy648⟩ : ∃ y_ : List (List Bool), y_ = (x3_1 ++ [rd_L5 t642 x5_1]) := ⟨_, rfl⟩
       replace H : (swarfref04_Truths.l0 k1 y648 t642 (wrap64 (x5_1 + 1)) l0_0 a0_1 l0_2 a0_3 l0_4) = some r := by first | (rw [hy648]; with_reducible exact H) | (have H2_ := (Option.bind_some _ _).symm.trans H; rw [hy648]; with_reducible exact H2_) | (have H2_ := (Option.bind_some _ _).symm.trans H; with_reducible exact H2_) | with_reducible exact H | (rw [hy648]; exact H) | exact H
       have Ny648 := Aside0.mk hy648
       clear hy648
       have H' := Aside0.mk H
       clear H
       obtain ⟨Ao11, co11, eo11⟩ := Kd.N_slice HO_4.out
       subst eo11
       try go_wp2
       replace HO_3 := Aside0.mk (Kd.N_drew HO_3.out)
       replace HO_4 := Aside0.mk (Kd.N_drew HO_4.out)
       replace BK641 := Aside0.mk (blk_drew BK641.out)
       replace HB := Aside0.mk (below_drew1 HB.out)
       have p645 : 0 ≤ (x5_1 : Int) := of_x
       have q645 : x5_1 < (t642.length : Int) := of_x
       obtain ⟨ad645, A645_0, c645_0, e645, hx645_0, hl645_0, hi645_0⟩ := at_L5 (Kd.N_reads' HO_4.out).2.2 x5_1 p645 q645
       cases e645
       obtain ⟨ce645, hce645, hMe645, hcc645⟩ := Kd.N_get HO_4.out [] x5_1 p645 (by first | exact q645 | exact of_x | (have e_ := (Kd.N_reads' HO_4.out).1; omega))
       obtain ⟨ua645_0, uc645_0, rfl, ul645_0, ge645_0⟩ := Kd.FK_slice_open hMe645
       have hv645_0 := hcc645 0 _ rfl
       rw [Nat.add_zero, show ((Kd.slice 4 Kd.bool)).sz = 1 from rfl, Nat.mul_one] at hv645_0
       replace hv645_0 := Option.some.inj (hv645_0.symm.trans hx645_0)
       injection hv645_0 with hva_ hvn_ hvc_
       rw [hva_] at ge645_0
       rw [hvc_] at ul645_0
       have HL645_0 := Aside0.mk (show Kd.V Kd.bool 4 _ w.heap.size _ _ (rd_L5 t642 x5_1) from Kd.V_mk ul645_0 ge645_0)
       clear hva_ hvn_ hvc_ ge645_0 ul645_0 hcc645 hce645
       have HR645_0 := Aside0.mk hi645_0
       have HC645_0 := Aside0.mk hl645_0
       clear hi645_0 hl645_0
       replace p645 := eq_true p645
       replace q645 := eq_true q645
       refine start_ (n := 9) (S := fun w' => w'.cell? ⟨gb641, 0, none⟩ = some (.slice A0_0 l0_0.length c0_0) ∧ w'.cell? ⟨gb641, 1, none⟩ = some (.int .i64 a0_1) ∧ w'.cell? ⟨gb641, 2, none⟩ = some (.slice A0_2 l0_2.length c0_2) ∧ w'.cell? ⟨gb641, 3, none⟩ = some (.int .i64 a0_3) ∧ w'.cell? ⟨gb641, 4, none⟩ = some (.slice A0_4 l0_4.length c0_4) ∧ w'.cell? (ad645.add (x5_1).toNat) = some (.slice A645_0 (rd_L5 t642 x5_1).length c645_0)) (ds := []) #[false, false, false, false, false, false, false, false, false] (by kernel_rfl) rfl rfl ⟨(blk_cell BK641.out 0).trans rfl, (blk_cell BK641.out 1).trans rfl, (blk_cell BK641.out 2).trans rfl, (blk_cell BK641.out 3).trans rfl, (blk_cell BK641.out 4).trans rfl, hx645_0⟩ (fun hHeld => ?_); refine with_tabW swarfref04_Truths.tab6 swarfref04_Truths.bits6 (fun HT_ HW_ => ?_)
       generalize wr.drew = w12 at HO_3 HO_4 BK641 HB HL645_0 HR645_0 hx645_0 hHeld ⊢
       refine pure_ (i := 1) (N := some 15) (v := ?_) (a' := ?_) (bz 9 2) rfl rfl (any_of HT_.out (by kernel_rfl)) (fun _ _ _ h => h) (Or.inl ⟨by rfl, ?_⟩) ?_ ?_
       rotate_left
       ·
        intro w'
        go_simp
        with_reducible rfl
       rotate_left
       ·
        simp only [Act.put, put_x, i64_w, i32_w]
        rfl
       refine pure_ (i := 2) (N := some 16) (v := ?_) (a' := ?_) (bz 9 6) rfl rfl (any_of HT_.out (by kernel_rfl)) (fun _ _ _ h => h) (Or.inl ⟨by rfl, ?_⟩) ?_ ?_
       rotate_left
       ·
        intro w'
        go_simp
        with_reducible rfl
       rotate_left
       ·
        simp only [Act.put, put_x, i64_w, i32_w]
        rfl
       refine pure_ (i := 3) (N := some 17) (v := ?_) (a' := ?_) (bz 9 14) rfl rfl (any_of HT_.out (by kernel_rfl)) (fun _ _ _ h => h) (Or.inl ⟨by rfl, ?_⟩) ?_ ?_
       rotate_left
       ·
        intro w'
        go_simp
        with_reducible rfl
       rotate_left
       ·
        simp only [Act.put, put_x, i64_w, i32_w]
        rfl
       refine pure_ (i := 6) (N := some 20) (v := ?_) (a' := ?_) (bz 9 78) rfl rfl (any_of HT_.out (by kernel_rfl)) (fun _ _ _ h => h) (Or.inl ⟨by rfl, ?_⟩) ?_ ?_
       rotate_left
       ·
        intro w'
        go_simp
        with_reducible rfl
       rotate_left
       ·
        simp only [Act.put, put_x, i64_w, i32_w]
        rfl
       refine take_ (i := 0) (N := some 14) (v := ?_) (a' := ?_) (bz 9 79) rfl rfl (take_ofW HT_.out HW_.out (by kernel_rfl)) (fun _ _ _ h => h) (Or.inl ⟨by rfl, ?_⟩) hHeld ?_ ?_
       rotate_left
       ·
        rintro w' ⟨s0, s1, s2, s3, s4, s5⟩
        go_simp
        with_reducible rfl
       rotate_left
       ·
        simp only [Act.put, put_x, i64_w, i32_w]
        rfl
       refine take_ (i := 4) (N := some 18) (v := ?_) (a' := ?_) (bz 9 95) rfl rfl (take_ofW HT_.out HW_.out (by kernel_rfl)) (fun _ _ _ h => h) (Or.inl ⟨by rfl, ?_⟩) hHeld ?_ ?_
       rotate_left
       ·
        rintro w' ⟨s0, s1, s2, s3, s4, s5⟩
        go_simp
        with_reducible rfl
       rotate_left
       ·
        simp only [Act.put, put_x, i64_w, i32_w]
        rfl
       refine take_ (i := 7) (N := some 21) (v := ?_) (a' := ?_) (bz 9 223) rfl rfl (take_ofW HT_.out HW_.out (by kernel_rfl)) (fun _ _ _ h => h) (Or.inl ⟨by rfl, ?_⟩) hHeld ?_ ?_
       rotate_left
       ·
        rintro w' ⟨s0, s1, s2, s3, s4, s5⟩
        go_simp
        with_reducible rfl
       rotate_left
       ·
        simp only [Act.put, put_x, i64_w, i32_w]
        rfl
       refine one_ (i := 5) (N := some 19) (bz 9 255) rfl rfl (one_of HT_.out (by kernel_rfl)) (by decide) (fun K hK => ?_)
       refine goes_ Try.func28 (by kernel_rfl) rfl #[.agg #[.slice A0_0 l0_0.length c0_0, .int .i64 a0_1, .slice A0_2 l0_2.length c0_2, .int .i64 a0_3, .slice A0_4 l0_4.length c0_4], .slice A645_0 (rd_L5 t642 x5_1).length c645_0] (by rfl) rfl rfl (by (try simp only [List.map_toArray, List.map_cons, List.map_nil]); first | done | rfl | (simp only [List.length_drop, List.length_take]; rfl)) ?_
       with_reducible refine (swarfref04_Wrongs.calls k1 _ _ l0_0 a0_1 _ _ l0_2 a0_3 _ _ l0_4 _ _ (rd_L5 t642 x5_1) t646 _ ?side1 ?side2 ?side3 ?side4 ?side5 ?side6 ?side7 ?side8 A8.out).mono ?_
       (case side1 => exact Kd.C_x HR0_0.out HB.out)
       (case side2 => exact HC0_0.out)
       (case side3 => exact Kd.C_x HR0_2.out HB.out)
       (case side4 => exact HC0_2.out)
       (case side5 => exact Kd.C_x HR0_4.out HB.out)
       (case side6 => exact HC0_4.out)
       (case side7 => repeat (first | exact (by repeat (first | (with_reducible exact HR645_0.out) | (with_reducible refine Kd.C_alloc ?_ _) | (with_reducible refine Kd.C_drewN ?_ _) | (with_reducible refine Kd.C_drew ?_) | exact HR645_0.out)) | (with_reducible refine Kd.C_alloc ?_ _) | (with_reducible refine Kd.C_drewN ?_ _) | (with_reducible refine Kd.C_drew ?_)))
       (case side8 => exact HC645_0.out)
       rintro e w13 ⟨rfl, hb⟩
       have HS5_ := (hb.cell (World.block_lt_of_cell? _ _ (hHeld.2.2.2.2.2))).trans (hHeld.2.2.2.2.2)
       refine ⟨_, rfl, ?_⟩
       replace HO_3 := Aside0.mk (Kd.N_below (Kd.N_x HO_3.out) hb)
       replace HO_4 := Aside0.mk (Kd.N_below (Kd.N_x HO_4.out) hb)
       replace HL645_0 := Aside0.mk (Kd.V_below (Kd.V_x HL645_0.out) hb)
       replace BK641 := Aside0.mk (blk_below (blk_x BK641.out) hb)
       replace HR645_0 := Aside0.mk (Kd.C_below (by repeat (first | (with_reducible exact HR645_0.out) | (with_reducible refine Kd.C_alloc ?_ _) | (with_reducible refine Kd.C_drewN ?_ _) | (with_reducible refine Kd.C_drew ?_) | exact HR645_0.out)) hb)
       replace HB := bl_x HB hb
       (try clear hb)
       (try clear hb2)
       (try clear hk)
       (try clear hi)
       refine hK.out _ _ ⟨(blk_cell BK641.out 0).trans rfl, (blk_cell BK641.out 1).trans rfl, (blk_cell BK641.out 2).trans rfl, (blk_cell BK641.out 3).trans rfl, (blk_cell BK641.out 4).trans rfl, HS5_⟩ (fun hHeld => ?_)
       clear hK K
       refine norm_ (a' := ?_) ?_ ?_
       rotate_left
       ·
        show Act.put _ (some 19) _ = _
        simp only [Act.put, put_x, i64_w, i32_w]
        rfl
       refine pure_ (i := 8) (N := some 22) (v := ?_) (a' := ?_) (bz 9 511) rfl rfl (any_of HT_.out (by kernel_rfl)) (fun _ _ _ h => h) (Or.inl ⟨by rfl, ?_⟩) ?_ ?_
       rotate_left
       ·
        intro w'
        go_simp
        with_reducible rfl
       rotate_left
       ·
        simp only [Act.put, put_x, i64_w, i32_w]
        rfl
       refine done_ (done_of HT_.out (by kernel_rfl)) ?_
       have p647 : 0 ≤ (x5_1 : Int) := of_x
       have q647 : x5_1 < (t642.length : Int) := of_x
       obtain ⟨ad647, A647_0, c647_0, e647, hx647_0, hl647_0, hi647_0⟩ := at_L5 (Kd.N_reads' HO_4.out).2.2 x5_1 p647 q647
       obtain rfl : ad645 = ad647 := (by injection e647)
       try (obtain ⟨rfl, rfl⟩ : A647_0 = A645_0 ∧ c647_0 = c645_0 := by have h_ := Option.some.inj (hx647_0.symm.trans (show _ = some (Value.slice A645_0 _ c645_0) by assumption)); injection h_ with h1_ _ h3_; exact ⟨h1_, h3_⟩)
       obtain ⟨ce647, hce647, hMe647, hcc647⟩ := Kd.N_get HO_4.out [] x5_1 p647 (by first | exact q647 | exact of_x | (have e_ := (Kd.N_reads' HO_4.out).1; omega))
       obtain ⟨ua647_0, uc647_0, rfl, ul647_0, ge647_0⟩ := Kd.FK_slice_open hMe647
       have hv647_0 := hcc647 0 _ rfl
       rw [Nat.add_zero, show ((Kd.slice 4 Kd.bool)).sz = 1 from rfl, Nat.mul_one] at hv647_0
       replace hv647_0 := Option.some.inj (hv647_0.symm.trans hx647_0)
       injection hv647_0 with hva_ hvn_ hvc_
       rw [hva_] at ge647_0
       rw [hvc_] at ul647_0
       have HL647_0 := Aside0.mk (show Kd.V Kd.bool 4 _ w.heap.size _ _ (rd_L5 t642 x5_1) from Kd.V_mk ul647_0 ge647_0)
       clear hva_ hvn_ hvc_ ge647_0 ul647_0 hcc647 hce647
       have HR647_0 := Aside0.mk hi647_0
       have HC647_0 := Aside0.mk hl647_0
       clear hi647_0 hl647_0
       replace p647 := eq_true p647
       replace q647 := eq_true q647
       try go_wp2_with (first | ((with_reducible refine gate_builtin (b := .append) (xs := #[.tmp 23, .tmp 28]) rfl ?_); at_builtin; refine Kd.N_append (Kd.slice 4 Kd.bool) (w0 := w) w.heap.size rfl (.tmp 23) (.tmp 28) 70 31 (.slice none 0 0) 24 rfl Try.underlying70 info31 rfl (by decide) (by omega) u3 x3_1 (rd_L5 t642 x5_1) [.slice A647_0 (rd_L5 t642 x5_1).length c647_0] (fun k_ => (w.heap.size ≤ k_) ∧ some k_ ≠ (.slice (some ad645) t642.length co11 : Value).ownBlock ∧ k_ ≠ gb641) (fun k_ => ((fun k_ => (w.heap.size ≤ k_) ∧ some k_ ≠ (.slice (some ad645) t642.length co11 : Value).ownBlock ∧ k_ ≠ gb641)) k_ ∧ some k_ ≠ (u3 : Value).ownBlock) rfl rfl ?aP (fun _ hk => hk) ?aF ?aO ?aB ?aS ?aL ?_; (case aP => exact (Kd.FK_slice_mk (Kd.V_reads' (Kd.V_mono (ok' := (fun k_ => ((fun k_ => (w.heap.size ≤ k_) ∧ some k_ ≠ (.slice (some ad645) t642.length co11 : Value).ownBlock ∧ k_ ≠ gb641)) k_ ∧ some k_ ≠ (u3 : Value).ownBlock)) (HL647_0.out) (fun k_ hk => ⟨⟨hk.1.1, ⟨hk.2, hk.1.2.2⟩⟩, hk.1.2.1⟩))).2.1 (Kd.V_F (Kd.V_mono (ok' := (fun k_ => ((fun k_ => (w.heap.size ≤ k_) ∧ some k_ ≠ (.slice (some ad645) t642.length co11 : Value).ownBlock ∧ k_ ≠ gb641)) k_ ∧ some k_ ≠ (u3 : Value).ownBlock)) (HL647_0.out) (fun k_ hk => ⟨⟨hk.1.1, ⟨hk.2, hk.1.2.2⟩⟩, hk.1.2.1⟩))))); (case aB => exact (by exact below_y HB.out)); (case aF => exact (fun k_ hk => ⟨(Nat.le_trans (below_size (by exact below_y HB.out)) hk), Kd.fresh' (Kd.N_lt (Kd.N_x HO_4.out)) k_ hk, Kd.freshB (g := gb641) (o := .cells #[.slice A0_0 l0_0.length c0_0, .int .i64 a0_1, .slice A0_2 l0_2.length c0_2, .int .i64 a0_3, .slice A0_4 l0_4.length c0_4] 26 (0, 0)) (blk_x BK641.out) k_ hk⟩)); (case aO => exact (Kd.N_x HO_3.out)); (case aS => exact (below_size (by exact below_y HB.out))); (case aL => have := LMc10.out; omega); intro v649 w14 ho hb hg hat; rw [← Ny648.out] at ho; replace HO_4 := Aside0.mk (Kd.N_afterv (ok := (fun k_ => (w.heap.size ≤ k_) ∧ k_ ≠ gb641)) (by (with_reducible repeat (first | apply Kd.N_alloc | apply Kd.N_drewN | apply Kd.N_drew)); exact Kd.N_mono HO_4.out (fun _ hk => ⟨⟨hk.1, hk.2.2⟩, hk.2.1⟩)) hg hat); replace BK641 := Aside0.mk (blk_grown (blk_x BK641.out) hg (Kd.N_ne HO_3.out BK641.out (by decide))); replace HL645_0 := Aside0.mk (Kd.V_afterv (ok := (fun k_ => (w.heap.size ≤ k_) ∧ some k_ ≠ (.slice (some ad645) t642.length co11 : Value).ownBlock ∧ k_ ≠ gb641)) (by (with_reducible repeat (first | apply Kd.V_alloc | apply Kd.V_drewN | apply Kd.V_drew)); exact Kd.V_mono HL645_0.out (fun _ hk => ⟨⟨hk.1.1, ⟨hk.2, hk.1.2.2⟩⟩, hk.1.2.1⟩)) hg hat); replace HL647_0 := Aside0.mk (Kd.V_afterv (ok := (fun k_ => (w.heap.size ≤ k_) ∧ some k_ ≠ (.slice (some ad645) t642.length co11 : Value).ownBlock ∧ k_ ≠ gb641)) (by (with_reducible repeat (first | apply Kd.V_alloc | apply Kd.V_drewN | apply Kd.V_drew)); exact Kd.V_mono HL647_0.out (fun _ hk => ⟨⟨hk.1.1, ⟨hk.2, hk.1.2.2⟩⟩, hk.1.2.1⟩)) hg hat); replace HB := Aside0.mk (hb); have HO650 := Aside0.mk (ho); clear HO_3; clear ho hb hg hat))
       go_roundg k1
       case measure => have := HK1.out; omega
       case rel => exact ⟨(y648), (wrap64 (x5_1 + 1)), (by first | rfl | (simp; done) | (simp [*]; done)), H', ⟨by have := HK1.out; omega⟩, ⟨by (with_reducible repeat (first | apply Kd.N_alloc | apply Kd.N_drewN | apply Kd.N_drew)); exact HO650.out⟩, ⟨by (with_reducible repeat (first | apply Kd.N_alloc | apply Kd.N_drewN | apply Kd.N_drew)); exact Kd.N_mono HO_4.out (fun _ hk => ⟨hk.1.1, ⟨hk.2, hk.1.2⟩⟩)⟩, ⟨blk_x BK641.out⟩, ⟨by exact below_y HB.out⟩⟩
      ·
       rw [if_neg c10] at H
       exact absurd H (by simp)
     ·
      rw [if_neg c9] at H
      have c9b0 : decide (t646 ≤ a0_3) = false := decide_eq_false c9
      clear c9
      have H' := Aside0.mk H
      clear H
      obtain ⟨Ao15, co15, eo15⟩ := Kd.N_slice HO_4.out
      subst eo15
      try go_wp2
      replace HO_3 := Aside0.mk (Kd.N_drew HO_3.out)
      replace HO_4 := Aside0.mk (Kd.N_drew HO_4.out)
      replace BK641 := Aside0.mk (blk_drew BK641.out)
      replace HB := Aside0.mk (below_drew1 HB.out)
      have p645 : 0 ≤ (x5_1 : Int) := of_x
      have q645 : x5_1 < (t642.length : Int) := of_x
      obtain ⟨ad645, A645_0, c645_0, e645, hx645_0, hl645_0, hi645_0⟩ := at_L5 (Kd.N_reads' HO_4.out).2.2 x5_1 p645 q645
      cases e645
      obtain ⟨ce645, hce645, hMe645, hcc645⟩ := Kd.N_get HO_4.out [] x5_1 p645 (by first | exact q645 | exact of_x | (have e_ := (Kd.N_reads' HO_4.out).1; omega))
      obtain ⟨ua645_0, uc645_0, rfl, ul645_0, ge645_0⟩ := Kd.FK_slice_open hMe645
      have hv645_0 := hcc645 0 _ rfl
      rw [Nat.add_zero, show ((Kd.slice 4 Kd.bool)).sz = 1 from rfl, Nat.mul_one] at hv645_0
      replace hv645_0 := Option.some.inj (hv645_0.symm.trans hx645_0)
      injection hv645_0 with hva_ hvn_ hvc_
      rw [hva_] at ge645_0
      rw [hvc_] at ul645_0
      have HL645_0 := Aside0.mk (show Kd.V Kd.bool 4 _ w.heap.size _ _ (rd_L5 t642 x5_1) from Kd.V_mk ul645_0 ge645_0)
      clear hva_ hvn_ hvc_ ge645_0 ul645_0 hcc645 hce645
      have HR645_0 := Aside0.mk hi645_0
      have HC645_0 := Aside0.mk hl645_0
      clear hi645_0 hl645_0
      replace p645 := eq_true p645
      replace q645 := eq_true q645
      refine start_ (n := 9) (S := fun w' => w'.cell? ⟨gb641, 0, none⟩ = some (.slice A0_0 l0_0.length c0_0) ∧ w'.cell? ⟨gb641, 1, none⟩ = some (.int .i64 a0_1) ∧ w'.cell? ⟨gb641, 2, none⟩ = some (.slice A0_2 l0_2.length c0_2) ∧ w'.cell? ⟨gb641, 3, none⟩ = some (.int .i64 a0_3) ∧ w'.cell? ⟨gb641, 4, none⟩ = some (.slice A0_4 l0_4.length c0_4) ∧ w'.cell? (ad645.add (x5_1).toNat) = some (.slice A645_0 (rd_L5 t642 x5_1).length c645_0)) (ds := []) #[false, false, false, false, false, false, false, false, false] (by kernel_rfl) rfl rfl ⟨(blk_cell BK641.out 0).trans rfl, (blk_cell BK641.out 1).trans rfl, (blk_cell BK641.out 2).trans rfl, (blk_cell BK641.out 3).trans rfl, (blk_cell BK641.out 4).trans rfl, hx645_0⟩ (fun hHeld => ?_); refine with_tabW swarfref04_Truths.tab6 swarfref04_Truths.bits6 (fun HT_ HW_ => ?_)
      generalize wr.drew = w16 at HO_3 HO_4 BK641 HB HL645_0 HR645_0 hx645_0 hHeld ⊢
      refine pure_ (i := 1) (N := some 15) (v := ?_) (a' := ?_) (bz 9 2) rfl rfl (any_of HT_.out (by kernel_rfl)) (fun _ _ _ h => h) (Or.inl ⟨by rfl, ?_⟩) ?_ ?_
      rotate_left
      ·
       intro w'
       go_simp
       with_reducible rfl
      rotate_left
      ·
       simp only [Act.put, put_x, i64_w, i32_w]
       rfl
      refine pure_ (i := 2) (N := some 16) (v := ?_) (a' := ?_) (bz 9 6) rfl rfl (any_of HT_.out (by kernel_rfl)) (fun _ _ _ h => h) (Or.inl ⟨by rfl, ?_⟩) ?_ ?_
      rotate_left
      ·
       intro w'
       go_simp
       with_reducible rfl
      rotate_left
      ·
       simp only [Act.put, put_x, i64_w, i32_w]
       rfl
      refine pure_ (i := 3) (N := some 17) (v := ?_) (a' := ?_) (bz 9 14) rfl rfl (any_of HT_.out (by kernel_rfl)) (fun _ _ _ h => h) (Or.inl ⟨by rfl, ?_⟩) ?_ ?_
      rotate_left
      ·
       intro w'
       go_simp
       with_reducible rfl
      rotate_left
      ·
       simp only [Act.put, put_x, i64_w, i32_w]
       rfl
      refine pure_ (i := 6) (N := some 20) (v := ?_) (a' := ?_) (bz 9 78) rfl rfl (any_of HT_.out (by kernel_rfl)) (fun _ _ _ h => h) (Or.inl ⟨by rfl, ?_⟩) ?_ ?_
      rotate_left
      ·
       intro w'
       go_simp
       with_reducible rfl
      rotate_left
      ·
       simp only [Act.put, put_x, i64_w, i32_w]
       rfl
      refine take_ (i := 0) (N := some 14) (v := ?_) (a' := ?_) (bz 9 79) rfl rfl (take_ofW HT_.out HW_.out (by kernel_rfl)) (fun _ _ _ h => h) (Or.inl ⟨by rfl, ?_⟩) hHeld ?_ ?_
      rotate_left
      ·
       rintro w' ⟨s0, s1, s2, s3, s4, s5⟩
       go_simp
       with_reducible rfl
      rotate_left
      ·
       simp only [Act.put, put_x, i64_w, i32_w]
       rfl
      refine take_ (i := 4) (N := some 18) (v := ?_) (a' := ?_) (bz 9 95) rfl rfl (take_ofW HT_.out HW_.out (by kernel_rfl)) (fun _ _ _ h => h) (Or.inl ⟨by rfl, ?_⟩) hHeld ?_ ?_
      rotate_left
      ·
       rintro w' ⟨s0, s1, s2, s3, s4, s5⟩
       go_simp
       with_reducible rfl
      rotate_left
      ·
       simp only [Act.put, put_x, i64_w, i32_w]
       rfl
      refine take_ (i := 7) (N := some 21) (v := ?_) (a' := ?_) (bz 9 223) rfl rfl (take_ofW HT_.out HW_.out (by kernel_rfl)) (fun _ _ _ h => h) (Or.inl ⟨by rfl, ?_⟩) hHeld ?_ ?_
      rotate_left
      ·
       rintro w' ⟨s0, s1, s2, s3, s4, s5⟩
       go_simp
       with_reducible rfl
      rotate_left
      ·
       simp only [Act.put, put_x, i64_w, i32_w]
       rfl
      refine one_ (i := 5) (N := some 19) (bz 9 255) rfl rfl (one_of HT_.out (by kernel_rfl)) (by decide) (fun K hK => ?_)
      refine goes_ Try.func28 (by kernel_rfl) rfl #[.agg #[.slice A0_0 l0_0.length c0_0, .int .i64 a0_1, .slice A0_2 l0_2.length c0_2, .int .i64 a0_3, .slice A0_4 l0_4.length c0_4], .slice A645_0 (rd_L5 t642 x5_1).length c645_0] (by rfl) rfl rfl (by (try simp only [List.map_toArray, List.map_cons, List.map_nil]); first | done | rfl | (simp only [List.length_drop, List.length_take]; rfl)) ?_
      with_reducible refine (swarfref04_Wrongs.calls k1 _ _ l0_0 a0_1 _ _ l0_2 a0_3 _ _ l0_4 _ _ (rd_L5 t642 x5_1) t646 _ ?side1 ?side2 ?side3 ?side4 ?side5 ?side6 ?side7 ?side8 A8.out).mono ?_
      (case side1 => exact Kd.C_x HR0_0.out HB.out)
      (case side2 => exact HC0_0.out)
      (case side3 => exact Kd.C_x HR0_2.out HB.out)
      (case side4 => exact HC0_2.out)
      (case side5 => exact Kd.C_x HR0_4.out HB.out)
      (case side6 => exact HC0_4.out)
      (case side7 => repeat (first | exact (by repeat (first | (with_reducible exact HR645_0.out) | (with_reducible refine Kd.C_alloc ?_ _) | (with_reducible refine Kd.C_drewN ?_ _) | (with_reducible refine Kd.C_drew ?_) | exact HR645_0.out)) | (with_reducible refine Kd.C_alloc ?_ _) | (with_reducible refine Kd.C_drewN ?_ _) | (with_reducible refine Kd.C_drew ?_)))
      (case side8 => exact HC645_0.out)
      rintro e w17 ⟨rfl, hb⟩
      have HS5_ := (hb.cell (World.block_lt_of_cell? _ _ (hHeld.2.2.2.2.2))).trans (hHeld.2.2.2.2.2)
      refine ⟨_, rfl, ?_⟩
      replace HO_3 := Aside0.mk (Kd.N_below (Kd.N_x HO_3.out) hb)
      replace HO_4 := Aside0.mk (Kd.N_below (Kd.N_x HO_4.out) hb)
      replace HL645_0 := Aside0.mk (Kd.V_below (Kd.V_x HL645_0.out) hb)
      replace BK641 := Aside0.mk (blk_below (blk_x BK641.out) hb)
      replace HR645_0 := Aside0.mk (Kd.C_below (by repeat (first | (with_reducible exact HR645_0.out) | (with_reducible refine Kd.C_alloc ?_ _) | (with_reducible refine Kd.C_drewN ?_ _) | (with_reducible refine Kd.C_drew ?_) | exact HR645_0.out)) hb)
      replace HB := bl_x HB hb
      (try clear hb)
      (try clear hb2)
      (try clear hk)
      (try clear hi)
      refine hK.out _ _ ⟨(blk_cell BK641.out 0).trans rfl, (blk_cell BK641.out 1).trans rfl, (blk_cell BK641.out 2).trans rfl, (blk_cell BK641.out 3).trans rfl, (blk_cell BK641.out 4).trans rfl, HS5_⟩ (fun hHeld => ?_)
      clear hK K
      refine norm_ (a' := ?_) ?_ ?_
      rotate_left
      ·
       show Act.put _ (some 19) _ = _
       simp only [Act.put, put_x, i64_w, i32_w]
       rfl
      refine pure_ (i := 8) (N := some 22) (v := ?_) (a' := ?_) (bz 9 511) rfl rfl (any_of HT_.out (by kernel_rfl)) (fun _ _ _ h => h) (Or.inl ⟨by rfl, ?_⟩) ?_ ?_
      rotate_left
      ·
       intro w'
       go_simp
       with_reducible rfl
      rotate_left
      ·
       simp only [Act.put, put_x, i64_w, i32_w]
       rfl
      refine done_ (done_of HT_.out (by kernel_rfl)) ?_
      try go_wp2
      go_roundg k1
      case measure => have := HK1.out; omega
      case rel => exact ⟨(x3_1), (wrap64 (x5_1 + 1)), (by first | rfl | (simp; done) | (simp [*]; done)), H', ⟨by have := HK1.out; omega⟩, ⟨by (with_reducible repeat (first | apply Kd.N_alloc | apply Kd.N_drewN | apply Kd.N_drew)); exact HO_3.out⟩, ⟨by (with_reducible repeat (first | apply Kd.N_alloc | apply Kd.N_drewN | apply Kd.N_drew)); exact HO_4.out⟩, ⟨blk_x BK641.out⟩, ⟨by exact below_y HB.out⟩⟩
    ·
     rw [if_neg c7] at H
     exact absurd H (by simp)
   ·
    rw [if_neg c6] at H
    have c6b0 : decide (x5_1 < (t642.length : Int)) = false := decide_eq_false c6
    clear c6
    obtain rfl := Option.some.inj H
    obtain ⟨Ao18, co18, eo18⟩ := Kd.N_slice HO_4.out
    subst eo18
    go_wp2
    go_ret
    exact ⟨_, by first | rfl | (simp [errW_none, errW_some] <;> rfl) | (simp [*, errW_none, errW_some] <;> rfl), by (with_reducible repeat (first | apply Kd.N_alloc | apply Kd.N_drewN | apply Kd.N_drew)); exact Kd.N_mono HO_3.out (fun _ hk => hk.1), by exact below_y HB.out⟩
def swarfref04_known.f (k : Nat) (l0_0 : List (S50)) (a0_1 : Int) (l0_2 : List (S61)) (a0_3 : Int) (l0_4 : List Int) : Option ((List (List Bool)) × Int) := (swarfref04_Check.f k l0_0 a0_1 l0_2 a0_3 l0_4).bind fun t787 => (if t787 = 0 then ((swarfref04_Truths.f k l0_0 a0_1 l0_2 a0_3 l0_4).bind fun t788 => (if (t788.length : Int) = 0 then (some (([] : List (List Bool)), 9)) else (some (t788, 0)))) else (some (([] : List (List Bool)), t787)))
set_option maxHeartbeats 8000000 in
set_option maxRecDepth 100000 in
theorem swarfref04_known.calls (k : Nat) (A0_0 : Option Addr) (c0_0 : Nat) (l0_0 : List (S50)) (a0_1 : Int) (A0_2 : Option Addr) (c0_2 : Nat) (l0_2 : List (S61)) (a0_3 : Int) (A0_4 : Option Addr) (c0_4 : Nat) (l0_4 : List Int) (r1 : List (List Bool)) (r2 : Int) (w : World) (hr0_0 : Kd.C k50 w A0_0 l0_0.length l0_0) (hc0_0 : l0_0.length ≤ c0_0) (hr0_2 : Kd.C k61 w A0_2 l0_2.length l0_2) (hc0_2 : l0_2.length ≤ c0_2) (hr0_4 : Kd.C (Kd.int .i64) w A0_4 l0_4.length l0_4) (hc0_4 : l0_4.length ≤ c0_4) (h : swarfref04_known.f k l0_0 a0_1 l0_2 a0_3 l0_4 = some (r1, r2)) :
  Calls Try.prog 68 #[.agg #[.slice A0_0 l0_0.length c0_0, .int .i64 a0_1, .slice A0_2 l0_2.length c0_2, .int .i64 a0_3, .slice A0_4 l0_4.length c0_4]] w fun e w' => ∃ v0_ : Value, e = .returned (.tuple #[v0_, .int .i64 r2]) ∧ Kd.N (Kd.slice 4 Kd.bool) 31 w' w.heap.size (fun k_ => (w.heap.size ≤ k_)) v0_ r1 ∧ Below w.heap.size w w' := by
 have hu26 := Try.underlying26
 have HR0_0 := Aside0.mk hr0_0
 have HC0_0 := Aside0.mk hc0_0
 clear hr0_0 hc0_0
 have HR0_2 := Aside0.mk hr0_2
 have HC0_2 := Aside0.mk hc0_2
 clear hr0_2 hc0_2
 have HR0_4 := Aside0.mk hr0_4
 have HC0_4 := Aside0.mk hc0_4
 clear hr0_4 hc0_4
 have HB := Aside0.mk (Below.refl w.heap.size w)
 have H : ((swarfref04_Check.f k l0_0 a0_1 l0_2 a0_3 l0_4).bind fun t787 => (if t787 = 0 then ((swarfref04_Truths.f k l0_0 a0_1 l0_2 a0_3 l0_4).bind fun t788 => (if (t788.length : Int) = 0 then (some (([] : List (List Bool)), 9)) else (some (t788, 0)))) else (some (([] : List (List Bool)), t787)))) = some (r1, r2) := h
 clear h
 replace H := Option.bind_eq_some_iff.mp H
 obtain ⟨t787, A20, H⟩ := H
 try dsimp only at H
 have A2 := Aside0.mk A20
 clear A20
 by_cases c3 : t787 = 0
 ·
  rw [if_pos c3] at H
  have c3b0 : (t787 == 0) = true := beq_iff_eq.mpr c3
  have c3b1 : (t787 != 0) = false := bne_eq_false_iff_eq.mpr c3
  clear c3
  replace H := Option.bind_eq_some_iff.mp H
  obtain ⟨t788, A40, H⟩ := H
  try dsimp only at H
  have A4 := Aside0.mk A40
  clear A40
  by_cases c5 : (t788.length : Int) = 0
  ·
   rw [if_pos c5] at H
   have c5b0 : ((t788.length : Int) == 0) = true := beq_iff_eq.mpr c5
   have c5b1 : ((t788.length : Int) != 0) = false := bne_eq_false_iff_eq.mpr c5
   clear c5
   simp only [Option.some.injEq, Prod.mk.injEq] at H
   obtain ⟨rfl, rfl⟩ := H
   go_enter Try.func68, Try.ntmps68
   go_wp2_with (first | ((with_reducible refine gate_dst (N := 1) rfl ?_); refine box_event ?hg (N := 1) ?hd (cs := #[.slice A0_0 l0_0.length c0_0, .int .i64 a0_1, .slice A0_2 l0_2.length c0_2, .int .i64 a0_3, .slice A0_4 l0_4.length c0_4]) (t := 26) ?hr ?_; (case hd => rfl); (case hg => rfl); (case hr => first | (go_simp; done) | (go_simp; rfl)); intro gb786 hg w6 hbox hb; have BK786 := Aside0.mk (hbox); have GW786 := Aside0.mk ((by rw [hg]; exact (below_size (below_x HB.out)) : w.heap.size ≤ gb786)); have GE786 := Aside0.mk ((by rw [hg]; exact (below_size (below_x HB.out)) : w.heap.size ≤ gb786)); replace HB := Aside0.mk (below_step (below_x HB.out) hb); clear hb hbox hg; obtain ⟨_, _, _, _, _⟩ := cz5 BK786; have hfz7_0 := blk_frozen BK786.out) | ((with_reducible refine gate_callee (f := 15) rfl ?_); refine goesL_ (some 7) rfl rfl Try.func15 (by kernel_rfl) rfl #[.agg #[.slice A0_0 l0_0.length c0_0, .int .i64 a0_1, .slice A0_2 l0_2.length c0_2, .int .i64 a0_3, .slice A0_4 l0_4.length c0_4]] rfl (by (try simp only [List.map_toArray, List.map_cons, List.map_nil]); first | done | rfl | (simp only [List.length_drop, List.length_take]; rfl)) ?_; (with_reducible refine (swarfref04_Check.calls k _ _ l0_0 a0_1 _ _ l0_2 a0_3 _ _ l0_4 t787 _ ?side1 ?side2 ?side3 ?side4 ?side5 ?side6 A2.out).mono ?_); (case side1 => exact Kd.C_x HR0_0.out HB.out); (case side2 => exact HC0_0.out); (case side3 => exact Kd.C_x HR0_2.out HB.out); (case side4 => exact HC0_2.out); (case side5 => exact Kd.C_x HR0_4.out HB.out); (case side6 => exact HC0_4.out); rintro e w8 ⟨rfl, hb⟩; refine ⟨_, rfl, ?_⟩; replace BK786 := Aside0.mk (blk_below (blk_x BK786.out) hb); replace HB := bl_x HB hb; (try clear hb); (try clear hk); (try clear hi); obtain ⟨_, _, _, _, _⟩ := cz5 BK786; have hfz9_0 := blk_frozen BK786.out) | ((with_reducible refine gate_callee (f := 48) rfl ?_); refine goesL_ (some 12) rfl rfl Try.func48 (by kernel_rfl) rfl #[.agg #[.slice A0_0 l0_0.length c0_0, .int .i64 a0_1, .slice A0_2 l0_2.length c0_2, .int .i64 a0_3, .slice A0_4 l0_4.length c0_4]] rfl (by (try simp only [List.map_toArray, List.map_cons, List.map_nil]); first | done | rfl | (simp only [List.length_drop, List.length_take]; rfl)) ?_; (with_reducible refine (swarfref04_Truths.calls k _ _ l0_0 a0_1 _ _ l0_2 a0_3 _ _ l0_4 t788 _ ?side1 ?side2 ?side3 ?side4 ?side5 ?side6 A4.out).mono ?_); (case side1 => exact Kd.C_x HR0_0.out HB.out); (case side2 => exact HC0_0.out); (case side3 => exact Kd.C_x HR0_2.out HB.out); (case side4 => exact HC0_2.out); (case side5 => exact Kd.C_x HR0_4.out HB.out); (case side6 => exact HC0_4.out); rintro e w10 ⟨v789, rfl, ho0, hb⟩; refine ⟨_, rfl, ?_⟩; have HO790 := Aside0.mk (Kd.N_lower (Kd.N_mono (ok' := fun k_ => (w.heap.size ≤ k_) ∧ k_ ≠ gb786) ho0 (fun k_ hk_ => ⟨(Nat.le_trans (below_size (by exact below_y HB.out)) hk_), (Kd.freshB (g := gb786) (o := .cells #[.slice A0_0 l0_0.length c0_0, .int .i64 a0_1, .slice A0_2 l0_2.length c0_2, .int .i64 a0_3, .slice A0_4 l0_4.length c0_4] 26 (0, 0)) (blk_x BK786.out) k_ hk_)⟩)) (below_size (by exact below_y HB.out))); replace BK786 := Aside0.mk (blk_below (blk_x BK786.out) hb); replace HB := bl_x HB hb; (try clear hb); (try clear hk); (try clear hi); (try clear ho0); obtain ⟨Ao11, co11, eo11⟩ := Kd.N_slice HO790.out; subst eo11))
   go_ret2
   exact ⟨_, by first | rfl | (simp [errW_none, errW_some] <;> rfl) | (simp [*, errW_none, errW_some] <;> rfl), by first | exact Kd.S_nil _ _ _ _ _ | exact Kd.N_nil _ _ _ _ _ | exact Kd.V_nil _ _ _ _ _ | exact Kd.Q_nil _ _ _ _ _ | exact Kd.R_nil _ _ _ _ _, by exact below_y HB.out⟩
  ·
   rw [if_neg c5] at H
   have c5b0 : ((t788.length : Int) == 0) = false := beq_eq_false_iff_ne.mpr c5
   have c5b1 : ((t788.length : Int) != 0) = true := bne_iff_ne.mpr c5
   have c5b2 : ¬ (t788 = []) := fun h_ => c5 (by rw [h_]; rfl)
   simp only [Option.some.injEq, Prod.mk.injEq] at H
   obtain ⟨rfl, rfl⟩ := H
   go_enter Try.func68, Try.ntmps68
   go_wp2_with (first | ((with_reducible refine gate_dst (N := 1) rfl ?_); refine box_event ?hg (N := 1) ?hd (cs := #[.slice A0_0 l0_0.length c0_0, .int .i64 a0_1, .slice A0_2 l0_2.length c0_2, .int .i64 a0_3, .slice A0_4 l0_4.length c0_4]) (t := 26) ?hr ?_; (case hd => rfl); (case hg => rfl); (case hr => first | (go_simp; done) | (go_simp; rfl)); intro gb786 hg w12 hbox hb; have BK786 := Aside0.mk (hbox); have GW786 := Aside0.mk ((by rw [hg]; exact (below_size (below_x HB.out)) : w.heap.size ≤ gb786)); have GE786 := Aside0.mk ((by rw [hg]; exact (below_size (below_x HB.out)) : w.heap.size ≤ gb786)); replace HB := Aside0.mk (below_step (below_x HB.out) hb); clear hb hbox hg; obtain ⟨_, _, _, _, _⟩ := cz5 BK786; have hfz13_0 := blk_frozen BK786.out) | ((with_reducible refine gate_callee (f := 15) rfl ?_); refine goesL_ (some 7) rfl rfl Try.func15 (by kernel_rfl) rfl #[.agg #[.slice A0_0 l0_0.length c0_0, .int .i64 a0_1, .slice A0_2 l0_2.length c0_2, .int .i64 a0_3, .slice A0_4 l0_4.length c0_4]] rfl (by (try simp only [List.map_toArray, List.map_cons, List.map_nil]); first | done | rfl | (simp only [List.length_drop, List.length_take]; rfl)) ?_; (with_reducible refine (swarfref04_Check.calls k _ _ l0_0 a0_1 _ _ l0_2 a0_3 _ _ l0_4 t787 _ ?side1 ?side2 ?side3 ?side4 ?side5 ?side6 A2.out).mono ?_); (case side1 => exact Kd.C_x HR0_0.out HB.out); (case side2 => exact HC0_0.out); (case side3 => exact Kd.C_x HR0_2.out HB.out); (case side4 => exact HC0_2.out); (case side5 => exact Kd.C_x HR0_4.out HB.out); (case side6 => exact HC0_4.out); rintro e w14 ⟨rfl, hb⟩; refine ⟨_, rfl, ?_⟩; replace BK786 := Aside0.mk (blk_below (blk_x BK786.out) hb); replace HB := bl_x HB hb; (try clear hb); (try clear hk); (try clear hi); obtain ⟨_, _, _, _, _⟩ := cz5 BK786; have hfz15_0 := blk_frozen BK786.out) | ((with_reducible refine gate_callee (f := 48) rfl ?_); refine goesL_ (some 12) rfl rfl Try.func48 (by kernel_rfl) rfl #[.agg #[.slice A0_0 l0_0.length c0_0, .int .i64 a0_1, .slice A0_2 l0_2.length c0_2, .int .i64 a0_3, .slice A0_4 l0_4.length c0_4]] rfl (by (try simp only [List.map_toArray, List.map_cons, List.map_nil]); first | done | rfl | (simp only [List.length_drop, List.length_take]; rfl)) ?_; (with_reducible refine (swarfref04_Truths.calls k _ _ l0_0 a0_1 _ _ l0_2 a0_3 _ _ l0_4 t788 _ ?side1 ?side2 ?side3 ?side4 ?side5 ?side6 A4.out).mono ?_); (case side1 => exact Kd.C_x HR0_0.out HB.out); (case side2 => exact HC0_0.out); (case side3 => exact Kd.C_x HR0_2.out HB.out); (case side4 => exact HC0_2.out); (case side5 => exact Kd.C_x HR0_4.out HB.out); (case side6 => exact HC0_4.out); rintro e w16 ⟨v789, rfl, ho0, hb⟩; refine ⟨_, rfl, ?_⟩; have HO790 := Aside0.mk (Kd.N_lower (Kd.N_mono (ok' := fun k_ => (w.heap.size ≤ k_) ∧ k_ ≠ gb786) ho0 (fun k_ hk_ => ⟨(Nat.le_trans (below_size (by exact below_y HB.out)) hk_), (Kd.freshB (g := gb786) (o := .cells #[.slice A0_0 l0_0.length c0_0, .int .i64 a0_1, .slice A0_2 l0_2.length c0_2, .int .i64 a0_3, .slice A0_4 l0_4.length c0_4] 26 (0, 0)) (blk_x BK786.out) k_ hk_)⟩)) (below_size (by exact below_y HB.out))); replace BK786 := Aside0.mk (blk_below (blk_x BK786.out) hb); replace HB := bl_x HB hb; (try clear hb); (try clear hk); (try clear hi); (try clear ho0); obtain ⟨Ao17, co17, eo17⟩ := Kd.N_slice HO790.out; subst eo17))
   go_ret2
   exact ⟨_, by first | rfl | (simp [errW_none, errW_some] <;> rfl) | (simp [*, errW_none, errW_some] <;> rfl), by (with_reducible repeat (first | apply Kd.N_alloc | apply Kd.N_drewN | apply Kd.N_drew)); exact Kd.N_mono HO790.out (fun _ hk => hk.1), by exact below_y HB.out⟩
 ·
  rw [if_neg c3] at H
  have c3b0 : (t787 == 0) = false := beq_eq_false_iff_ne.mpr c3
  have c3b1 : (t787 != 0) = true := bne_iff_ne.mpr c3
  simp only [Option.some.injEq, Prod.mk.injEq] at H
  obtain ⟨rfl, rfl⟩ := H
  go_enter Try.func68, Try.ntmps68
  go_wp2_with (first | ((with_reducible refine gate_dst (N := 1) rfl ?_); refine box_event ?hg (N := 1) ?hd (cs := #[.slice A0_0 l0_0.length c0_0, .int .i64 a0_1, .slice A0_2 l0_2.length c0_2, .int .i64 a0_3, .slice A0_4 l0_4.length c0_4]) (t := 26) ?hr ?_; (case hd => rfl); (case hg => rfl); (case hr => first | (go_simp; done) | (go_simp; rfl)); intro gb786 hg w18 hbox hb; have BK786 := Aside0.mk (hbox); have GW786 := Aside0.mk ((by rw [hg]; exact (below_size (below_x HB.out)) : w.heap.size ≤ gb786)); have GE786 := Aside0.mk ((by rw [hg]; exact (below_size (below_x HB.out)) : w.heap.size ≤ gb786)); replace HB := Aside0.mk (below_step (below_x HB.out) hb); clear hb hbox hg; obtain ⟨_, _, _, _, _⟩ := cz5 BK786; have hfz19_0 := blk_frozen BK786.out) | ((with_reducible refine gate_callee (f := 15) rfl ?_); refine goesL_ (some 7) rfl rfl Try.func15 (by kernel_rfl) rfl #[.agg #[.slice A0_0 l0_0.length c0_0, .int .i64 a0_1, .slice A0_2 l0_2.length c0_2, .int .i64 a0_3, .slice A0_4 l0_4.length c0_4]] rfl (by (try simp only [List.map_toArray, List.map_cons, List.map_nil]); first | done | rfl | (simp only [List.length_drop, List.length_take]; rfl)) ?_; (with_reducible refine (swarfref04_Check.calls k _ _ l0_0 a0_1 _ _ l0_2 a0_3 _ _ l0_4 t787 _ ?side1 ?side2 ?side3 ?side4 ?side5 ?side6 A2.out).mono ?_); (case side1 => exact Kd.C_x HR0_0.out HB.out); (case side2 => exact HC0_0.out); (case side3 => exact Kd.C_x HR0_2.out HB.out); (case side4 => exact HC0_2.out); (case side5 => exact Kd.C_x HR0_4.out HB.out); (case side6 => exact HC0_4.out); rintro e w20 ⟨rfl, hb⟩; refine ⟨_, rfl, ?_⟩; replace BK786 := Aside0.mk (blk_below (blk_x BK786.out) hb); replace HB := bl_x HB hb; (try clear hb); (try clear hk); (try clear hi)))
  go_ret2
  exact ⟨_, by first | rfl | (simp [errW_none, errW_some] <;> rfl) | (simp [*, errW_none, errW_some] <;> rfl), by first | exact Kd.S_nil _ _ _ _ _ | exact Kd.N_nil _ _ _ _ _ | exact Kd.V_nil _ _ _ _ _ | exact Kd.Q_nil _ _ _ _ _ | exact Kd.R_nil _ _ _ _ _, by exact below_y HB.out⟩
def swarfref04_verdict.f (a0 : Int) (a1 : Int) : Option (Int) := if a0 = a1 then (some 1) else (if a0 = 0 then (some 2) else (some 3))
set_option maxHeartbeats 8000000 in
set_option maxRecDepth 100000 in
theorem swarfref04_verdict.calls (a0 : Int) (a1 : Int) (r : Int) (w : World) (h : swarfref04_verdict.f a0 a1 = some r) :
  Calls Try.prog 69 #[.int .i64 a0, .int .i64 a1] w fun e w' => e = .returned (.int .i64 r) ∧ Drawn0 w w' := by
 have H : (if a0 = a1 then (some 1) else (if a0 = 0 then (some 2) else (some 3))) = some r := h
 clear h
 by_cases c3 : a0 = a1
 ·
  rw [if_pos c3] at H
  have c3b0 : (a0 == a1) = true := beq_iff_eq.mpr c3
  have c3b1 : (a0 != a1) = false := bne_eq_false_iff_eq.mpr c3
  clear c3
  obtain rfl := Option.some.inj H
  go_enter Try.func69, Try.ntmps69
  go_wp2
  go_ret
  exact ⟨by first | rfl | (simp; done) | (simp [*]; done), by repeat (first | exact Drawn0.refl _ | apply Drawn0.step)⟩
 ·
  rw [if_neg c3] at H
  have c3b0 : (a0 == a1) = false := beq_eq_false_iff_ne.mpr c3
  have c3b1 : (a0 != a1) = true := bne_iff_ne.mpr c3
  by_cases c4 : a0 = 0
  ·
   rw [if_pos c4] at H
   have c4b0 : (a0 == 0) = true := beq_iff_eq.mpr c4
   have c4b1 : (a0 != 0) = false := bne_eq_false_iff_eq.mpr c4
   clear c4
   obtain rfl := Option.some.inj H
   go_enter Try.func69, Try.ntmps69
   go_wp2
   go_ret
   exact ⟨by first | rfl | (simp; done) | (simp [*]; done), by repeat (first | exact Drawn0.refl _ | apply Drawn0.step)⟩
  ·
   rw [if_neg c4] at H
   have c4b0 : (a0 == 0) = false := beq_eq_false_iff_ne.mpr c4
   have c4b1 : (a0 != 0) = true := bne_iff_ne.mpr c4
   obtain rfl := Option.some.inj H
   go_enter Try.func69, Try.ntmps69
   go_wp2
   go_ret
   exact ⟨by first | rfl | (simp; done) | (simp [*]; done), by repeat (first | exact Drawn0.refl _ | apply Drawn0.step)⟩
mutual
def swarfref04_Out.l0 : Nat → List (List Bool) → List Int → Int → List (S50) → Int → List (S61) → Int → List Int → Option (List Int × Int)
 | 0, _, _, _, _, _, _, _, _ => none
 | k + 1, x4, x6, x7, x792000, x792001, x792002, x792003, x792004 => if x7 < (x792000.length : Int) then (swarfref04_Out.l1 k x4 x6 x7 0 0 x792000 x792001 x792002 x792003 x792004) else (some (x6, 0))
def swarfref04_Out.l1 : Nat → List (List Bool) → List Int → Int → Int → Int → List (S50) → Int → List (S61) → Int → List Int → Option (List Int × Int)
 | 0, _, _, _, _, _, _, _, _, _, _ => none
 | k + 1, x4, x6, x7, x8, x9, x792000, x792001, x792002, x792003, x792004 => if x9 < (x4.length : Int) then (if 0 ≤ x9 then (if 0 ≤ x7 then (if x7 < ((rd_L5 x4 x9).length : Int) then (if rdOf false (rd_L5 x4 x9) x7 = true then (swarfref04_Out.l1 k x4 x6 x7 (wrap64 (x8 + 1)) (wrap64 (x9 + 1)) x792000 x792001 x792002 x792003 x792004) else (swarfref04_Out.l1 k x4 x6 x7 x8 (wrap64 (x9 + 1)) x792000 x792001 x792002 x792003 x792004)) else (none)) else (none)) else (none)) else ((swarfref04_verdict.f x8 (x4.length : Int)).bind fun t798 => (if x6.length < 17592186044416 then (swarfref04_Out.l0 k x4 (x6 ++ [t798]) (wrap64 (x7 + 1)) x792000 x792001 x792002 x792003 x792004) else (none)))
end
def swarfref04_Out.f (k : Nat) (l0_0 : List (S50)) (a0_1 : Int) (l0_2 : List (S61)) (a0_3 : Int) (l0_4 : List Int) : Option (List Int × Int) := (swarfref04_known.f k l0_0 a0_1 l0_2 a0_3 l0_4).bind fun bt792 => (if bt792.2 = 0 then (swarfref04_Out.l0 k bt792.1 ([] : List Int) 0 l0_0 a0_1 l0_2 a0_3 l0_4) else (some (([] : List Int), bt792.2)))
set_option maxHeartbeats 8000000 in
set_option maxRecDepth 100000 in
theorem swarfref04_Out.calls (k : Nat) (A0_0 : Option Addr) (c0_0 : Nat) (l0_0 : List (S50)) (a0_1 : Int) (A0_2 : Option Addr) (c0_2 : Nat) (l0_2 : List (S61)) (a0_3 : Int) (A0_4 : Option Addr) (c0_4 : Nat) (l0_4 : List Int) (r1 : List Int) (r2 : Int) (w : World) (hr0_0 : Kd.C k50 w A0_0 l0_0.length l0_0) (hc0_0 : l0_0.length ≤ c0_0) (hr0_2 : Kd.C k61 w A0_2 l0_2.length l0_2) (hc0_2 : l0_2.length ≤ c0_2) (hr0_4 : Kd.C (Kd.int .i64) w A0_4 l0_4.length l0_4) (hc0_4 : l0_4.length ≤ c0_4) (h : swarfref04_Out.f k l0_0 a0_1 l0_2 a0_3 l0_4 = some (r1, r2)) :
  Calls Try.prog 36 #[.agg #[.slice A0_0 l0_0.length c0_0, .int .i64 a0_1, .slice A0_2 l0_2.length c0_2, .int .i64 a0_3, .slice A0_4 l0_4.length c0_4]] w fun e w' => ∃ v0_ : Value, e = .returned (.tuple #[v0_, .int .i64 r2]) ∧ Kd.R (Kd.int .i64) 3 w' w.heap.size (fun _ => True) v0_ r1 ∧ Below w.heap.size w w' := by
 have hu26 := Try.underlying26
 have HR0_0 := Aside0.mk hr0_0
 have HC0_0 := Aside0.mk hc0_0
 clear hr0_0 hc0_0
 have HR0_2 := Aside0.mk hr0_2
 have HC0_2 := Aside0.mk hc0_2
 clear hr0_2 hc0_2
 have HR0_4 := Aside0.mk hr0_4
 have HC0_4 := Aside0.mk hc0_4
 clear hr0_4 hc0_4
 have HB := Aside0.mk (Below.refl w.heap.size w)
 have H : ((swarfref04_known.f k l0_0 a0_1 l0_2 a0_3 l0_4).bind fun bt792 => (if bt792.2 = 0 then (swarfref04_Out.l0 k bt792.1 ([] : List Int) 0 l0_0 a0_1 l0_2 a0_3 l0_4) else (some (([] : List Int), bt792.2)))) = some (r1, r2) := h
 clear h
 replace H := Option.bind_eq_some_iff.mp H
 obtain ⟨⟨t792, t795⟩, A20, H⟩ := H
 try dsimp only at H
 have A2 := Aside0.mk A20
 clear A20
 by_cases c3 : t795 = 0
 ·
  rw [if_pos c3] at H
  have c3b0 : (t795 == 0) = true := beq_iff_eq.mpr c3
  have c3b1 : (t795 != 0) = false := bne_eq_false_iff_eq.mpr c3
  clear c3
  have H' := Aside0.mk H
  clear H
  go_enter Try.func36, Try.ntmps36
  go_wp2_with (first | ((with_reducible refine gate_dst (N := 1) rfl ?_); refine box_event ?hg (N := 1) ?hd (cs := #[.slice A0_0 l0_0.length c0_0, .int .i64 a0_1, .slice A0_2 l0_2.length c0_2, .int .i64 a0_3, .slice A0_4 l0_4.length c0_4]) (t := 26) ?hr ?_; (case hd => rfl); (case hg => rfl); (case hr => first | (go_simp; done) | (go_simp; rfl)); intro gb791 hg w4 hbox hb; have BK791 := Aside0.mk (hbox); have GW791 := Aside0.mk ((by rw [hg]; exact (below_size (below_x HB.out)) : w.heap.size ≤ gb791)); have GE791 := Aside0.mk ((by rw [hg]; exact (below_size (below_x HB.out)) : w.heap.size ≤ gb791)); replace HB := Aside0.mk (below_step (below_x HB.out) hb); clear hb hbox hg; obtain ⟨_, _, _, _, _⟩ := cz5 BK791; have hfz5_0 := blk_frozen BK791.out) | ((with_reducible refine gate_callee (f := 68) rfl ?_); refine goesL_ (some 12) rfl rfl Try.func68 (by kernel_rfl) rfl #[.agg #[.slice A0_0 l0_0.length c0_0, .int .i64 a0_1, .slice A0_2 l0_2.length c0_2, .int .i64 a0_3, .slice A0_4 l0_4.length c0_4]] rfl (by (try simp only [List.map_toArray, List.map_cons, List.map_nil]); first | done | rfl | (simp only [List.length_drop, List.length_take]; rfl)) ?_; (with_reducible refine (swarfref04_known.calls k _ _ l0_0 a0_1 _ _ l0_2 a0_3 _ _ l0_4 t792 t795 _ ?side1 ?side2 ?side3 ?side4 ?side5 ?side6 A2.out).mono ?_); (case side1 => exact Kd.C_x HR0_0.out HB.out); (case side2 => exact HC0_0.out); (case side3 => exact Kd.C_x HR0_2.out HB.out); (case side4 => exact HC0_2.out); (case side5 => exact Kd.C_x HR0_4.out HB.out); (case side6 => exact HC0_4.out); rintro e w6 ⟨v793, rfl, ho0, hb⟩; refine ⟨_, rfl, ?_⟩; have HO794 := Aside0.mk (Kd.N_lower (Kd.N_mono (ok' := fun k_ => k_ ≠ gb791) ho0 (fun k_ hk_ => (Kd.freshB (g := gb791) (o := .cells #[.slice A0_0 l0_0.length c0_0, .int .i64 a0_1, .slice A0_2 l0_2.length c0_2, .int .i64 a0_3, .slice A0_4 l0_4.length c0_4] 26 (0, 0)) (blk_x BK791.out) k_ hk_))) (below_size (by exact below_y HB.out))); replace BK791 := Aside0.mk (blk_below (blk_x BK791.out) hb); replace HB := bl_x HB hb; (try clear hb); (try clear hk); (try clear hi); (try clear ho0)))
  go_loopg [6, 7] k (fun kq v6 v7 w' => ∃ (x6_1 : List Int) (x7_1 : Int), v7 = .int .i64 x7_1 ∧ Aside0 (swarfref04_Out.l0 kq t792 x6_1 x7_1 l0_0 a0_1 l0_2 a0_3 l0_4 = some (r1, r2)) ∧ Aside0 (kq ≤ k) ∧ Aside0 (Kd.N (Kd.slice 4 Kd.bool) 31 w' w.heap.size (fun k_ => some k_ ≠ (v6 : Value).ownBlock ∧ k_ ≠ gb791) v793 t792) ∧ Aside0 (Kd.R (Kd.int .i64) 3 w' w.heap.size (fun _ => True) v6 x6_1) ∧ Aside0 (w'.heap[gb791]? = some (.cells #[(.slice A0_0 l0_0.length c0_0), .int .i64 a0_1, (.slice A0_2 l0_2.length c0_2), .int .i64 a0_3, (.slice A0_4 l0_4.length c0_4)] 26 (0, 0))) ∧ Aside0 (Below w.heap.size w w'))
  case atStart => exact ⟨(([] : List Int)), (0), (by first | rfl | (simp; done) | (simp [*]; done)), H', ⟨Nat.le_refl _⟩, ⟨by (with_reducible repeat (first | apply Kd.N_alloc | apply Kd.N_drewN | apply Kd.N_drew)); exact Kd.N_mono HO794.out (fun _ hk => ⟨(by simp [Value.ownBlock]), hk⟩)⟩, ⟨by first | exact Kd.R_nil _ _ _ _ _ | exact Kd.N_nil _ _ _ _ _ | exact Kd.V_nil _ _ _ _ _ | exact Kd.Q_nil _ _ _ _ _ | exact Kd.S_nil _ _ _ _ _⟩, ⟨blk_x BK791.out⟩, ⟨by exact below_y HB.out⟩⟩
  case round =>
   clear H'
   obtain ⟨x6_1, x7_1, rfl, HA, HK1, HO_4, HO_6, BK791, HB⟩ := hrel
   cases gk with
   | zero => exact absurd HA.out (by simp [swarfref04_Out.l0])
   | succ k1 =>
    have H := HA.out
    clear HA
    simp only [swarfref04_Out.l0] at H
    by_cases c7 : x7_1 < (l0_0.length : Int)
    ·
     rw [if_pos c7] at H
     have c7b0 : decide (x7_1 < (l0_0.length : Int)) = true := decide_eq_true c7
     clear c7
     have H' := Aside0.mk H
     clear H
     obtain ⟨_, _, _, _, _⟩ := cz5 BK791
     have hfz8_0 := blk_frozen BK791.out
     go_wp2
     go_loopg [8, 9] k1 (fun kq v8 v9 w' => ∃ (x8_2 : Int) (x9_2 : Int), v8 = .int .i64 x8_2 ∧ v9 = .int .i64 x9_2 ∧ Aside0 (swarfref04_Out.l1 kq t792 x6_1 x7_1 x8_2 x9_2 l0_0 a0_1 l0_2 a0_3 l0_4 = some (r1, r2)) ∧ Aside0 (kq ≤ k1) ∧ Aside0 (Kd.N (Kd.slice 4 Kd.bool) 31 w' w.heap.size (fun k_ => some k_ ≠ (u6 : Value).ownBlock ∧ k_ ≠ gb791) v793 t792) ∧ Aside0 (Kd.R (Kd.int .i64) 3 w' w.heap.size (fun _ => True) u6 x6_1) ∧ Aside0 (w'.heap[gb791]? = some (.cells #[(.slice A0_0 l0_0.length c0_0), .int .i64 a0_1, (.slice A0_2 l0_2.length c0_2), .int .i64 a0_3, (.slice A0_4 l0_4.length c0_4)] 26 (0, 0))) ∧ Aside0 (Below w.heap.size w w'))
     case atStart => exact ⟨(0), (0), (by first | rfl | (simp; done) | (simp [*]; done)), (by first | rfl | (simp; done) | (simp [*]; done)), H', ⟨Nat.le_refl _⟩, ⟨by (with_reducible repeat (first | apply Kd.N_alloc | apply Kd.N_drewN | apply Kd.N_drew)); exact HO_4.out⟩, ⟨by (with_reducible repeat (first | apply Kd.R_alloc | apply Kd.R_drewN | apply Kd.R_drew)); exact HO_6.out⟩, ⟨blk_x BK791.out⟩, ⟨by exact below_y HB.out⟩⟩
     case round =>
      clear H'
      obtain ⟨x8_2, x9_2, rfl, rfl, HA, HK2, HO_4, HO_6, BK791, HB⟩ := hrel
      cases gk with
      | zero => exact absurd HA.out (by simp [swarfref04_Out.l1])
      | succ k2 =>
       have H := HA.out
       clear HA
       simp only [swarfref04_Out.l1] at H
       by_cases c9 : x9_2 < (t792.length : Int)
       ·
        rw [if_pos c9] at H
        have c9b0 : decide (x9_2 < (t792.length : Int)) = true := decide_eq_true c9
        clear c9
        by_cases c10 : 0 ≤ x9_2
        ·
         rw [if_pos c10] at H
         have c10b0 : decide (0 ≤ x9_2) = true := decide_eq_true c10
         clear c10
         by_cases c11 : 0 ≤ x7_1
         ·
          rw [if_pos c11] at H
          have c11b0 : decide (0 ≤ x7_1) = true := decide_eq_true c11
          clear c11
          by_cases c12 : x7_1 < ((rd_L5 t792 x9_2).length : Int)
          ·
           rw [if_pos c12] at H
           have c12b0 : decide (x7_1 < ((rd_L5 t792 x9_2).length : Int)) = true := decide_eq_true c12
           clear c12
           obtain ⟨bq13, hbq13⟩ : ∃ b_ : Bool, b_ = (rdOf false (rd_L5 t792 x9_2) x7_1) := ⟨_, rfl⟩
           replace H : (if bq13 = true then (swarfref04_Out.l1 k2 t792 x6_1 x7_1 (wrap64 (x8_2 + 1)) (wrap64 (x9_2 + 1)) l0_0 a0_1 l0_2 a0_3 l0_4) else (swarfref04_Out.l1 k2 t792 x6_1 x7_1 x8_2 (wrap64 (x9_2 + 1)) l0_0 a0_1 l0_2 a0_3 l0_4)) = some (r1, r2) := by rw [← hbq13] at H; exact H
           have Nbq13 := Aside0.mk hbq13
           clear hbq13
           by_cases c14 : bq13 = true
           ·
            subst c14
            have H1 : (swarfref04_Out.l1 k2 t792 x6_1 x7_1 (wrap64 (x8_2 + 1)) (wrap64 (x9_2 + 1)) l0_0 a0_1 l0_2 a0_3 l0_4) = some (r1, r2) := by rw [if_pos rfl] at H; exact H
            clear H
            have H := H1
            clear H1
            have H' := Aside0.mk H
            clear H
            obtain ⟨Ao15, co15, eo15⟩ := Kd.N_slice HO_4.out
            subst eo15
            have p796 : 0 ≤ (x9_2 : Int) := of_x
            have q796 : x9_2 < (t792.length : Int) := of_x
            obtain ⟨ad796, A796_0, c796_0, e796, hx796_0, hl796_0, hi796_0⟩ := at_L5 (Kd.N_reads' HO_4.out).2.2 x9_2 p796 q796
            cases e796
            obtain ⟨ce796, hce796, hMe796, hcc796⟩ := Kd.N_get HO_4.out [] x9_2 p796 (by first | exact q796 | exact of_x | (have e_ := (Kd.N_reads' HO_4.out).1; omega))
            obtain ⟨ua796_0, uc796_0, rfl, ul796_0, ge796_0⟩ := Kd.FK_slice_open hMe796
            have hv796_0 := hcc796 0 _ rfl
            rw [Nat.add_zero, show ((Kd.slice 4 Kd.bool)).sz = 1 from rfl, Nat.mul_one] at hv796_0
            replace hv796_0 := Option.some.inj (hv796_0.symm.trans hx796_0)
            injection hv796_0 with hva_ hvn_ hvc_
            rw [hva_] at ge796_0
            rw [hvc_] at ul796_0
            have HL796_0 := Aside0.mk (show Kd.V Kd.bool 4 _ w.heap.size _ _ (rd_L5 t792 x9_2) from Kd.V_mk ul796_0 ge796_0)
            clear hva_ hvn_ hvc_ ge796_0 ul796_0 hcc796 hce796
            have HR796_0 := Aside0.mk hi796_0
            have HC796_0 := Aside0.mk hl796_0
            clear hi796_0 hl796_0
            replace p796 := eq_true p796
            replace q796 := eq_true q796
            have p797 : 0 ≤ (x7_1 : Int) := of_x
            have q797 : x7_1 < ((rd_L5 t792 x9_2).length : Int) := of_x
            obtain ⟨ad797, e797, hx797_0⟩ := Kd.at_bool (by repeat (first | (with_reducible exact HR796_0.out) | (with_reducible refine Kd.C_alloc ?_ _) | (with_reducible refine Kd.C_drewN ?_ _) | (with_reducible refine Kd.C_drew ?_) | exact HR796_0.out)) x7_1 p797 q797
            (try rw [← Nbq13.out] at hx797_0)
            cases e797
            replace p797 := eq_true p797
            replace q797 := eq_true q797
            go_wp2
            go_roundg k2
            case measure => have := HK1.out; have := HK2.out; omega
            case rel => exact ⟨(wrap64 (x8_2 + 1)), (wrap64 (x9_2 + 1)), (by first | rfl | (simp; done) | (simp [*]; done)), (by first | rfl | (simp; done) | (simp [*]; done)), H', ⟨by have := HK1.out; have := HK2.out; omega⟩, ⟨by (with_reducible repeat (first | apply Kd.N_alloc | apply Kd.N_drewN | apply Kd.N_drew)); exact HO_4.out⟩, ⟨by (with_reducible repeat (first | apply Kd.R_alloc | apply Kd.R_drewN | apply Kd.R_drew)); exact HO_6.out⟩, ⟨blk_x BK791.out⟩, ⟨by exact below_y HB.out⟩⟩
           ·
            replace c14 := Bool.eq_false_iff.mpr c14
            subst c14
            have H1 : (swarfref04_Out.l1 k2 t792 x6_1 x7_1 x8_2 (wrap64 (x9_2 + 1)) l0_0 a0_1 l0_2 a0_3 l0_4) = some (r1, r2) := by rw [if_neg (show ¬ (false = true) by decide)] at H; exact H
            clear H
            have H := H1
            clear H1
            have H' := Aside0.mk H
            clear H
            obtain ⟨Ao16, co16, eo16⟩ := Kd.N_slice HO_4.out
            subst eo16
            have p796 : 0 ≤ (x9_2 : Int) := of_x
            have q796 : x9_2 < (t792.length : Int) := of_x
            obtain ⟨ad796, A796_0, c796_0, e796, hx796_0, hl796_0, hi796_0⟩ := at_L5 (Kd.N_reads' HO_4.out).2.2 x9_2 p796 q796
            cases e796
            obtain ⟨ce796, hce796, hMe796, hcc796⟩ := Kd.N_get HO_4.out [] x9_2 p796 (by first | exact q796 | exact of_x | (have e_ := (Kd.N_reads' HO_4.out).1; omega))
            obtain ⟨ua796_0, uc796_0, rfl, ul796_0, ge796_0⟩ := Kd.FK_slice_open hMe796
            have hv796_0 := hcc796 0 _ rfl
            rw [Nat.add_zero, show ((Kd.slice 4 Kd.bool)).sz = 1 from rfl, Nat.mul_one] at hv796_0
            replace hv796_0 := Option.some.inj (hv796_0.symm.trans hx796_0)
            injection hv796_0 with hva_ hvn_ hvc_
            rw [hva_] at ge796_0
            rw [hvc_] at ul796_0
            have HL796_0 := Aside0.mk (show Kd.V Kd.bool 4 _ w.heap.size _ _ (rd_L5 t792 x9_2) from Kd.V_mk ul796_0 ge796_0)
            clear hva_ hvn_ hvc_ ge796_0 ul796_0 hcc796 hce796
            have HR796_0 := Aside0.mk hi796_0
            have HC796_0 := Aside0.mk hl796_0
            clear hi796_0 hl796_0
            replace p796 := eq_true p796
            replace q796 := eq_true q796
            have p797 : 0 ≤ (x7_1 : Int) := of_x
            have q797 : x7_1 < ((rd_L5 t792 x9_2).length : Int) := of_x
            obtain ⟨ad797, e797, hx797_0⟩ := Kd.at_bool (by repeat (first | (with_reducible exact HR796_0.out) | (with_reducible refine Kd.C_alloc ?_ _) | (with_reducible refine Kd.C_drewN ?_ _) | (with_reducible refine Kd.C_drew ?_) | exact HR796_0.out)) x7_1 p797 q797
            (try rw [← Nbq13.out] at hx797_0)
            cases e797
            replace p797 := eq_true p797
            replace q797 := eq_true q797
            go_wp2
            go_roundg k2
            case measure => have := HK1.out; have := HK2.out; omega
            case rel => exact ⟨(x8_2), (wrap64 (x9_2 + 1)), (by first | rfl | (simp; done) | (simp [*]; done)), (by first | rfl | (simp; done) | (simp [*]; done)), H', ⟨by have := HK1.out; have := HK2.out; omega⟩, ⟨by (with_reducible repeat (first | apply Kd.N_alloc | apply Kd.N_drewN | apply Kd.N_drew)); exact HO_4.out⟩, ⟨by (with_reducible repeat (first | apply Kd.R_alloc | apply Kd.R_drewN | apply Kd.R_drew)); exact HO_6.out⟩, ⟨blk_x BK791.out⟩, ⟨by exact below_y HB.out⟩⟩
          ·
           rw [if_neg c12] at H
           exact absurd H (by simp)
         ·
          rw [if_neg c11] at H
          exact absurd H (by simp)
        ·
         rw [if_neg c10] at H
         exact absurd H (by simp)
       ·
        rw [if_neg c9] at H
        have c9b0 : decide (x9_2 < (t792.length : Int)) = false := decide_eq_false c9
        clear c9
        replace H := Option.bind_eq_some_iff.mp H
        obtain ⟨t798, A170, H⟩ := H
        try dsimp only at H
        have A17 := Aside0.mk A170
        clear A170
        by_cases c18 : x6_1.length < 17592186044416
        ·
         rw [if_pos c18] at H
         have LMc18 := Aside0.mk c18
         clear c18
         obtain ⟨y799, hy799⟩ : ∃ y_ : List Int, y_ = (x6_1 ++ [t798]) := ⟨_, rfl⟩
         replace H : (swarfref04_Out.l0 k2 t792 y799 (wrap64 (x7_1 + 1)) l0_0 a0_1 l0_2 a0_3 l0_4) = some (r1, r2) := by first | (rw [hy799]; with_reducible exact H) | (have H2_ := (Option.bind_some _ _).symm.trans H; rw [hy799]; with_reducible exact H2_) | (have H2_ := (Option.bind_some _ _).symm.trans H; with_reducible exact H2_) | with_reducible exact H | (rw [hy799]; exact H) | exact H
         have Ny799 := Aside0.mk hy799
         clear hy799
         have H' := Aside0.mk H
         clear H
         obtain ⟨Ao19, co19, eo19⟩ := Kd.N_slice HO_4.out
         subst eo19
         go_wp2_with (first | ((with_reducible refine gate_callee (f := 69) rfl ?_); refine goesL_ (some 44) rfl rfl Try.func69 (by kernel_rfl) rfl #[.int .i64 x8_2, .int .i64 (t792.length : Int)] rfl (by (try simp only [List.map_toArray, List.map_cons, List.map_nil]); first | done | rfl | (simp only [List.length_drop, List.length_take]; rfl)) ?_; (with_reducible refine (swarfref04_verdict.calls x8_2 (t792.length : Int) t798 _ A17.out).mono ?_); rintro e w' ⟨rfl, ⟨nd, rfl⟩⟩; refine ⟨_, rfl, ?_⟩) | ((with_reducible refine gate_builtin (b := .append) (xs := #[.tmp 40, .tmp 45]) rfl ?_); at_builtin; refine Kd.R_append (Kd.int .i64) (w0 := w) w.heap.size rfl (.tmp 40) (.tmp 45) 24 3 (.int .i64 0) 8 rfl Try.underlying24 info3 rfl (by decide) (by omega) u6 x6_1 t798 [.int .i64 t798] (fun _ => True) (fun _ => False) rfl rfl ?aP (fun _ hk => hk.elim) ?aF ?aO ?aB ?aS ?aL ?_; (case aP => exact rfl); (case aB => exact (by exact below_y HB.out)); (case aF => exact (fun _ _ => trivial)); (case aO => exact (Kd.R_x HO_6.out)); (case aS => exact (below_size (by exact below_y HB.out))); (case aL => have := LMc18.out; omega); intro v800 w20 ho hb hg hat; rw [← Ny799.out] at ho; replace HO_4 := Aside0.mk (Kd.N_afterv (ok := (fun k_ => k_ ≠ gb791)) (by (with_reducible repeat (first | apply Kd.N_alloc | apply Kd.N_drewN | apply Kd.N_drew)); exact Kd.N_mono HO_4.out (fun _ hk => ⟨hk.2, hk.1⟩)) hg hat); replace BK791 := Aside0.mk (blk_grown (blk_x BK791.out) hg (Kd.R_ne HO_6.out BK791.out (by decide))); replace HB := Aside0.mk (hb); have HO801 := Aside0.mk (ho); clear HO_6; clear ho hb hg hat))
         go_roundg k2
         case measure => have := HK1.out; have := HK2.out; omega
         case rel => exact ⟨(y799), (wrap64 (x7_1 + 1)), (by first | rfl | (simp; done) | (simp [*]; done)), H', ⟨by have := HK1.out; have := HK2.out; omega⟩, ⟨by (with_reducible repeat (first | apply Kd.N_alloc | apply Kd.N_drewN | apply Kd.N_drew)); exact Kd.N_mono HO_4.out (fun _ hk => ⟨hk.2, hk.1⟩)⟩, ⟨by (with_reducible repeat (first | apply Kd.R_alloc | apply Kd.R_drewN | apply Kd.R_drew)); exact HO801.out⟩, ⟨blk_x BK791.out⟩, ⟨by exact below_y HB.out⟩⟩
        ·
         rw [if_neg c18] at H
         exact absurd H (by simp)
    ·
     rw [if_neg c7] at H
     have c7b0 : decide (x7_1 < (l0_0.length : Int)) = false := decide_eq_false c7
     clear c7
     simp only [Option.some.injEq, Prod.mk.injEq] at H
     obtain ⟨rfl, rfl⟩ := H
     obtain ⟨_, _, _, _, _⟩ := cz5 BK791
     have hfz21_0 := blk_frozen BK791.out
     go_wp2
     go_ret2
     exact ⟨_, by first | rfl | (simp [errW_none, errW_some] <;> rfl) | (simp [*, errW_none, errW_some] <;> rfl), by (with_reducible repeat (first | apply Kd.R_alloc | apply Kd.R_drewN | apply Kd.R_drew)); exact HO_6.out, by exact below_y HB.out⟩
 ·
  rw [if_neg c3] at H
  have c3b0 : (t795 == 0) = false := beq_eq_false_iff_ne.mpr c3
  have c3b1 : (t795 != 0) = true := bne_iff_ne.mpr c3
  simp only [Option.some.injEq, Prod.mk.injEq] at H
  obtain ⟨rfl, rfl⟩ := H
  go_enter Try.func36, Try.ntmps36
  go_wp2_with (first | ((with_reducible refine gate_dst (N := 1) rfl ?_); refine box_event ?hg (N := 1) ?hd (cs := #[.slice A0_0 l0_0.length c0_0, .int .i64 a0_1, .slice A0_2 l0_2.length c0_2, .int .i64 a0_3, .slice A0_4 l0_4.length c0_4]) (t := 26) ?hr ?_; (case hd => rfl); (case hg => rfl); (case hr => first | (go_simp; done) | (go_simp; rfl)); intro gb791 hg w22 hbox hb; have BK791 := Aside0.mk (hbox); have GW791 := Aside0.mk ((by rw [hg]; exact (below_size (below_x HB.out)) : w.heap.size ≤ gb791)); have GE791 := Aside0.mk ((by rw [hg]; exact (below_size (below_x HB.out)) : w.heap.size ≤ gb791)); replace HB := Aside0.mk (below_step (below_x HB.out) hb); clear hb hbox hg; obtain ⟨_, _, _, _, _⟩ := cz5 BK791; have hfz23_0 := blk_frozen BK791.out) | ((with_reducible refine gate_callee (f := 68) rfl ?_); refine goesL_ (some 12) rfl rfl Try.func68 (by kernel_rfl) rfl #[.agg #[.slice A0_0 l0_0.length c0_0, .int .i64 a0_1, .slice A0_2 l0_2.length c0_2, .int .i64 a0_3, .slice A0_4 l0_4.length c0_4]] rfl (by (try simp only [List.map_toArray, List.map_cons, List.map_nil]); first | done | rfl | (simp only [List.length_drop, List.length_take]; rfl)) ?_; (with_reducible refine (swarfref04_known.calls k _ _ l0_0 a0_1 _ _ l0_2 a0_3 _ _ l0_4 t792 t795 _ ?side1 ?side2 ?side3 ?side4 ?side5 ?side6 A2.out).mono ?_); (case side1 => exact Kd.C_x HR0_0.out HB.out); (case side2 => exact HC0_0.out); (case side3 => exact Kd.C_x HR0_2.out HB.out); (case side4 => exact HC0_2.out); (case side5 => exact Kd.C_x HR0_4.out HB.out); (case side6 => exact HC0_4.out); rintro e w24 ⟨v793, rfl, ho0, hb⟩; refine ⟨_, rfl, ?_⟩; have HO794 := Aside0.mk (Kd.N_lower (Kd.N_mono (ok' := fun k_ => k_ ≠ gb791) ho0 (fun k_ hk_ => (Kd.freshB (g := gb791) (o := .cells #[.slice A0_0 l0_0.length c0_0, .int .i64 a0_1, .slice A0_2 l0_2.length c0_2, .int .i64 a0_3, .slice A0_4 l0_4.length c0_4] 26 (0, 0)) (blk_x BK791.out) k_ hk_))) (below_size (by exact below_y HB.out))); replace BK791 := Aside0.mk (blk_below (blk_x BK791.out) hb); replace HB := bl_x HB hb; (try clear hb); (try clear hk); (try clear hi); (try clear ho0)))
  go_ret2
  exact ⟨_, by first | rfl | (simp [errW_none, errW_some] <;> rfl) | (simp [*, errW_none, errW_some] <;> rfl), by first | exact Kd.R_nil _ _ _ _ _ | exact Kd.N_nil _ _ _ _ _ | exact Kd.V_nil _ _ _ _ _ | exact Kd.Q_nil _ _ _ _ _ | exact Kd.S_nil _ _ _ _ _, by exact below_y HB.out⟩
def swarfref04_IsClean.l0 : Nat → List Bool → Int → List (S50) → Int → List (S61) → Int → List Int → Option (Bool)
 | 0, _, _, _, _, _, _, _ => none
 | k + 1, x1, x5, x271000, x271001, x271002, x271003, x271004 => if x5 < (x1.length : Int) then (if 0 ≤ x5 then (if x5 < (x271000.length : Int) then (if (rd_T50 x271000 x5).f1 = true then (if rdOf false x1 x5 = true then (swarfref04_IsClean.l0 k x1 (wrap64 (x5 + 1)) x271000 x271001 x271002 x271003 x271004) else (some false)) else (swarfref04_IsClean.l0 k x1 (wrap64 (x5 + 1)) x271000 x271001 x271002 x271003 x271004)) else (none)) else (none)) else (some true)
def swarfref04_IsClean.f (k : Nat) (l0_0 : List (S50)) (a0_1 : Int) (l0_2 : List (S61)) (a0_3 : Int) (l0_4 : List Int) (l1 : List Bool) : Option (Bool) := swarfref04_IsClean.l0 k l1 0 l0_0 a0_1 l0_2 a0_3 l0_4
set_option maxHeartbeats 8000000 in
set_option maxRecDepth 100000 in
theorem swarfref04_IsClean.calls (k : Nat) (A0_0 : Option Addr) (c0_0 : Nat) (l0_0 : List (S50)) (a0_1 : Int) (A0_2 : Option Addr) (c0_2 : Nat) (l0_2 : List (S61)) (a0_3 : Int) (A0_4 : Option Addr) (c0_4 : Nat) (l0_4 : List Int) (A1 : Option Addr) (c1 : Nat) (l1 : List Bool) (r : Bool) (w : World) (hr0_0 : Kd.C k50 w A0_0 l0_0.length l0_0) (hc0_0 : l0_0.length ≤ c0_0) (hr0_2 : Kd.C k61 w A0_2 l0_2.length l0_2) (hc0_2 : l0_2.length ≤ c0_2) (hr0_4 : Kd.C (Kd.int .i64) w A0_4 l0_4.length l0_4) (hc0_4 : l0_4.length ≤ c0_4) (hr1 : Kd.C Kd.bool w A1 l1.length l1) (hc1 : l1.length ≤ c1) (h : swarfref04_IsClean.f k l0_0 a0_1 l0_2 a0_3 l0_4 l1 = some r) :
  Calls Try.prog 29 #[.agg #[.slice A0_0 l0_0.length c0_0, .int .i64 a0_1, .slice A0_2 l0_2.length c0_2, .int .i64 a0_3, .slice A0_4 l0_4.length c0_4], .slice A1 l1.length c1] w fun e w' => e = .returned (.bool r) ∧ Below w.heap.size w w' := by
 have hu26 := Try.underlying26
 have HR0_0 := Aside0.mk hr0_0
 have HC0_0 := Aside0.mk hc0_0
 clear hr0_0 hc0_0
 have HR0_2 := Aside0.mk hr0_2
 have HC0_2 := Aside0.mk hc0_2
 clear hr0_2 hc0_2
 have HR0_4 := Aside0.mk hr0_4
 have HC0_4 := Aside0.mk hc0_4
 clear hr0_4 hc0_4
 have HR1 := Aside0.mk hr1
 have HC1 := Aside0.mk hc1
 clear hr1 hc1
 have HB := Aside0.mk (Below.refl w.heap.size w)
 have H : (swarfref04_IsClean.l0 k l1 0 l0_0 a0_1 l0_2 a0_3 l0_4) = some r := h
 clear h
 have H' := Aside0.mk H
 clear H
 go_enter Try.func29, Try.ntmps29
 go_wp2_with (first | ((with_reducible refine gate_dst (N := 2) rfl ?_); refine box_event ?hg (N := 2) ?hd (cs := #[.slice A0_0 l0_0.length c0_0, .int .i64 a0_1, .slice A0_2 l0_2.length c0_2, .int .i64 a0_3, .slice A0_4 l0_4.length c0_4]) (t := 26) ?hr ?_; (case hd => rfl); (case hg => rfl); (case hr => first | (go_simp; done) | (go_simp; rfl)); intro gb270 hg w3 hbox hb; have BK270 := Aside0.mk (hbox); have GW270 := Aside0.mk ((by rw [hg]; exact (below_size (below_x HB.out)) : w.heap.size ≤ gb270)); have GE270 := Aside0.mk ((by rw [hg]; exact (below_size (below_x HB.out)) : w.heap.size ≤ gb270)); replace HB := Aside0.mk (below_step (below_x HB.out) hb); clear hb hbox hg))
 go_loopg [5] k (fun kq v5 w' => ∃ (x5_1 : Int), v5 = .int .i64 x5_1 ∧ Aside0 (swarfref04_IsClean.l0 kq l1 x5_1 l0_0 a0_1 l0_2 a0_3 l0_4 = some r) ∧ Aside0 (kq ≤ k) ∧ Aside0 (w'.heap[gb270]? = some (.cells #[(.slice A0_0 l0_0.length c0_0), .int .i64 a0_1, (.slice A0_2 l0_2.length c0_2), .int .i64 a0_3, (.slice A0_4 l0_4.length c0_4)] 26 (0, 0))) ∧ Aside0 (Below w.heap.size w w'))
 case atStart => exact ⟨(0), (by first | rfl | (simp; done) | (simp [*]; done)), H', ⟨Nat.le_refl _⟩, ⟨blk_x BK270.out⟩, ⟨by exact below_y HB.out⟩⟩
 case round =>
  clear H'
  obtain ⟨x5_1, rfl, HA, HK1, BK270, HB⟩ := hrel
  cases gk with
  | zero => exact absurd HA.out (by simp [swarfref04_IsClean.l0])
  | succ k1 =>
   have H := HA.out
   clear HA
   simp only [swarfref04_IsClean.l0] at H
   by_cases c4 : x5_1 < (l1.length : Int)
   ·
    rw [if_pos c4] at H
    have c4b0 : decide (x5_1 < (l1.length : Int)) = true := decide_eq_true c4
    clear c4
    by_cases c5 : 0 ≤ x5_1
    ·
     rw [if_pos c5] at H
     have c5b0 : decide (0 ≤ x5_1) = true := decide_eq_true c5
     clear c5
     by_cases c6 : x5_1 < (l0_0.length : Int)
     ·
      rw [if_pos c6] at H
      have c6b0 : decide (x5_1 < (l0_0.length : Int)) = true := decide_eq_true c6
      clear c6
      obtain ⟨bq7, hbq7⟩ : ∃ b_ : Bool, b_ = ((rd_T50 l0_0 x5_1).f1) := ⟨_, rfl⟩
      replace H : (if bq7 = true then (if rdOf false l1 x5_1 = true then (swarfref04_IsClean.l0 k1 l1 (wrap64 (x5_1 + 1)) l0_0 a0_1 l0_2 a0_3 l0_4) else (some false)) else (swarfref04_IsClean.l0 k1 l1 (wrap64 (x5_1 + 1)) l0_0 a0_1 l0_2 a0_3 l0_4)) = some r := by rw [← hbq7] at H; exact H
      have Nbq7 := Aside0.mk hbq7
      clear hbq7
      by_cases c8 : bq7 = true
      ·
       subst c8
       have H1 : (if rdOf false l1 x5_1 = true then (swarfref04_IsClean.l0 k1 l1 (wrap64 (x5_1 + 1)) l0_0 a0_1 l0_2 a0_3 l0_4) else (some false)) = some r := by rw [if_pos rfl] at H; exact H
       clear H
       have H := H1
       clear H1
       obtain ⟨bq9, hbq9⟩ : ∃ b_ : Bool, b_ = (rdOf false l1 x5_1) := ⟨_, rfl⟩
       replace H : (if bq9 = true then (swarfref04_IsClean.l0 k1 l1 (wrap64 (x5_1 + 1)) l0_0 a0_1 l0_2 a0_3 l0_4) else (some false)) = some r := by rw [← hbq9] at H; exact H
       have Nbq9 := Aside0.mk hbq9
       clear hbq9
       by_cases c10 : bq9 = true
       ·
        subst c10
        have H1 : (swarfref04_IsClean.l0 k1 l1 (wrap64 (x5_1 + 1)) l0_0 a0_1 l0_2 a0_3 l0_4) = some r := by rw [if_pos rfl] at H; exact H
        clear H
        have H := H1
        clear H1
        have H' := Aside0.mk H
        clear H
        obtain ⟨_, _, _, _, _⟩ := cz5 BK270
        have hfz11_0 := blk_frozen BK270.out
        have p271 : 0 ≤ (x5_1 : Int) := of_x
        have q271 : x5_1 < (l0_0.length : Int) := of_x
        obtain ⟨ad271, A271_0, c271_0, e271, hx271_0, hx271_1, hx271_2, hx271_3, hl271_0, hi271_0⟩ := at_T50 HR0_0.out x5_1 p271 q271
        (try rw [← Nbq7.out] at hx271_1)
        (try rw [← Nbq9.out] at hx271_1)
        cases e271
        replace hx271_0 := cell_x HB hx271_0
        replace hx271_1 := cell_x HB hx271_1
        replace hx271_2 := cell_x HB hx271_2
        replace hx271_3 := cell_x HB hx271_3
        have HR271_0 := Aside0.mk hi271_0
        have HC271_0 := Aside0.mk hl271_0
        clear hi271_0 hl271_0
        replace p271 := eq_true p271
        replace q271 := eq_true q271
        have p272 : 0 ≤ (x5_1 : Int) := of_x
        have q272 : x5_1 < (l1.length : Int) := of_x
        obtain ⟨ad272, e272, hx272_0⟩ := Kd.at_bool HR1.out x5_1 p272 q272
        (try rw [← Nbq7.out] at hx272_0)
        (try rw [← Nbq9.out] at hx272_0)
        cases e272
        replace hx272_0 := cell_x HB hx272_0
        replace p272 := eq_true p272
        replace q272 := eq_true q272
        go_wp2
        go_roundg k1
        case measure => have := HK1.out; omega
        case rel => exact ⟨(wrap64 (x5_1 + 1)), (by first | rfl | (simp; done) | (simp [*]; done)), H', ⟨by have := HK1.out; omega⟩, ⟨blk_x BK270.out⟩, ⟨by exact below_y HB.out⟩⟩
       ·
        replace c10 := Bool.eq_false_iff.mpr c10
        subst c10
        have H1 : (some false) = some r := by rw [if_neg (show ¬ (false = true) by decide)] at H; exact H
        clear H
        have H := H1
        clear H1
        obtain rfl := Option.some.inj H
        obtain ⟨_, _, _, _, _⟩ := cz5 BK270
        have hfz12_0 := blk_frozen BK270.out
        have p271 : 0 ≤ (x5_1 : Int) := of_x
        have q271 : x5_1 < (l0_0.length : Int) := of_x
        obtain ⟨ad271, A271_0, c271_0, e271, hx271_0, hx271_1, hx271_2, hx271_3, hl271_0, hi271_0⟩ := at_T50 HR0_0.out x5_1 p271 q271
        (try rw [← Nbq7.out] at hx271_1)
        (try rw [← Nbq9.out] at hx271_1)
        cases e271
        replace hx271_0 := cell_x HB hx271_0
        replace hx271_1 := cell_x HB hx271_1
        replace hx271_2 := cell_x HB hx271_2
        replace hx271_3 := cell_x HB hx271_3
        have HR271_0 := Aside0.mk hi271_0
        have HC271_0 := Aside0.mk hl271_0
        clear hi271_0 hl271_0
        replace p271 := eq_true p271
        replace q271 := eq_true q271
        have p272 : 0 ≤ (x5_1 : Int) := of_x
        have q272 : x5_1 < (l1.length : Int) := of_x
        obtain ⟨ad272, e272, hx272_0⟩ := Kd.at_bool HR1.out x5_1 p272 q272
        (try rw [← Nbq7.out] at hx272_0)
        (try rw [← Nbq9.out] at hx272_0)
        cases e272
        replace hx272_0 := cell_x HB hx272_0
        replace p272 := eq_true p272
        replace q272 := eq_true q272
        go_wp2
        go_ret
        exact ⟨by first | rfl | (simp [errW_none, errW_some] <;> rfl) | (simp [*, errW_none, errW_some] <;> rfl), by exact below_y HB.out⟩
      ·
       replace c8 := Bool.eq_false_iff.mpr c8
       subst c8
       have H1 : (swarfref04_IsClean.l0 k1 l1 (wrap64 (x5_1 + 1)) l0_0 a0_1 l0_2 a0_3 l0_4) = some r := by rw [if_neg (show ¬ (false = true) by decide)] at H; exact H
       clear H
       have H := H1
       clear H1
       have H' := Aside0.mk H
       clear H
       obtain ⟨_, _, _, _, _⟩ := cz5 BK270
       have hfz13_0 := blk_frozen BK270.out
       have p271 : 0 ≤ (x5_1 : Int) := of_x
       have q271 : x5_1 < (l0_0.length : Int) := of_x
       obtain ⟨ad271, A271_0, c271_0, e271, hx271_0, hx271_1, hx271_2, hx271_3, hl271_0, hi271_0⟩ := at_T50 HR0_0.out x5_1 p271 q271
       (try rw [← Nbq7.out] at hx271_1)
       cases e271
       replace hx271_0 := cell_x HB hx271_0
       replace hx271_1 := cell_x HB hx271_1
       replace hx271_2 := cell_x HB hx271_2
       replace hx271_3 := cell_x HB hx271_3
       have HR271_0 := Aside0.mk hi271_0
       have HC271_0 := Aside0.mk hl271_0
       clear hi271_0 hl271_0
       replace p271 := eq_true p271
       replace q271 := eq_true q271
       go_wp2
       go_roundg k1
       case measure => have := HK1.out; omega
       case rel => exact ⟨(wrap64 (x5_1 + 1)), (by first | rfl | (simp; done) | (simp [*]; done)), H', ⟨by have := HK1.out; omega⟩, ⟨blk_x BK270.out⟩, ⟨by exact below_y HB.out⟩⟩
     ·
      rw [if_neg c6] at H
      exact absurd H (by simp)
    ·
     rw [if_neg c5] at H
     exact absurd H (by simp)
   ·
    rw [if_neg c4] at H
    have c4b0 : decide (x5_1 < (l1.length : Int)) = false := decide_eq_false c4
    clear c4
    obtain rfl := Option.some.inj H
    go_wp2
    go_ret
    exact ⟨by first | rfl | (simp [errW_none, errW_some] <;> rfl) | (simp [*, errW_none, errW_some] <;> rfl), by exact below_y HB.out⟩
def swarfref04_Clean.l0 : Nat → List (List Bool) → Int → Int → List (S50) → Int → List (S61) → Int → List Int → Option (Int × Int)
 | 0, _, _, _, _, _, _, _, _ => none
 | k + 1, x4, x6, x7, x852000, x852001, x852002, x852003, x852004 => if x7 < (x4.length : Int) then (if 0 ≤ x7 then ((swarfref04_IsClean.f k x852000 x852001 x852002 x852003 x852004 (rd_L5 x4 x7)).bind fun t857 => (if t857 = true then (swarfref04_Clean.l0 k x4 (wrap64 (x6 + 1)) (wrap64 (x7 + 1)) x852000 x852001 x852002 x852003 x852004) else (swarfref04_Clean.l0 k x4 x6 (wrap64 (x7 + 1)) x852000 x852001 x852002 x852003 x852004))) else (none)) else ((swarfref04_verdict.f x6 (x4.length : Int)).bind fun t858 => (some (t858, 0)))
def swarfref04_Clean.f (k : Nat) (l0_0 : List (S50)) (a0_1 : Int) (l0_2 : List (S61)) (a0_3 : Int) (l0_4 : List Int) : Option (Int × Int) := (swarfref04_known.f k l0_0 a0_1 l0_2 a0_3 l0_4).bind fun bt852 => (if bt852.2 = 0 then (swarfref04_Clean.l0 k bt852.1 0 0 l0_0 a0_1 l0_2 a0_3 l0_4) else (some (0, bt852.2)))
set_option maxHeartbeats 8000000 in
set_option maxRecDepth 100000 in
theorem swarfref04_Clean.calls (k : Nat) (A0_0 : Option Addr) (c0_0 : Nat) (l0_0 : List (S50)) (a0_1 : Int) (A0_2 : Option Addr) (c0_2 : Nat) (l0_2 : List (S61)) (a0_3 : Int) (A0_4 : Option Addr) (c0_4 : Nat) (l0_4 : List Int) (r1 : Int) (r2 : Int) (w : World) (hr0_0 : Kd.C k50 w A0_0 l0_0.length l0_0) (hc0_0 : l0_0.length ≤ c0_0) (hr0_2 : Kd.C k61 w A0_2 l0_2.length l0_2) (hc0_2 : l0_2.length ≤ c0_2) (hr0_4 : Kd.C (Kd.int .i64) w A0_4 l0_4.length l0_4) (hc0_4 : l0_4.length ≤ c0_4) (h : swarfref04_Clean.f k l0_0 a0_1 l0_2 a0_3 l0_4 = some (r1, r2)) :
  Calls Try.prog 37 #[.agg #[.slice A0_0 l0_0.length c0_0, .int .i64 a0_1, .slice A0_2 l0_2.length c0_2, .int .i64 a0_3, .slice A0_4 l0_4.length c0_4]] w fun e w' => e = .returned (.tuple #[.int .i64 r1, .int .i64 r2]) ∧ Below w.heap.size w w' := by
 have hu26 := Try.underlying26
 have HR0_0 := Aside0.mk hr0_0
 have HC0_0 := Aside0.mk hc0_0
 clear hr0_0 hc0_0
 have HR0_2 := Aside0.mk hr0_2
 have HC0_2 := Aside0.mk hc0_2
 clear hr0_2 hc0_2
 have HR0_4 := Aside0.mk hr0_4
 have HC0_4 := Aside0.mk hc0_4
 clear hr0_4 hc0_4
 have HB := Aside0.mk (Below.refl w.heap.size w)
 have H : ((swarfref04_known.f k l0_0 a0_1 l0_2 a0_3 l0_4).bind fun bt852 => (if bt852.2 = 0 then (swarfref04_Clean.l0 k bt852.1 0 0 l0_0 a0_1 l0_2 a0_3 l0_4) else (some (0, bt852.2)))) = some (r1, r2) := h
 clear h
 replace H := Option.bind_eq_some_iff.mp H
 obtain ⟨⟨t852, t855⟩, A20, H⟩ := H
 try dsimp only at H
 have A2 := Aside0.mk A20
 clear A20
 by_cases c3 : t855 = 0
 ·
  rw [if_pos c3] at H
  have c3b0 : (t855 == 0) = true := beq_iff_eq.mpr c3
  have c3b1 : (t855 != 0) = false := bne_eq_false_iff_eq.mpr c3
  clear c3
  have H' := Aside0.mk H
  clear H
  go_enter Try.func37, Try.ntmps37
  go_wp2_with (first | ((with_reducible refine gate_dst (N := 1) rfl ?_); refine box_event ?hg (N := 1) ?hd (cs := #[.slice A0_0 l0_0.length c0_0, .int .i64 a0_1, .slice A0_2 l0_2.length c0_2, .int .i64 a0_3, .slice A0_4 l0_4.length c0_4]) (t := 26) ?hr ?_; (case hd => rfl); (case hg => rfl); (case hr => first | (go_simp; done) | (go_simp; rfl)); intro gb851 hg w4 hbox hb; have BK851 := Aside0.mk (hbox); have GW851 := Aside0.mk ((by rw [hg]; exact (below_size (below_x HB.out)) : w.heap.size ≤ gb851)); have GE851 := Aside0.mk ((by rw [hg]; exact (below_size (below_x HB.out)) : w.heap.size ≤ gb851)); replace HB := Aside0.mk (below_step (below_x HB.out) hb); clear hb hbox hg; obtain ⟨_, _, _, _, _⟩ := cz5 BK851; have hfz5_0 := blk_frozen BK851.out) | ((with_reducible refine gate_callee (f := 68) rfl ?_); refine goesL_ (some 10) rfl rfl Try.func68 (by kernel_rfl) rfl #[.agg #[.slice A0_0 l0_0.length c0_0, .int .i64 a0_1, .slice A0_2 l0_2.length c0_2, .int .i64 a0_3, .slice A0_4 l0_4.length c0_4]] rfl (by (try simp only [List.map_toArray, List.map_cons, List.map_nil]); first | done | rfl | (simp only [List.length_drop, List.length_take]; rfl)) ?_; (with_reducible refine (swarfref04_known.calls k _ _ l0_0 a0_1 _ _ l0_2 a0_3 _ _ l0_4 t852 t855 _ ?side1 ?side2 ?side3 ?side4 ?side5 ?side6 A2.out).mono ?_); (case side1 => exact Kd.C_x HR0_0.out HB.out); (case side2 => exact HC0_0.out); (case side3 => exact Kd.C_x HR0_2.out HB.out); (case side4 => exact HC0_2.out); (case side5 => exact Kd.C_x HR0_4.out HB.out); (case side6 => exact HC0_4.out); rintro e w6 ⟨v853, rfl, ho0, hb⟩; refine ⟨_, rfl, ?_⟩; have HO854 := Aside0.mk (Kd.N_lower (Kd.N_mono (ok' := fun k_ => k_ ≠ gb851) ho0 (fun k_ hk_ => (Kd.freshB (g := gb851) (o := .cells #[.slice A0_0 l0_0.length c0_0, .int .i64 a0_1, .slice A0_2 l0_2.length c0_2, .int .i64 a0_3, .slice A0_4 l0_4.length c0_4] 26 (0, 0)) (blk_x BK851.out) k_ hk_))) (below_size (by exact below_y HB.out))); replace BK851 := Aside0.mk (blk_below (blk_x BK851.out) hb); replace HB := bl_x HB hb; (try clear hb); (try clear hk); (try clear hi); (try clear ho0)))
  go_loopg [6, 7] k (fun kq v6 v7 w' => ∃ (x6_1 : Int) (x7_1 : Int), v6 = .int .i64 x6_1 ∧ v7 = .int .i64 x7_1 ∧ Aside0 (swarfref04_Clean.l0 kq t852 x6_1 x7_1 l0_0 a0_1 l0_2 a0_3 l0_4 = some (r1, r2)) ∧ Aside0 (kq ≤ k) ∧ Aside0 (Kd.N (Kd.slice 4 Kd.bool) 31 w' w.heap.size (fun k_ => k_ ≠ gb851) v853 t852) ∧ Aside0 (w'.heap[gb851]? = some (.cells #[(.slice A0_0 l0_0.length c0_0), .int .i64 a0_1, (.slice A0_2 l0_2.length c0_2), .int .i64 a0_3, (.slice A0_4 l0_4.length c0_4)] 26 (0, 0))) ∧ Aside0 (Below w.heap.size w w'))
  case atStart => exact ⟨(0), (0), (by first | rfl | (simp; done) | (simp [*]; done)), (by first | rfl | (simp; done) | (simp [*]; done)), H', ⟨Nat.le_refl _⟩, ⟨by (with_reducible repeat (first | apply Kd.N_alloc | apply Kd.N_drewN | apply Kd.N_drew)); exact HO854.out⟩, ⟨blk_x BK851.out⟩, ⟨by exact below_y HB.out⟩⟩
  case round =>
   clear H'
   obtain ⟨x6_1, x7_1, rfl, rfl, HA, HK1, HO_4, BK851, HB⟩ := hrel
   cases gk with
   | zero => exact absurd HA.out (by simp [swarfref04_Clean.l0])
   | succ k1 =>
    have H := HA.out
    clear HA
    simp only [swarfref04_Clean.l0] at H
    by_cases c7 : x7_1 < (t852.length : Int)
    ·
     rw [if_pos c7] at H
     have c7b0 : decide (x7_1 < (t852.length : Int)) = true := decide_eq_true c7
     clear c7
     by_cases c8 : 0 ≤ x7_1
     ·
      rw [if_pos c8] at H
      have c8b0 : decide (0 ≤ x7_1) = true := decide_eq_true c8
      clear c8
      replace H := Option.bind_eq_some_iff.mp H
      obtain ⟨t857, A90, H⟩ := H
      try dsimp only at H
      have A9 := Aside0.mk A90
      clear A90
      by_cases c10 : t857 = true
      ·
       subst c10
       have H1 : (swarfref04_Clean.l0 k1 t852 (wrap64 (x6_1 + 1)) (wrap64 (x7_1 + 1)) l0_0 a0_1 l0_2 a0_3 l0_4) = some (r1, r2) := by rw [if_pos rfl] at H; exact H
       clear H
       have H := H1
       clear H1
       have H' := Aside0.mk H
       clear H
       obtain ⟨Ao11, co11, eo11⟩ := Kd.N_slice HO_4.out
       subst eo11
       try go_wp2
       replace HO_4 := Aside0.mk (Kd.N_drew HO_4.out)
       replace BK851 := Aside0.mk (blk_drew BK851.out)
       replace HB := Aside0.mk (below_drew1 HB.out)
       have p856 : 0 ≤ (x7_1 : Int) := of_x
       have q856 : x7_1 < (t852.length : Int) := of_x
       obtain ⟨ad856, A856_0, c856_0, e856, hx856_0, hl856_0, hi856_0⟩ := at_L5 (Kd.N_reads' HO_4.out).2.2 x7_1 p856 q856
       cases e856
       obtain ⟨ce856, hce856, hMe856, hcc856⟩ := Kd.N_get HO_4.out [] x7_1 p856 (by first | exact q856 | exact of_x | (have e_ := (Kd.N_reads' HO_4.out).1; omega))
       obtain ⟨ua856_0, uc856_0, rfl, ul856_0, ge856_0⟩ := Kd.FK_slice_open hMe856
       have hv856_0 := hcc856 0 _ rfl
       rw [Nat.add_zero, show ((Kd.slice 4 Kd.bool)).sz = 1 from rfl, Nat.mul_one] at hv856_0
       replace hv856_0 := Option.some.inj (hv856_0.symm.trans hx856_0)
       injection hv856_0 with hva_ hvn_ hvc_
       rw [hva_] at ge856_0
       rw [hvc_] at ul856_0
       have HL856_0 := Aside0.mk (show Kd.V Kd.bool 4 _ w.heap.size _ _ (rd_L5 t852 x7_1) from Kd.V_mk ul856_0 ge856_0)
       clear hva_ hvn_ hvc_ ge856_0 ul856_0 hcc856 hce856
       have HR856_0 := Aside0.mk hi856_0
       have HC856_0 := Aside0.mk hl856_0
       clear hi856_0 hl856_0
       replace p856 := eq_true p856
       replace q856 := eq_true q856
       refine start_ (n := 6) (S := fun w' => w'.cell? ⟨gb851, 0, none⟩ = some (.slice A0_0 l0_0.length c0_0) ∧ w'.cell? ⟨gb851, 1, none⟩ = some (.int .i64 a0_1) ∧ w'.cell? ⟨gb851, 2, none⟩ = some (.slice A0_2 l0_2.length c0_2) ∧ w'.cell? ⟨gb851, 3, none⟩ = some (.int .i64 a0_3) ∧ w'.cell? ⟨gb851, 4, none⟩ = some (.slice A0_4 l0_4.length c0_4) ∧ w'.cell? (ad856.add (x7_1).toNat) = some (.slice A856_0 (rd_L5 t852 x7_1).length c856_0)) (ds := []) #[false, false, false, false, false, false] (by kernel_rfl) rfl rfl ⟨(blk_cell BK851.out 0).trans rfl, (blk_cell BK851.out 1).trans rfl, (blk_cell BK851.out 2).trans rfl, (blk_cell BK851.out 3).trans rfl, (blk_cell BK851.out 4).trans rfl, hx856_0⟩ (fun hHeld => ?_)
       generalize wr.drew = w12 at HO_4 BK851 HB HL856_0 HR856_0 hx856_0 hHeld ⊢
       refine pure_ (i := 1) (N := some 23) (v := ?_) (a' := ?_) #[false, true, false, false, false, false] rfl rfl (by kernel_rfl) (fun _ _ _ h => h) (Or.inl ⟨by rfl, ?_⟩) ?_ ?_
       rotate_left
       ·
        intro w'
        go_simp
        with_reducible rfl
       rotate_left
       ·
        simp only [Act.put, put_x, i64_w, i32_w]
        rfl
       refine pure_ (i := 2) (N := some 24) (v := ?_) (a' := ?_) #[false, true, true, false, false, false] rfl rfl (by kernel_rfl) (fun _ _ _ h => h) (Or.inl ⟨by rfl, ?_⟩) ?_ ?_
       rotate_left
       ·
        intro w'
        go_simp
        with_reducible rfl
       rotate_left
       ·
        simp only [Act.put, put_x, i64_w, i32_w]
        rfl
       refine pure_ (i := 3) (N := some 25) (v := ?_) (a' := ?_) #[false, true, true, true, false, false] rfl rfl (by kernel_rfl) (fun _ _ _ h => h) (Or.inl ⟨by rfl, ?_⟩) ?_ ?_
       rotate_left
       ·
        intro w'
        go_simp
        with_reducible rfl
       rotate_left
       ·
        simp only [Act.put, put_x, i64_w, i32_w]
        rfl
       refine take_ (i := 0) (N := some 22) (v := ?_) (a' := ?_) #[true, true, true, true, false, false] rfl rfl (by kernel_rfl) (fun _ _ _ h => h) (Or.inl ⟨by rfl, ?_⟩) hHeld ?_ ?_
       rotate_left
       ·
        rintro w' ⟨s0, s1, s2, s3, s4, s5⟩
        go_simp
        with_reducible rfl
       rotate_left
       ·
        simp only [Act.put, put_x, i64_w, i32_w]
        rfl
       refine take_ (i := 4) (N := some 26) (v := ?_) (a' := ?_) #[true, true, true, true, true, false] rfl rfl (by kernel_rfl) (fun _ _ _ h => h) (Or.inl ⟨by rfl, ?_⟩) hHeld ?_ ?_
       rotate_left
       ·
        rintro w' ⟨s0, s1, s2, s3, s4, s5⟩
        go_simp
        with_reducible rfl
       rotate_left
       ·
        simp only [Act.put, put_x, i64_w, i32_w]
        rfl
       refine one_ (i := 5) (N := some 27) #[true, true, true, true, true, true] rfl rfl (by kernel_rfl) (by decide) (fun K hK => ?_)
       refine goes_ Try.func29 (by kernel_rfl) rfl #[.agg #[.slice A0_0 l0_0.length c0_0, .int .i64 a0_1, .slice A0_2 l0_2.length c0_2, .int .i64 a0_3, .slice A0_4 l0_4.length c0_4], .slice A856_0 (rd_L5 t852 x7_1).length c856_0] (by rfl) rfl rfl (by (try simp only [List.map_toArray, List.map_cons, List.map_nil]); first | done | rfl | (simp only [List.length_drop, List.length_take]; rfl)) ?_
       with_reducible refine (swarfref04_IsClean.calls k1 _ _ l0_0 a0_1 _ _ l0_2 a0_3 _ _ l0_4 _ _ (rd_L5 t852 x7_1) true _ ?side1 ?side2 ?side3 ?side4 ?side5 ?side6 ?side7 ?side8 A9.out).mono ?_
       (case side1 => exact Kd.C_x HR0_0.out HB.out)
       (case side2 => exact HC0_0.out)
       (case side3 => exact Kd.C_x HR0_2.out HB.out)
       (case side4 => exact HC0_2.out)
       (case side5 => exact Kd.C_x HR0_4.out HB.out)
       (case side6 => exact HC0_4.out)
       (case side7 => repeat (first | exact (by repeat (first | (with_reducible exact HR856_0.out) | (with_reducible refine Kd.C_alloc ?_ _) | (with_reducible refine Kd.C_drewN ?_ _) | (with_reducible refine Kd.C_drew ?_) | exact HR856_0.out)) | (with_reducible refine Kd.C_alloc ?_ _) | (with_reducible refine Kd.C_drewN ?_ _) | (with_reducible refine Kd.C_drew ?_)))
       (case side8 => exact HC856_0.out)
       rintro e w13 ⟨rfl, hb⟩
       have HS5_ := (hb.cell (World.block_lt_of_cell? _ _ (hHeld.2.2.2.2.2))).trans (hHeld.2.2.2.2.2)
       refine ⟨_, rfl, ?_⟩
       replace HO_4 := Aside0.mk (Kd.N_below (Kd.N_x HO_4.out) hb)
       replace HL856_0 := Aside0.mk (Kd.V_below (Kd.V_x HL856_0.out) hb)
       replace BK851 := Aside0.mk (blk_below (blk_x BK851.out) hb)
       replace HR856_0 := Aside0.mk (Kd.C_below (by repeat (first | (with_reducible exact HR856_0.out) | (with_reducible refine Kd.C_alloc ?_ _) | (with_reducible refine Kd.C_drewN ?_ _) | (with_reducible refine Kd.C_drew ?_) | exact HR856_0.out)) hb)
       replace HB := bl_x HB hb
       (try clear hb)
       (try clear hb2)
       (try clear hk)
       (try clear hi)
       refine hK.out _ _ ⟨(blk_cell BK851.out 0).trans rfl, (blk_cell BK851.out 1).trans rfl, (blk_cell BK851.out 2).trans rfl, (blk_cell BK851.out 3).trans rfl, (blk_cell BK851.out 4).trans rfl, HS5_⟩ (fun hHeld => ?_)
       clear hK K
       refine norm_ (a' := ?_) ?_ ?_
       rotate_left
       ·
        show Act.put _ (some 27) _ = _
        simp only [Act.put, put_x, i64_w, i32_w]
        rfl
       refine done_ (by kernel_rfl) ?_
       try go_wp2
       go_roundg k1
       case measure => have := HK1.out; omega
       case rel => exact ⟨(wrap64 (x6_1 + 1)), (wrap64 (x7_1 + 1)), (by first | rfl | (simp; done) | (simp [*]; done)), (by first | rfl | (simp; done) | (simp [*]; done)), H', ⟨by have := HK1.out; omega⟩, ⟨by (with_reducible repeat (first | apply Kd.N_alloc | apply Kd.N_drewN | apply Kd.N_drew)); exact HO_4.out⟩, ⟨blk_x BK851.out⟩, ⟨by exact below_y HB.out⟩⟩
      ·
       replace c10 := Bool.eq_false_iff.mpr c10
       subst c10
       have H1 : (swarfref04_Clean.l0 k1 t852 x6_1 (wrap64 (x7_1 + 1)) l0_0 a0_1 l0_2 a0_3 l0_4) = some (r1, r2) := by rw [if_neg (show ¬ (false = true) by decide)] at H; exact H
       clear H
       have H := H1
       clear H1
       have H' := Aside0.mk H
       clear H
       obtain ⟨Ao14, co14, eo14⟩ := Kd.N_slice HO_4.out
       subst eo14
       try go_wp2
       replace HO_4 := Aside0.mk (Kd.N_drew HO_4.out)
       replace BK851 := Aside0.mk (blk_drew BK851.out)
       replace HB := Aside0.mk (below_drew1 HB.out)
       have p856 : 0 ≤ (x7_1 : Int) := of_x
       have q856 : x7_1 < (t852.length : Int) := of_x
       obtain ⟨ad856, A856_0, c856_0, e856, hx856_0, hl856_0, hi856_0⟩ := at_L5 (Kd.N_reads' HO_4.out).2.2 x7_1 p856 q856
       cases e856
       obtain ⟨ce856, hce856, hMe856, hcc856⟩ := Kd.N_get HO_4.out [] x7_1 p856 (by first | exact q856 | exact of_x | (have e_ := (Kd.N_reads' HO_4.out).1; omega))
       obtain ⟨ua856_0, uc856_0, rfl, ul856_0, ge856_0⟩ := Kd.FK_slice_open hMe856
       have hv856_0 := hcc856 0 _ rfl
       rw [Nat.add_zero, show ((Kd.slice 4 Kd.bool)).sz = 1 from rfl, Nat.mul_one] at hv856_0
       replace hv856_0 := Option.some.inj (hv856_0.symm.trans hx856_0)
       injection hv856_0 with hva_ hvn_ hvc_
       rw [hva_] at ge856_0
       rw [hvc_] at ul856_0
       have HL856_0 := Aside0.mk (show Kd.V Kd.bool 4 _ w.heap.size _ _ (rd_L5 t852 x7_1) from Kd.V_mk ul856_0 ge856_0)
       clear hva_ hvn_ hvc_ ge856_0 ul856_0 hcc856 hce856
       have HR856_0 := Aside0.mk hi856_0
       have HC856_0 := Aside0.mk hl856_0
       clear hi856_0 hl856_0
       replace p856 := eq_true p856
       replace q856 := eq_true q856
       refine start_ (n := 6) (S := fun w' => w'.cell? ⟨gb851, 0, none⟩ = some (.slice A0_0 l0_0.length c0_0) ∧ w'.cell? ⟨gb851, 1, none⟩ = some (.int .i64 a0_1) ∧ w'.cell? ⟨gb851, 2, none⟩ = some (.slice A0_2 l0_2.length c0_2) ∧ w'.cell? ⟨gb851, 3, none⟩ = some (.int .i64 a0_3) ∧ w'.cell? ⟨gb851, 4, none⟩ = some (.slice A0_4 l0_4.length c0_4) ∧ w'.cell? (ad856.add (x7_1).toNat) = some (.slice A856_0 (rd_L5 t852 x7_1).length c856_0)) (ds := []) #[false, false, false, false, false, false] (by kernel_rfl) rfl rfl ⟨(blk_cell BK851.out 0).trans rfl, (blk_cell BK851.out 1).trans rfl, (blk_cell BK851.out 2).trans rfl, (blk_cell BK851.out 3).trans rfl, (blk_cell BK851.out 4).trans rfl, hx856_0⟩ (fun hHeld => ?_)
       generalize wr.drew = w15 at HO_4 BK851 HB HL856_0 HR856_0 hx856_0 hHeld ⊢
       refine pure_ (i := 1) (N := some 23) (v := ?_) (a' := ?_) #[false, true, false, false, false, false] rfl rfl (by kernel_rfl) (fun _ _ _ h => h) (Or.inl ⟨by rfl, ?_⟩) ?_ ?_
       rotate_left
       ·
        intro w'
        go_simp
        with_reducible rfl
       rotate_left
       ·
        simp only [Act.put, put_x, i64_w, i32_w]
        rfl
       refine pure_ (i := 2) (N := some 24) (v := ?_) (a' := ?_) #[false, true, true, false, false, false] rfl rfl (by kernel_rfl) (fun _ _ _ h => h) (Or.inl ⟨by rfl, ?_⟩) ?_ ?_
       rotate_left
       ·
        intro w'
        go_simp
        with_reducible rfl
       rotate_left
       ·
        simp only [Act.put, put_x, i64_w, i32_w]
        rfl
       refine pure_ (i := 3) (N := some 25) (v := ?_) (a' := ?_) #[false, true, true, true, false, false] rfl rfl (by kernel_rfl) (fun _ _ _ h => h) (Or.inl ⟨by rfl, ?_⟩) ?_ ?_
       rotate_left
       ·
        intro w'
        go_simp
        with_reducible rfl
       rotate_left
       ·
        simp only [Act.put, put_x, i64_w, i32_w]
        rfl
       refine take_ (i := 0) (N := some 22) (v := ?_) (a' := ?_) #[true, true, true, true, false, false] rfl rfl (by kernel_rfl) (fun _ _ _ h => h) (Or.inl ⟨by rfl, ?_⟩) hHeld ?_ ?_
       rotate_left
       ·
        rintro w' ⟨s0, s1, s2, s3, s4, s5⟩
        go_simp
        with_reducible rfl
       rotate_left
       ·
        simp only [Act.put, put_x, i64_w, i32_w]
        rfl
       refine take_ (i := 4) (N := some 26) (v := ?_) (a' := ?_) #[true, true, true, true, true, false] rfl rfl (by kernel_rfl) (fun _ _ _ h => h) (Or.inl ⟨by rfl, ?_⟩) hHeld ?_ ?_
       rotate_left
       ·
        rintro w' ⟨s0, s1, s2, s3, s4, s5⟩
        go_simp
        with_reducible rfl
       rotate_left
       ·
        simp only [Act.put, put_x, i64_w, i32_w]
        rfl
       refine one_ (i := 5) (N := some 27) #[true, true, true, true, true, true] rfl rfl (by kernel_rfl) (by decide) (fun K hK => ?_)
       refine goes_ Try.func29 (by kernel_rfl) rfl #[.agg #[.slice A0_0 l0_0.length c0_0, .int .i64 a0_1, .slice A0_2 l0_2.length c0_2, .int .i64 a0_3, .slice A0_4 l0_4.length c0_4], .slice A856_0 (rd_L5 t852 x7_1).length c856_0] (by rfl) rfl rfl (by (try simp only [List.map_toArray, List.map_cons, List.map_nil]); first | done | rfl | (simp only [List.length_drop, List.length_take]; rfl)) ?_
       with_reducible refine (swarfref04_IsClean.calls k1 _ _ l0_0 a0_1 _ _ l0_2 a0_3 _ _ l0_4 _ _ (rd_L5 t852 x7_1) false _ ?side1 ?side2 ?side3 ?side4 ?side5 ?side6 ?side7 ?side8 A9.out).mono ?_
       (case side1 => exact Kd.C_x HR0_0.out HB.out)
       (case side2 => exact HC0_0.out)
       (case side3 => exact Kd.C_x HR0_2.out HB.out)
       (case side4 => exact HC0_2.out)
       (case side5 => exact Kd.C_x HR0_4.out HB.out)
       (case side6 => exact HC0_4.out)
       (case side7 => repeat (first | exact (by repeat (first | (with_reducible exact HR856_0.out) | (with_reducible refine Kd.C_alloc ?_ _) | (with_reducible refine Kd.C_drewN ?_ _) | (with_reducible refine Kd.C_drew ?_) | exact HR856_0.out)) | (with_reducible refine Kd.C_alloc ?_ _) | (with_reducible refine Kd.C_drewN ?_ _) | (with_reducible refine Kd.C_drew ?_)))
       (case side8 => exact HC856_0.out)
       rintro e w16 ⟨rfl, hb⟩
       have HS5_ := (hb.cell (World.block_lt_of_cell? _ _ (hHeld.2.2.2.2.2))).trans (hHeld.2.2.2.2.2)
       refine ⟨_, rfl, ?_⟩
       replace HO_4 := Aside0.mk (Kd.N_below (Kd.N_x HO_4.out) hb)
       replace HL856_0 := Aside0.mk (Kd.V_below (Kd.V_x HL856_0.out) hb)
       replace BK851 := Aside0.mk (blk_below (blk_x BK851.out) hb)
       replace HR856_0 := Aside0.mk (Kd.C_below (by repeat (first | (with_reducible exact HR856_0.out) | (with_reducible refine Kd.C_alloc ?_ _) | (with_reducible refine Kd.C_drewN ?_ _) | (with_reducible refine Kd.C_drew ?_) | exact HR856_0.out)) hb)
       replace HB := bl_x HB hb
       (try clear hb)
       (try clear hb2)
       (try clear hk)
       (try clear hi)
       refine hK.out _ _ ⟨(blk_cell BK851.out 0).trans rfl, (blk_cell BK851.out 1).trans rfl, (blk_cell BK851.out 2).trans rfl, (blk_cell BK851.out 3).trans rfl, (blk_cell BK851.out 4).trans rfl, HS5_⟩ (fun hHeld => ?_)
       clear hK K
       refine norm_ (a' := ?_) ?_ ?_
       rotate_left
       ·
        show Act.put _ (some 27) _ = _
        simp only [Act.put, put_x, i64_w, i32_w]
        rfl
       refine done_ (by kernel_rfl) ?_
       try go_wp2
       go_roundg k1
       case measure => have := HK1.out; omega
       case rel => exact ⟨(x6_1), (wrap64 (x7_1 + 1)), (by first | rfl | (simp; done) | (simp [*]; done)), (by first | rfl | (simp; done) | (simp [*]; done)), H', ⟨by have := HK1.out; omega⟩, ⟨by (with_reducible repeat (first | apply Kd.N_alloc | apply Kd.N_drewN | apply Kd.N_drew)); exact HO_4.out⟩, ⟨blk_x BK851.out⟩, ⟨by exact below_y HB.out⟩⟩
     ·
      rw [if_neg c8] at H
      exact absurd H (by simp)
    ·
     rw [if_neg c7] at H
     have c7b0 : decide (x7_1 < (t852.length : Int)) = false := decide_eq_false c7
     clear c7
     replace H := Option.bind_eq_some_iff.mp H
     obtain ⟨t858, A170, H⟩ := H
     replace H : (some (t858, 0)) = some (r1, r2) := H
     have A17 := Aside0.mk A170
     clear A170
     simp only [Option.some.injEq, Prod.mk.injEq] at H
     obtain ⟨rfl, rfl⟩ := H
     obtain ⟨Ao18, co18, eo18⟩ := Kd.N_slice HO_4.out
     subst eo18
     go_wp2_with (first | ((with_reducible refine gate_callee (f := 69) rfl ?_); refine goesL_ (some 33) rfl rfl Try.func69 (by kernel_rfl) rfl #[.int .i64 x6_1, .int .i64 (t852.length : Int)] rfl (by (try simp only [List.map_toArray, List.map_cons, List.map_nil]); first | done | rfl | (simp only [List.length_drop, List.length_take]; rfl)) ?_; (with_reducible refine (swarfref04_verdict.calls x6_1 (t852.length : Int) t858 _ A17.out).mono ?_); rintro e w' ⟨rfl, ⟨nd, rfl⟩⟩; refine ⟨_, rfl, ?_⟩))
     go_ret2
     exact ⟨by first | rfl | (simp [errW_none, errW_some] <;> rfl) | (simp [*, errW_none, errW_some] <;> rfl), by exact below_y HB.out⟩
 ·
  rw [if_neg c3] at H
  have c3b0 : (t855 == 0) = false := beq_eq_false_iff_ne.mpr c3
  have c3b1 : (t855 != 0) = true := bne_iff_ne.mpr c3
  simp only [Option.some.injEq, Prod.mk.injEq] at H
  obtain ⟨rfl, rfl⟩ := H
  go_enter Try.func37, Try.ntmps37
  go_wp2_with (first | ((with_reducible refine gate_dst (N := 1) rfl ?_); refine box_event ?hg (N := 1) ?hd (cs := #[.slice A0_0 l0_0.length c0_0, .int .i64 a0_1, .slice A0_2 l0_2.length c0_2, .int .i64 a0_3, .slice A0_4 l0_4.length c0_4]) (t := 26) ?hr ?_; (case hd => rfl); (case hg => rfl); (case hr => first | (go_simp; done) | (go_simp; rfl)); intro gb851 hg w19 hbox hb; have BK851 := Aside0.mk (hbox); have GW851 := Aside0.mk ((by rw [hg]; exact (below_size (below_x HB.out)) : w.heap.size ≤ gb851)); have GE851 := Aside0.mk ((by rw [hg]; exact (below_size (below_x HB.out)) : w.heap.size ≤ gb851)); replace HB := Aside0.mk (below_step (below_x HB.out) hb); clear hb hbox hg; obtain ⟨_, _, _, _, _⟩ := cz5 BK851; have hfz20_0 := blk_frozen BK851.out) | ((with_reducible refine gate_callee (f := 68) rfl ?_); refine goesL_ (some 10) rfl rfl Try.func68 (by kernel_rfl) rfl #[.agg #[.slice A0_0 l0_0.length c0_0, .int .i64 a0_1, .slice A0_2 l0_2.length c0_2, .int .i64 a0_3, .slice A0_4 l0_4.length c0_4]] rfl (by (try simp only [List.map_toArray, List.map_cons, List.map_nil]); first | done | rfl | (simp only [List.length_drop, List.length_take]; rfl)) ?_; (with_reducible refine (swarfref04_known.calls k _ _ l0_0 a0_1 _ _ l0_2 a0_3 _ _ l0_4 t852 t855 _ ?side1 ?side2 ?side3 ?side4 ?side5 ?side6 A2.out).mono ?_); (case side1 => exact Kd.C_x HR0_0.out HB.out); (case side2 => exact HC0_0.out); (case side3 => exact Kd.C_x HR0_2.out HB.out); (case side4 => exact HC0_2.out); (case side5 => exact Kd.C_x HR0_4.out HB.out); (case side6 => exact HC0_4.out); rintro e w21 ⟨v853, rfl, ho0, hb⟩; refine ⟨_, rfl, ?_⟩; have HO854 := Aside0.mk (Kd.N_lower (Kd.N_mono (ok' := fun k_ => k_ ≠ gb851) ho0 (fun k_ hk_ => (Kd.freshB (g := gb851) (o := .cells #[.slice A0_0 l0_0.length c0_0, .int .i64 a0_1, .slice A0_2 l0_2.length c0_2, .int .i64 a0_3, .slice A0_4 l0_4.length c0_4] 26 (0, 0)) (blk_x BK851.out) k_ hk_))) (below_size (by exact below_y HB.out))); replace BK851 := Aside0.mk (blk_below (blk_x BK851.out) hb); replace HB := bl_x HB hb; (try clear hb); (try clear hk); (try clear hi); (try clear ho0)))
  go_ret2
  exact ⟨by first | rfl | (simp [errW_none, errW_some] <;> rfl) | (simp [*, errW_none, errW_some] <;> rfl), by exact below_y HB.out⟩
def swarfref04_Least.l0 : Nat → List (List Bool) → Int → Int → List (S50) → Int → List (S61) → Int → List Int → Option (Int × Int)
 | 0, _, _, _, _, _, _, _, _ => none
 | k + 1, x5, x6, x7, x860000, x860001, x860002, x860003, x860004 => if x7 < (x5.length : Int) then (if 0 ≤ x7 then ((swarfref04_Wrongs.f k x860000 x860001 x860002 x860003 x860004 (rd_L5 x5 x7)).bind fun t865 => (swarfref04_Least.l0 k x5 (mn x6 t865) (wrap64 (x7 + 1)) x860000 x860001 x860002 x860003 x860004)) else (none)) else (some (x6, 0))
def swarfref04_Least.f (k : Nat) (l0_0 : List (S50)) (a0_1 : Int) (l0_2 : List (S61)) (a0_3 : Int) (l0_4 : List Int) : Option (Int × Int) := (swarfref04_Check.f k l0_0 a0_1 l0_2 a0_3 l0_4).bind fun t860 => (if t860 = 0 then ((swarfref04_States.f k l0_0 a0_1 l0_2 a0_3 l0_4).bind fun t861 => (swarfref04_Least.l0 k t861 (l0_2.length : Int) 0 l0_0 a0_1 l0_2 a0_3 l0_4)) else (some (0, t860)))
def swarfref04_Least.T9 : Bool × List (List Nat × List Nat) := (true, [([], []), ([], []), ([], []), ([], []), ([2, 3], [2, 3]), ([4], [4]), ([1, 5], [1, 5]), ([0, 6], [0, 6]), ([7, 6, 0, 1, 2, 3, 4, 5, 6, 7], [0, 7])])
def swarfref04_Least.B9 : List Nat := [0, 0, 0, 0, 12, 28, 62, 127, 255]
theorem swarfref04_Least.tab9 : rtab .any (opsOf Try.f39 9) = swarfref04_Least.T9 := by kernel_rfl
theorem swarfref04_Least.bits9 : waitsOk swarfref04_Least.T9.2 swarfref04_Least.B9 = true := by kernel_rfl
set_option maxHeartbeats 8000000 in
set_option maxRecDepth 100000 in
theorem swarfref04_Least.calls (k : Nat) (A0_0 : Option Addr) (c0_0 : Nat) (l0_0 : List (S50)) (a0_1 : Int) (A0_2 : Option Addr) (c0_2 : Nat) (l0_2 : List (S61)) (a0_3 : Int) (A0_4 : Option Addr) (c0_4 : Nat) (l0_4 : List Int) (r1 : Int) (r2 : Int) (w : World) (hr0_0 : Kd.C k50 w A0_0 l0_0.length l0_0) (hc0_0 : l0_0.length ≤ c0_0) (hr0_2 : Kd.C k61 w A0_2 l0_2.length l0_2) (hc0_2 : l0_2.length ≤ c0_2) (hr0_4 : Kd.C (Kd.int .i64) w A0_4 l0_4.length l0_4) (hc0_4 : l0_4.length ≤ c0_4) (h : swarfref04_Least.f k l0_0 a0_1 l0_2 a0_3 l0_4 = some (r1, r2)) :
  Calls Try.prog 39 #[.agg #[.slice A0_0 l0_0.length c0_0, .int .i64 a0_1, .slice A0_2 l0_2.length c0_2, .int .i64 a0_3, .slice A0_4 l0_4.length c0_4]] w fun e w' => e = .returned (.tuple #[.int .i64 r1, .int .i64 r2]) ∧ Below w.heap.size w w' := by
 have hu26 := Try.underlying26
 have HR0_0 := Aside0.mk hr0_0
 have HC0_0 := Aside0.mk hc0_0
 clear hr0_0 hc0_0
 have HR0_2 := Aside0.mk hr0_2
 have HC0_2 := Aside0.mk hc0_2
 clear hr0_2 hc0_2
 have HR0_4 := Aside0.mk hr0_4
 have HC0_4 := Aside0.mk hc0_4
 clear hr0_4 hc0_4
 have HB := Aside0.mk (Below.refl w.heap.size w)
 have H : ((swarfref04_Check.f k l0_0 a0_1 l0_2 a0_3 l0_4).bind fun t860 => (if t860 = 0 then ((swarfref04_States.f k l0_0 a0_1 l0_2 a0_3 l0_4).bind fun t861 => (swarfref04_Least.l0 k t861 (l0_2.length : Int) 0 l0_0 a0_1 l0_2 a0_3 l0_4)) else (some (0, t860)))) = some (r1, r2) := h
 clear h
 replace H := Option.bind_eq_some_iff.mp H
 obtain ⟨t860, A20, H⟩ := H
 try dsimp only at H
 have A2 := Aside0.mk A20
 clear A20
 by_cases c3 : t860 = 0
 ·
  rw [if_pos c3] at H
  have c3b0 : (t860 == 0) = true := beq_iff_eq.mpr c3
  have c3b1 : (t860 != 0) = false := bne_eq_false_iff_eq.mpr c3
  clear c3
  replace H := Option.bind_eq_some_iff.mp H
  obtain ⟨t861, A40, H⟩ := H
  try dsimp only at H
  have A4 := Aside0.mk A40
  clear A40
  have H' := Aside0.mk H
  clear H
  go_enter Try.func39, Try.ntmps39
  go_wp2_with (first | ((with_reducible refine gate_dst (N := 1) rfl ?_); refine box_event ?hg (N := 1) ?hd (cs := #[.slice A0_0 l0_0.length c0_0, .int .i64 a0_1, .slice A0_2 l0_2.length c0_2, .int .i64 a0_3, .slice A0_4 l0_4.length c0_4]) (t := 26) ?hr ?_; (case hd => rfl); (case hg => rfl); (case hr => first | (go_simp; done) | (go_simp; rfl)); intro gb859 hg w5 hbox hb; have BK859 := Aside0.mk (hbox); have GW859 := Aside0.mk ((by rw [hg]; exact (below_size (below_x HB.out)) : w.heap.size ≤ gb859)); have GE859 := Aside0.mk ((by rw [hg]; exact (below_size (below_x HB.out)) : w.heap.size ≤ gb859)); replace HB := Aside0.mk (below_step (below_x HB.out) hb); clear hb hbox hg; obtain ⟨_, _, _, _, _⟩ := cz5 BK859; have hfz6_0 := blk_frozen BK859.out) | ((with_reducible refine gate_callee (f := 15) rfl ?_); refine goesL_ (some 9) rfl rfl Try.func15 (by kernel_rfl) rfl #[.agg #[.slice A0_0 l0_0.length c0_0, .int .i64 a0_1, .slice A0_2 l0_2.length c0_2, .int .i64 a0_3, .slice A0_4 l0_4.length c0_4]] rfl (by (try simp only [List.map_toArray, List.map_cons, List.map_nil]); first | done | rfl | (simp only [List.length_drop, List.length_take]; rfl)) ?_; (with_reducible refine (swarfref04_Check.calls k _ _ l0_0 a0_1 _ _ l0_2 a0_3 _ _ l0_4 t860 _ ?side1 ?side2 ?side3 ?side4 ?side5 ?side6 A2.out).mono ?_); (case side1 => exact Kd.C_x HR0_0.out HB.out); (case side2 => exact HC0_0.out); (case side3 => exact Kd.C_x HR0_2.out HB.out); (case side4 => exact HC0_2.out); (case side5 => exact Kd.C_x HR0_4.out HB.out); (case side6 => exact HC0_4.out); rintro e w7 ⟨rfl, hb⟩; refine ⟨_, rfl, ?_⟩; replace BK859 := Aside0.mk (blk_below (blk_x BK859.out) hb); replace HB := bl_x HB hb; (try clear hb); (try clear hk); (try clear hi); obtain ⟨_, _, _, _, _⟩ := cz5 BK859; have hfz8_0 := blk_frozen BK859.out) | ((with_reducible refine gate_callee (f := 71) rfl ?_); refine goesL_ (some 14) rfl rfl Try.func71 (by kernel_rfl) rfl #[.agg #[.slice A0_0 l0_0.length c0_0, .int .i64 a0_1, .slice A0_2 l0_2.length c0_2, .int .i64 a0_3, .slice A0_4 l0_4.length c0_4]] rfl (by (try simp only [List.map_toArray, List.map_cons, List.map_nil]); first | done | rfl | (simp only [List.length_drop, List.length_take]; rfl)) ?_; (with_reducible refine (swarfref04_States.calls k _ _ l0_0 a0_1 _ _ l0_2 a0_3 _ _ l0_4 t861 _ ?side1 ?side2 ?side3 ?side4 ?side5 ?side6 A4.out).mono ?_); (case side1 => exact Kd.C_x HR0_0.out HB.out); (case side2 => exact HC0_0.out); (case side3 => exact Kd.C_x HR0_2.out HB.out); (case side4 => exact HC0_2.out); (case side5 => exact Kd.C_x HR0_4.out HB.out); (case side6 => exact HC0_4.out); rintro e w9 ⟨v862, rfl, ho0, hb⟩; refine ⟨_, rfl, ?_⟩; have HO863 := Aside0.mk (Kd.S_lower ho0 (below_size (by exact below_y HB.out))); replace BK859 := Aside0.mk (blk_below (blk_x BK859.out) hb); replace HB := bl_x HB hb; (try clear hb); (try clear hk); (try clear hi); (try clear ho0); obtain ⟨_, _, _, _, _⟩ := cz5 BK859; have hfz10_0 := blk_frozen BK859.out))
  go_loopg [6, 7] k (fun kq v6 v7 w' => ∃ (x6_1 : Int) (x7_1 : Int), v6 = .int .i64 x6_1 ∧ v7 = .int .i64 x7_1 ∧ Aside0 (swarfref04_Least.l0 kq t861 x6_1 x7_1 l0_0 a0_1 l0_2 a0_3 l0_4 = some (r1, r2)) ∧ Aside0 (kq ≤ k) ∧ Aside0 (Kd.S (Kd.slice 4 Kd.bool) 31 w' w.heap.size (fun _ => True) v862 t861) ∧ Aside0 (w'.heap[gb859]? = some (.cells #[(.slice A0_0 l0_0.length c0_0), .int .i64 a0_1, (.slice A0_2 l0_2.length c0_2), .int .i64 a0_3, (.slice A0_4 l0_4.length c0_4)] 26 (0, 0))) ∧ Aside0 (Below w.heap.size w w'))
  case atStart => exact ⟨((l0_2.length : Int)), (0), (by first | rfl | (simp; done) | (simp [*]; done)), (by first | rfl | (simp; done) | (simp [*]; done)), H', ⟨Nat.le_refl _⟩, ⟨by (with_reducible repeat (first | apply Kd.S_alloc | apply Kd.S_drewN | apply Kd.S_drew)); exact HO863.out⟩, ⟨blk_x BK859.out⟩, ⟨by exact below_y HB.out⟩⟩
  case round =>
   clear H'
   obtain ⟨x6_1, x7_1, rfl, rfl, HA, HK1, HO_5, BK859, HB⟩ := hrel
   cases gk with
   | zero => exact absurd HA.out (by simp [swarfref04_Least.l0])
   | succ k1 =>
    have H := HA.out
    clear HA
    simp only [swarfref04_Least.l0] at H
    by_cases c11 : x7_1 < (t861.length : Int)
    ·
     rw [if_pos c11] at H
     have c11b0 : decide (x7_1 < (t861.length : Int)) = true := decide_eq_true c11
     clear c11
     by_cases c12 : 0 ≤ x7_1
     ·
      rw [if_pos c12] at H
      have c12b0 : decide (0 ≤ x7_1) = true := decide_eq_true c12
      clear c12
      replace H := Option.bind_eq_some_iff.mp H
      obtain ⟨t865, A130, H⟩ := H
      try dsimp only at H
      have A13 := Aside0.mk A130
      clear A130
      obtain ⟨ji14, hji14⟩ : ∃ j_ : Int, (mn x6_1 t865) = j_ := ⟨_, rfl⟩
      replace H : (swarfref04_Least.l0 k1 t861 ji14 (wrap64 (x7_1 + 1)) l0_0 a0_1 l0_2 a0_3 l0_4) = some (r1, r2) := by first | (rw [hji14] at H; exact H) | (simp only [hji14] at H ⊢; exact H)
      (try rw [hji14] at A13)
      have hji14_ : (if t865 < x6_1 then t865 else x6_1) = ji14 := hji14
      have H' := Aside0.mk H
      clear H
      obtain ⟨Ao15, co15, eo15⟩ := Kd.S_slice HO_5.out
      subst eo15
      try go_wp2
      replace HO_5 := Aside0.mk (Kd.S_drew HO_5.out)
      replace BK859 := Aside0.mk (blk_drew BK859.out)
      replace HB := Aside0.mk (below_drew1 HB.out)
      have p864 : 0 ≤ (x7_1 : Int) := of_x
      have q864 : x7_1 < (t861.length : Int) := of_x
      obtain ⟨ad864, A864_0, c864_0, e864, hx864_0, hl864_0, hi864_0⟩ := at_L5 (Kd.S_reads' HO_5.out).2.2 x7_1 p864 q864
      cases e864
      obtain ⟨ce864, hce864, hMe864, hcc864⟩ := Kd.S_get HO_5.out [] x7_1 p864 (by first | exact q864 | exact of_x | (have e_ := (Kd.S_reads' HO_5.out).1; omega))
      obtain ⟨ve864_0, rfl, ge864_0⟩ := hMe864
      have hv864_0 := hcc864 0 _ rfl
      rw [Nat.add_zero, show ((Kd.slice 4 Kd.bool)).sz = 1 from rfl, Nat.mul_one] at hv864_0
      replace hv864_0 := Option.some.inj (hv864_0.symm.trans hx864_0)
      rw [hv864_0] at ge864_0
      have HL864_0 := Aside0.mk (show Kd.R Kd.bool 4 _ _ _ _ (rd_L5 t861 x7_1) from ge864_0)
      clear hv864_0 ge864_0 hcc864 hce864
      have HR864_0 := Aside0.mk hi864_0
      have HC864_0 := Aside0.mk hl864_0
      clear hi864_0 hl864_0
      replace p864 := eq_true p864
      replace q864 := eq_true q864
      refine start_ (n := 9) (S := fun w' => w'.cell? ⟨gb859, 0, none⟩ = some (.slice A0_0 l0_0.length c0_0) ∧ w'.cell? ⟨gb859, 1, none⟩ = some (.int .i64 a0_1) ∧ w'.cell? ⟨gb859, 2, none⟩ = some (.slice A0_2 l0_2.length c0_2) ∧ w'.cell? ⟨gb859, 3, none⟩ = some (.int .i64 a0_3) ∧ w'.cell? ⟨gb859, 4, none⟩ = some (.slice A0_4 l0_4.length c0_4) ∧ w'.cell? (ad864.add (x7_1).toNat) = some (.slice A864_0 (rd_L5 t861 x7_1).length c864_0)) (ds := []) #[false, false, false, false, false, false, false, false, false] (by kernel_rfl) rfl rfl ⟨(blk_cell BK859.out 0).trans rfl, (blk_cell BK859.out 1).trans rfl, (blk_cell BK859.out 2).trans rfl, (blk_cell BK859.out 3).trans rfl, (blk_cell BK859.out 4).trans rfl, hx864_0⟩ (fun hHeld => ?_); refine with_tabW swarfref04_Least.tab9 swarfref04_Least.bits9 (fun HT_ HW_ => ?_)
      generalize wr.drew = w16 at HO_5 BK859 HB HL864_0 HR864_0 hx864_0 hHeld ⊢
      refine pure_ (i := 0) (N := some 24) (v := ?_) (a' := ?_) (bz 9 1) rfl rfl (any_of HT_.out (by kernel_rfl)) (fun _ _ _ h => h) (Or.inl ⟨by rfl, ?_⟩) ?_ ?_
      rotate_left
      ·
       intro w'
       go_simp
       with_reducible rfl
      rotate_left
      ·
       simp only [Act.put, put_x, i64_w, i32_w]
       rfl
      refine pure_ (i := 2) (N := some 26) (v := ?_) (a' := ?_) (bz 9 5) rfl rfl (any_of HT_.out (by kernel_rfl)) (fun _ _ _ h => h) (Or.inl ⟨by rfl, ?_⟩) ?_ ?_
      rotate_left
      ·
       intro w'
       go_simp
       with_reducible rfl
      rotate_left
      ·
       simp only [Act.put, put_x, i64_w, i32_w]
       rfl
      refine pure_ (i := 3) (N := some 27) (v := ?_) (a' := ?_) (bz 9 13) rfl rfl (any_of HT_.out (by kernel_rfl)) (fun _ _ _ h => h) (Or.inl ⟨by rfl, ?_⟩) ?_ ?_
      rotate_left
      ·
       intro w'
       go_simp
       with_reducible rfl
      rotate_left
      ·
       simp only [Act.put, put_x, i64_w, i32_w]
       rfl
      refine pure_ (i := 4) (N := some 28) (v := ?_) (a' := ?_) (bz 9 29) rfl rfl (any_of HT_.out (by kernel_rfl)) (fun _ _ _ h => h) (Or.inl ⟨by rfl, ?_⟩) ?_ ?_
      rotate_left
      ·
       intro w'
       go_simp
       with_reducible rfl
      rotate_left
      ·
       simp only [Act.put, put_x, i64_w, i32_w]
       rfl
      refine take_ (i := 1) (N := some 25) (v := ?_) (a' := ?_) (bz 9 31) rfl rfl (take_ofW HT_.out HW_.out (by kernel_rfl)) (fun _ _ _ h => h) (Or.inl ⟨by rfl, ?_⟩) hHeld ?_ ?_
      rotate_left
      ·
       rintro w' ⟨s0, s1, s2, s3, s4, s5⟩
       go_simp
       with_reducible rfl
      rotate_left
      ·
       simp only [Act.put, put_x, i64_w, i32_w]
       rfl
      refine take_ (i := 5) (N := some 29) (v := ?_) (a' := ?_) (bz 9 63) rfl rfl (take_ofW HT_.out HW_.out (by kernel_rfl)) (fun _ _ _ h => h) (Or.inl ⟨by rfl, ?_⟩) hHeld ?_ ?_
      rotate_left
      ·
       rintro w' ⟨s0, s1, s2, s3, s4, s5⟩
       go_simp
       with_reducible rfl
      rotate_left
      ·
       simp only [Act.put, put_x, i64_w, i32_w]
       rfl
      refine one_ (i := 6) (N := some 30) (bz 9 127) rfl rfl (one_of HT_.out (by kernel_rfl)) (by decide) (fun K hK => ?_)
      refine goes_ Try.func28 (by kernel_rfl) rfl #[.agg #[.slice A0_0 l0_0.length c0_0, .int .i64 a0_1, .slice A0_2 l0_2.length c0_2, .int .i64 a0_3, .slice A0_4 l0_4.length c0_4], .slice A864_0 (rd_L5 t861 x7_1).length c864_0] (by rfl) rfl rfl (by (try simp only [List.map_toArray, List.map_cons, List.map_nil]); first | done | rfl | (simp only [List.length_drop, List.length_take]; rfl)) ?_
      with_reducible refine (swarfref04_Wrongs.calls k1 _ _ l0_0 a0_1 _ _ l0_2 a0_3 _ _ l0_4 _ _ (rd_L5 t861 x7_1) t865 _ ?side1 ?side2 ?side3 ?side4 ?side5 ?side6 ?side7 ?side8 A13.out).mono ?_
      (case side1 => exact Kd.C_x HR0_0.out HB.out)
      (case side2 => exact HC0_0.out)
      (case side3 => exact Kd.C_x HR0_2.out HB.out)
      (case side4 => exact HC0_2.out)
      (case side5 => exact Kd.C_x HR0_4.out HB.out)
      (case side6 => exact HC0_4.out)
      (case side7 => repeat (first | exact (by repeat (first | (with_reducible exact HR864_0.out) | (with_reducible refine Kd.C_alloc ?_ _) | (with_reducible refine Kd.C_drewN ?_ _) | (with_reducible refine Kd.C_drew ?_) | exact HR864_0.out)) | (with_reducible refine Kd.C_alloc ?_ _) | (with_reducible refine Kd.C_drewN ?_ _) | (with_reducible refine Kd.C_drew ?_)))
      (case side8 => exact HC864_0.out)
      rintro e w17 ⟨rfl, hb⟩
      have HS5_ := (hb.cell (World.block_lt_of_cell? _ _ (hHeld.2.2.2.2.2))).trans (hHeld.2.2.2.2.2)
      refine ⟨_, rfl, ?_⟩
      replace HO_5 := Aside0.mk (Kd.S_below (Kd.S_x HO_5.out) hb)
      replace HL864_0 := Aside0.mk (Kd.R_below (Kd.R_x HL864_0.out) hb)
      replace BK859 := Aside0.mk (blk_below (blk_x BK859.out) hb)
      replace HR864_0 := Aside0.mk (Kd.C_below (by repeat (first | (with_reducible exact HR864_0.out) | (with_reducible refine Kd.C_alloc ?_ _) | (with_reducible refine Kd.C_drewN ?_ _) | (with_reducible refine Kd.C_drew ?_) | exact HR864_0.out)) hb)
      replace HB := bl_x HB hb
      (try clear hb)
      (try clear hb2)
      (try clear hk)
      (try clear hi)
      refine hK.out _ _ ⟨(blk_cell BK859.out 0).trans rfl, (blk_cell BK859.out 1).trans rfl, (blk_cell BK859.out 2).trans rfl, (blk_cell BK859.out 3).trans rfl, (blk_cell BK859.out 4).trans rfl, HS5_⟩ (fun hHeld => ?_)
      clear hK K
      refine norm_ (a' := ?_) ?_ ?_
      rotate_left
      ·
       show Act.put _ (some 30) _ = _
       simp only [Act.put, put_x, i64_w, i32_w]
       rfl
      refine pure_ (i := 7) (N := some 31) (v := ?_) (a' := ?_) (bz 9 255) rfl rfl (any_of HT_.out (by kernel_rfl)) (fun _ _ _ h => h) (Or.inl ⟨by rfl, ?_⟩) ?_ ?_
      rotate_left
      ·
       intro w'
       go_simp
       with_reducible rfl
      rotate_left
      ·
       simp only [Act.put, put_x, i64_w, i32_w]
       rfl
      refine pure_ (i := 8) (N := some 6) (v := ?_) (a' := ?_) (bz 9 511) rfl rfl (any_of HT_.out (by kernel_rfl)) (fun _ _ _ h => h) (Or.inl ⟨by rfl, ?_⟩) ?_ ?_
      rotate_left
      ·
       intro w'
       go_simp
       with_reducible rfl
      rotate_left
      ·
       simp only [Act.put, put_x, i64_w, i32_w]
       rfl
      refine done_ (done_of HT_.out (by kernel_rfl)) ?_
      try go_wp2
      go_roundg k1
      case measure => have := HK1.out; omega
      case rel => exact ⟨(ji14), (wrap64 (x7_1 + 1)), (by first | rfl | (simp; done) | (simp only [← hji14] <;> (first | rfl | simp)) | (simp [*]; done)), (by first | rfl | (simp; done) | (simp [*]; done)), H', ⟨by have := HK1.out; omega⟩, ⟨by (with_reducible repeat (first | apply Kd.S_alloc | apply Kd.S_drewN | apply Kd.S_drew)); exact HO_5.out⟩, ⟨blk_x BK859.out⟩, ⟨by exact below_y HB.out⟩⟩
     ·
      rw [if_neg c12] at H
      exact absurd H (by simp)
    ·
     rw [if_neg c11] at H
     have c11b0 : decide (x7_1 < (t861.length : Int)) = false := decide_eq_false c11
     clear c11
     simp only [Option.some.injEq, Prod.mk.injEq] at H
     obtain ⟨rfl, rfl⟩ := H
     obtain ⟨Ao18, co18, eo18⟩ := Kd.S_slice HO_5.out
     subst eo18
     go_wp2
     go_ret2
     exact ⟨by first | rfl | (simp [errW_none, errW_some] <;> rfl) | (simp [*, errW_none, errW_some] <;> rfl), by exact below_y HB.out⟩
 ·
  rw [if_neg c3] at H
  have c3b0 : (t860 == 0) = false := beq_eq_false_iff_ne.mpr c3
  have c3b1 : (t860 != 0) = true := bne_iff_ne.mpr c3
  simp only [Option.some.injEq, Prod.mk.injEq] at H
  obtain ⟨rfl, rfl⟩ := H
  go_enter Try.func39, Try.ntmps39
  go_wp2_with (first | ((with_reducible refine gate_dst (N := 1) rfl ?_); refine box_event ?hg (N := 1) ?hd (cs := #[.slice A0_0 l0_0.length c0_0, .int .i64 a0_1, .slice A0_2 l0_2.length c0_2, .int .i64 a0_3, .slice A0_4 l0_4.length c0_4]) (t := 26) ?hr ?_; (case hd => rfl); (case hg => rfl); (case hr => first | (go_simp; done) | (go_simp; rfl)); intro gb859 hg w19 hbox hb; have BK859 := Aside0.mk (hbox); have GW859 := Aside0.mk ((by rw [hg]; exact (below_size (below_x HB.out)) : w.heap.size ≤ gb859)); have GE859 := Aside0.mk ((by rw [hg]; exact (below_size (below_x HB.out)) : w.heap.size ≤ gb859)); replace HB := Aside0.mk (below_step (below_x HB.out) hb); clear hb hbox hg; obtain ⟨_, _, _, _, _⟩ := cz5 BK859; have hfz20_0 := blk_frozen BK859.out) | ((with_reducible refine gate_callee (f := 15) rfl ?_); refine goesL_ (some 9) rfl rfl Try.func15 (by kernel_rfl) rfl #[.agg #[.slice A0_0 l0_0.length c0_0, .int .i64 a0_1, .slice A0_2 l0_2.length c0_2, .int .i64 a0_3, .slice A0_4 l0_4.length c0_4]] rfl (by (try simp only [List.map_toArray, List.map_cons, List.map_nil]); first | done | rfl | (simp only [List.length_drop, List.length_take]; rfl)) ?_; (with_reducible refine (swarfref04_Check.calls k _ _ l0_0 a0_1 _ _ l0_2 a0_3 _ _ l0_4 t860 _ ?side1 ?side2 ?side3 ?side4 ?side5 ?side6 A2.out).mono ?_); (case side1 => exact Kd.C_x HR0_0.out HB.out); (case side2 => exact HC0_0.out); (case side3 => exact Kd.C_x HR0_2.out HB.out); (case side4 => exact HC0_2.out); (case side5 => exact Kd.C_x HR0_4.out HB.out); (case side6 => exact HC0_4.out); rintro e w21 ⟨rfl, hb⟩; refine ⟨_, rfl, ?_⟩; replace BK859 := Aside0.mk (blk_below (blk_x BK859.out) hb); replace HB := bl_x HB hb; (try clear hb); (try clear hk); (try clear hi)))
  go_ret2
  exact ⟨by first | rfl | (simp [errW_none, errW_some] <;> rfl) | (simp [*, errW_none, errW_some] <;> rfl), by exact below_y HB.out⟩
end Go.Proofs.Ytkkmfcdikkiodaa.PC4
namespace Go.Proofs.Ytkkmfcdikkiodaa.PC4
set_option linter.unusedVariables false
set_option linter.unusedSimpArgs false
open Go.RowKit Go.Proofs.YtkkmfcdikkiodaaW.PrintWords Go.Proofs.YtkkmfcdikkiodaaW.PrintLast Go.Proofs.YtkkmfcdikkiodaaW.PrintMore
theorem alloc_keeps {w : World} {a : Addr} {v : Value} (h : w.cell? a = some v) : ∀ o, (w.alloc o).cell? a = some v := fun o => (World.cell?_alloc_lt _ _ _ (World.block_lt_of_cell? _ _ h)).trans h
set_option maxHeartbeats 8000000 in
set_option maxRecDepth 100000 in
theorem equalCars_same (A0 : Option Addr) (c0 : Nat) (parts : List S50) (swap : Int) (A2 : Option Addr) (c2 : Nat) (looks : List S61) (wrong : Int) (A4 : Option Addr) (c4 : Nat) (needs : List Int) (B0 : Option Addr) (d0 : Nat) (B2 : Option Addr) (d2 : Nat) (B4 : Option Addr) (d4 : Nat) (w : World)
    (ha0 : Kd.C k50 w A0 parts.length parts) (hac0 : parts.length ≤ c0) (ha2 : Kd.C k61 w A2 looks.length looks) (hac2 : looks.length ≤ c2) (ha4 : Kd.C (Kd.int .i64) w A4 needs.length needs) (hac4 : needs.length ≤ c4)
    (hb0 : Kd.C k50 w B0 parts.length parts) (hbc0 : parts.length ≤ d0) (hb2 : Kd.C k61 w B2 looks.length looks) (hbc2 : looks.length ≤ d2) (hb4 : Kd.C (Kd.int .i64) w B4 needs.length needs) (hbc4 : needs.length ≤ d4)
    (hpl : parts.length ≤ 1000000) (hll : looks.length ≤ 1000000) (hn : ∃ k, swarfkit_EqualInts.f k needs needs = some true) (hb : ∀ p, p ∈ parts → ∃ k, swarfkit_EqualInts.f k p.f0 p.f0 = some true) :
    Calls Try.prog 23 #[.agg #[.slice A0 parts.length c0, .int .i64 swap, .slice A2 looks.length c2, .int .i64 wrong, .slice A4 needs.length c4], .agg #[.slice B0 parts.length d0, .int .i64 swap, .slice B2 looks.length d2, .int .i64 wrong, .slice B4 needs.length d4]] w fun e w' => e = .returned (.bool true) ∧ Below w.heap.size w w' := by
  have hu26 := Try.underlying26
  have hu50 := Try.underlying50
  have hu61 := Try.underlying61
  obtain ⟨kn, hn⟩ := hn
  have HA0 := Aside0.mk ha0
  have HA2 := Aside0.mk ha2
  have HA4 := Aside0.mk ha4
  have HB0 := Aside0.mk hb0
  have HB2 := Aside0.mk hb2
  have HB4 := Aside0.mk hb4
  have HN := Aside0.mk hn
  have HBF := Aside0.mk hb
  clear ha0 ha2 ha4 hb0 hb2 hb4 hn hb
  go_enter Try.func23, Try.ntmps23
  go_wp2_with (first
    | ((with_reducible refine gate_dst (N := 2) rfl ?_); refine box_event ?hg (N := 2) ?hd (cs := #[.slice A0 parts.length c0, .int .i64 swap, .slice A2 looks.length c2, .int .i64 wrong, .slice A4 needs.length c4]) (t := 26) ?hr ?_; (case hd => rfl); (case hg => rfl); (case hr => first | (go_simp; done) | (go_simp; rfl)); intro ga hga w1 hbox hbw; have BA := Aside0.mk hbox; have HW := Aside0.mk hbw; clear hga hbox hbw)
    | ((with_reducible refine gate_dst (N := 3) rfl ?_); refine box_event ?hg (N := 3) ?hd (cs := #[.slice B0 parts.length d0, .int .i64 swap, .slice B2 looks.length d2, .int .i64 wrong, .slice B4 needs.length d4]) (t := 26) ?hr ?_; (case hd => rfl); (case hg => rfl); (case hr => first | (go_simp; done) | (go_simp; rfl)); intro gb hgb w2 hbox hbw; have BB := Aside0.mk hbox; have BA2 := Aside0.mk (blk_below BA.out hbw); have HW2 := Aside0.mk (below_step HW.out hbw); clear hgb hbox hbw BA HW; have hx0 := (blk_cell BA2.out 0).trans rfl; have hx1 := (blk_cell BA2.out 1).trans rfl; have hx2 := (blk_cell BA2.out 2).trans rfl; have hx3 := (blk_cell BA2.out 3).trans rfl; have hx4 := (blk_cell BA2.out 4).trans rfl; have hy0 := (blk_cell BB.out 0).trans rfl; have hy1 := (blk_cell BB.out 1).trans rfl; have hy2 := (blk_cell BB.out 2).trans rfl; have hy3 := (blk_cell BB.out 3).trans rfl; have hy4 := (blk_cell BB.out 4).trans rfl)
    | (go_at_call 22; refine (swarfkit_EqualInts.calls kn A4 c4 needs B4 d4 needs true w2 (Kd.C_below HA4.out HW2.out) hac4 (Kd.C_below HB4.out HW2.out) hbc4 HN.out).mono ?_; rintro e w3 ⟨rfl, ⟨m3, rfl⟩⟩))
  obtain ⟨w4, hw4⟩ : ∃ w4 : World, w4 = w2.drewN m3 := ⟨_, rfl⟩
  have BA4 := Aside0.mk (show w4.heap[ga]? = some (.cells #[.slice A0 parts.length c0, .int .i64 swap, .slice A2 looks.length c2, .int .i64 wrong, .slice A4 needs.length c4] 26 (0, 0)) by rw [hw4]; exact BA2.out)
  have BB4 := Aside0.mk (show w4.heap[gb]? = some (.cells #[.slice B0 parts.length d0, .int .i64 swap, .slice B2 looks.length d2, .int .i64 wrong, .slice B4 needs.length d4] 26 (0, 0)) by rw [hw4]; exact BB.out)
  have HW4 := Aside0.mk (show Below w.heap.size w w4 by rw [hw4]; exact pw_below_drewN HW2.out m3)
  rw [← hw4]
  clear hw4 BA2 BB HW2 hx0 hx1 hx2 hx3 hx4 hy0 hy1 hy2 hy3 hy4
  go_loopg [5, 6] parts.length (fun gk v5 v6 wr => ∃ k : Nat, k ≤ parts.length ∧ parts.length - k ≤ gk ∧ v5 = .bool true ∧ v6 = .int .i64 k ∧ Aside0 (wr.heap[ga]? = some (.cells #[.slice A0 parts.length c0, .int .i64 swap, .slice A2 looks.length c2, .int .i64 wrong, .slice A4 needs.length c4] 26 (0, 0))) ∧ Aside0 (wr.heap[gb]? = some (.cells #[.slice B0 parts.length d0, .int .i64 swap, .slice B2 looks.length d2, .int .i64 wrong, .slice B4 needs.length d4] 26 (0, 0))) ∧ Aside0 (Below w.heap.size w wr))
  case atStart => exact ⟨0, Nat.zero_le _, by omega, rfl, rfl, BA4, BB4, HW4⟩
  case round =>
    clear BA4 BB4 HW4
    obtain ⟨k, hk, hgk, rfl, rfl, BA4, BB4, HW4⟩ := hrel
    have hx0 := (blk_cell BA4.out 0).trans rfl
    have hy0 := (blk_cell BB4.out 0).trans rfl
    by_cases hlt : k < parts.length
    · have hlz : (k : Int) < (parts.length : Int) := by omega
      obtain ⟨ad, A1, a1, e, hp0, hp1, hp2, hp3, hl1, hi1⟩ := at_T50 HA0.out (k : Int) (by omega) hlz
      cases e
      obtain ⟨bd, B1, b1, e, hq0, hq1, hq2, hq3, hl2, hi2⟩ := at_T50 HB0.out (k : Int) (by omega) hlz
      cases e
      rw [Int.toNat_natCast] at hp0 hp1 hp2 hp3 hq0 hq1 hq2 hq3
      replace hp0 := (HW4.out.cell (World.block_lt_of_cell? w _ hp0)).trans hp0
      replace hp1 := (HW4.out.cell (World.block_lt_of_cell? w _ hp1)).trans hp1
      replace hp2 := (HW4.out.cell (World.block_lt_of_cell? w _ hp2)).trans hp2
      replace hp3 := (HW4.out.cell (World.block_lt_of_cell? w _ hp3)).trans hp3
      replace hq0 := (HW4.out.cell (World.block_lt_of_cell? w _ hq0)).trans hq0
      replace hq1 := (HW4.out.cell (World.block_lt_of_cell? w _ hq1)).trans hq1
      replace hq2 := (HW4.out.cell (World.block_lt_of_cell? w _ hq2)).trans hq2
      replace hq3 := (HW4.out.cell (World.block_lt_of_cell? w _ hq3)).trans hq3
      have hE : rd_T50 parts (k : Int) ∈ parts := by
        have : rd_T50 parts (k : Int) = parts.getD k z50 := by simp [rd_T50]
        rw [this, List.getD, List.getElem?_eq_getElem hlt]; exact List.getElem_mem hlt
      obtain ⟨ke, he⟩ := HBF.out _ hE
      have HE := Aside0.mk he
      have HI1 := Aside0.mk hi1
      have HI2 := Aside0.mk hi2
      clear he hE hi1 hi2
      generalize rd_T50 parts (k : Int) = y at *
      go_upto_region 5 with (fail)
      obtain ⟨wo, hwo⟩ : ∃ wo : World, wo = wr := ⟨_, rfl⟩
      rw [← hwo] at BA4 BB4 HW4 hx0 hy0 hp0 hp1 hp2 hp3 hq0 hq1 hq2 hq3 ⊢
      clear hwo
      go_cut [7, 8] (fun v7 v8 wc => ∃ p q : Nat, v7 = .pointer (some ⟨p, 0, none⟩) ∧ v8 = .pointer (some ⟨q, 0, none⟩) ∧ Aside0 (wc.heap[p]? = some (.cells #[.slice A1 y.f0.length a1, .bool y.f1, .int .i64 y.f2, .int .i64 y.f3] 50 (0, 0))) ∧ Aside0 (wc.heap[q]? = some (.cells #[.slice B1 y.f0.length b1, .bool y.f1, .int .i64 y.f2, .int .i64 y.f3] 50 (0, 0))) ∧ Aside0 (Below wo.heap.size wo wc))
      case first =>
        have hx0a := alloc_keeps hx0
        have hx0b := fun o => alloc_keeps (hx0a o)
        have hy0a := alloc_keeps hy0
        have hy0b := fun o => alloc_keeps (hy0a o)
        have hp0a := alloc_keeps hp0
        have hp0b := fun o => alloc_keeps (hp0a o)
        have hp1a := alloc_keeps hp1
        have hp1b := fun o => alloc_keeps (hp1a o)
        have hp2a := alloc_keeps hp2
        have hp2b := fun o => alloc_keeps (hp2a o)
        have hp3a := alloc_keeps hp3
        have hp3b := fun o => alloc_keeps (hp3a o)
        have hq0a := alloc_keeps hq0
        have hq0b := fun o => alloc_keeps (hq0a o)
        have hq1a := alloc_keeps hq1
        have hq1b := fun o => alloc_keeps (hq1a o)
        have hq2a := alloc_keeps hq2
        have hq2b := fun o => alloc_keeps (hq2a o)
        have hq3a := alloc_keeps hq3
        have hq3b := fun o => alloc_keeps (hq3a o)
        go_region
        all_goals
          go_wp2
          go_meet
          case rel => first
            | exact ⟨_, _, rfl, rfl, ⟨blk_drew (blk_alloc (blk_new wo (.cells #[.slice A1 y.f0.length a1, .bool y.f1, .int .i64 y.f2, .int .i64 y.f3] 50 (0, 0))) _)⟩, ⟨blk_drew (by have h_ := blk_new (wo.alloc (.cells #[.slice A1 y.f0.length a1, .bool y.f1, .int .i64 y.f2, .int .i64 y.f3] 50 (0, 0))) (.cells #[.slice B1 y.f0.length b1, .bool y.f1, .int .i64 y.f2, .int .i64 y.f3] 50 (0, 0)); simpa using h_)⟩, ⟨below_drew1 (below_alloc (below_alloc (Below.refl _ _) _) _)⟩⟩
            | exact ⟨_, _, rfl, rfl, ⟨blk_drew (by have h_ := blk_new (wo.alloc (.cells #[.slice B1 y.f0.length b1, .bool y.f1, .int .i64 y.f2, .int .i64 y.f3] 50 (0, 0))) (.cells #[.slice A1 y.f0.length a1, .bool y.f1, .int .i64 y.f2, .int .i64 y.f3] 50 (0, 0)); simpa using h_)⟩, ⟨blk_drew (blk_alloc (blk_new wo (.cells #[.slice B1 y.f0.length b1, .bool y.f1, .int .i64 y.f2, .int .i64 y.f3] 50 (0, 0))) _)⟩, ⟨below_drew1 (below_alloc (below_alloc (Below.refl _ _) _) _)⟩⟩
      case rest =>
        obtain ⟨p, q, rfl, rfl, BP, BQ, HWc⟩ := hcut
        have BA5 := Aside0.mk (blk_below BA4.out HWc.out)
        have BB5 := Aside0.mk (blk_below BB4.out HWc.out)
        have HW5 := Aside0.mk (below_step HW4.out HWc.out)
        clear hx0 hy0 hp0 hp1 hp2 hp3 hq0 hq1 hq2 hq3 BA4 BB4 HW4 HWc
        have hp0 := (blk_cell BP.out 0).trans rfl
        have hp1 := (blk_cell BP.out 1).trans rfl
        have hp2 := (blk_cell BP.out 2).trans rfl
        have hp3 := (blk_cell BP.out 3).trans rfl
        have hq0 := (blk_cell BQ.out 0).trans rfl
        have hq1 := (blk_cell BQ.out 1).trans rfl
        have hq2 := (blk_cell BQ.out 2).trans rfl
        have hq3 := (blk_cell BQ.out 3).trans rfl
        go_wp2_with (fail)
        refine (swarfkit_EqualInts.calls ke A1 a1 y.f0 B1 b1 y.f0 true _ (Kd.C_below HI1.out HW5.out) hl1 (Kd.C_below HI2.out HW5.out) hl2 HE.out).mono ?_
        rintro e w6 ⟨rfl, ⟨m6, rfl⟩⟩
        go_wp2
        go_roundg (parts.length - (k + 1))
        case measure => omega
        case rel => exact ⟨k + 1, by omega, by omega, by first | rfl | simp, by go_num, ⟨BA5.out⟩, ⟨BB5.out⟩, ⟨pw_below_drewN HW5.out m6⟩⟩
    · have : k = parts.length := by omega
      subst this
      go_upto_region 7 with (fail)
      obtain ⟨wo, hwo⟩ : ∃ wo : World, wo = wr := ⟨_, rfl⟩
      rw [← hwo] at BA4 BB4 HW4 hx0 hy0 ⊢
      clear hwo hx0 hy0 hlt hk hgk
      go_wp2
      go_loopg [5, 9] looks.length (fun gk v5 v9 wr => ∃ k : Nat, k ≤ looks.length ∧ looks.length - k ≤ gk ∧ v5 = .bool true ∧ v9 = .int .i64 k ∧ Aside0 (wr.heap[ga]? = some (.cells #[.slice A0 parts.length c0, .int .i64 swap, .slice A2 looks.length c2, .int .i64 wrong, .slice A4 needs.length c4] 26 (0, 0))) ∧ Aside0 (wr.heap[gb]? = some (.cells #[.slice B0 parts.length d0, .int .i64 swap, .slice B2 looks.length d2, .int .i64 wrong, .slice B4 needs.length d4] 26 (0, 0))) ∧ Aside0 (Below w.heap.size w wr))
      case atStart => exact ⟨0, Nat.zero_le _, by omega, rfl, rfl, BA4, BB4, HW4⟩
      case round =>
        clear BA4 BB4 HW4
        obtain ⟨k, hk, hgk, rfl, rfl, BA4, BB4, HW4⟩ := hrel
        have hx2 := (blk_cell BA4.out 2).trans rfl
        have hy2 := (blk_cell BB4.out 2).trans rfl
        by_cases hlt : k < looks.length
        · have hlz : (k : Int) < (looks.length : Int) := by omega
          obtain ⟨ad, e, hp0, hp1⟩ := at_T61 HA2.out (k : Int) (by omega) hlz
          cases e
          obtain ⟨bd, e, hq0, hq1⟩ := at_T61 HB2.out (k : Int) (by omega) hlz
          cases e
          rw [Int.toNat_natCast] at hp0 hp1 hq0 hq1
          replace hp0 := (HW4.out.cell (World.block_lt_of_cell? w _ hp0)).trans hp0
          replace hp1 := (HW4.out.cell (World.block_lt_of_cell? w _ hp1)).trans hp1
          replace hq0 := (HW4.out.cell (World.block_lt_of_cell? w _ hq0)).trans hq0
          replace hq1 := (HW4.out.cell (World.block_lt_of_cell? w _ hq1)).trans hq1
          generalize rd_T61 looks (k : Int) = y at *
          go_upto_region 10 with (fail)
          go_quiet (fail)
          go_wp2
          go_roundg (looks.length - (k + 1))
          case measure => omega
          case rel => exact ⟨k + 1, by omega, by omega, by first | rfl | simp, by go_num, ⟨by first | exact BA4.out | exact blk_drewN BA4.out _⟩, ⟨by first | exact BB4.out | exact blk_drewN BB4.out _⟩, ⟨pw_below_drewN HW4.out _⟩⟩
        · have : k = looks.length := by omega
          subst this
          go_wp2
          go_ret
          exact ⟨rfl, HW4.out⟩
theorem S_agg {w : World} {base : Nat} {v0 v2 v4 : Value} {r1 : List S50} {r3 : List S61} {r5 : List Int} {o1 o2 o3 : Nat → Prop} (ho0 : Kd.S k50 50 w base o1 v0 r1) (ho1 : Kd.R k61 61 w base o2 v2 r3) (ho2 : Kd.R (Kd.int .i64) 3 w base o3 v4 r5) :
    ∃ m0 d0 m2 d2 m4 d4, v0 = .slice m0 r1.length d0 ∧ v2 = .slice m2 r3.length d2 ∧ v4 = .slice m4 r5.length d4 ∧ Kd.C k50 w m0 r1.length r1 ∧ r1.length ≤ d0 ∧ Kd.C k61 w m2 r3.length r3 ∧ r3.length ≤ d2 ∧ Kd.C (Kd.int .i64) w m4 r5.length r5 ∧ r5.length ≤ d4 := by
  obtain ⟨m0, d0, rfl⟩ := Kd.S_slice ho0
  obtain ⟨m2, d2, rfl⟩ := Kd.R_slice ho1
  obtain ⟨m4, d4, rfl⟩ := Kd.R_slice ho2
  exact ⟨m0, d0, m2, d2, m4, d4, rfl, rfl, rfl, (Kd.S_reads' ho0).2.2, (Kd.S_reads' ho0).2.1, (Kd.R_reads' ho1).2.2, (Kd.R_reads' ho1).2.1, (Kd.R_reads' ho2).2.2, (Kd.R_reads' ho2).2.1⟩
structure CarV where
  A0 : Option Addr
  c0 : Nat
  parts : List S50
  swap : Int
  A2 : Option Addr
  c2 : Nat
  looks : List S61
  wrong : Int
  A4 : Option Addr
  c4 : Nat
  needs : List Int
structure CarV.Ok (x : CarV) (w : World) : Prop where
  p : Kd.C k50 w x.A0 x.parts.length x.parts
  pc : x.parts.length ≤ x.c0
  l : Kd.C k61 w x.A2 x.looks.length x.looks
  lc : x.looks.length ≤ x.c2
  n : Kd.C (Kd.int .i64) w x.A4 x.needs.length x.needs
  nc : x.needs.length ≤ x.c4
structure SameOK (x : CarV) : Prop where
  p : x.parts.length ≤ 1000000
  l : x.looks.length ≤ 1000000
  n : ∃ k, swarfkit_EqualInts.f k x.needs x.needs = some true
  b : ∀ p, p ∈ x.parts → ∃ k, swarfkit_EqualInts.f k p.f0 p.f0 = some true
theorem cells_at {w : World} {g t : Nat} {cs : Array Value} (hb : w.heap[g]? = some (.cells cs t (0, 0))) (o : Nat) (ys : Array Value) (h : ∀ j v, ys[j]? = some v → cs[o + j]? = some v) : ∀ j v, ys[j]? = some v → w.cell? ⟨g, o + j, none⟩ = some v :=
  fun j v hj => (blk_cell hb (o + j)).trans (h j v hj)
theorem CarV.Ok.below {x : CarV} {w w' : World} (h : x.Ok w) (hb : Below w.heap.size w w') : x.Ok w' :=
  ⟨Kd.C_below h.p hb, h.pc, Kd.C_below h.l hb, h.lc, Kd.C_below h.n hb, h.nc⟩
theorem put_lit (l : List Value) (d : List Deferred) (i : Nat) (v : Value) : Act.put { tmps := l.toArray, defers := d } (some i) v = { tmps := (l.set i v).toArray, defers := d } := by simp [Act.put]
theorem cells_below {w w' : World} {g o : Nat} {ys : Array Value} (h : ∀ j v, ys[j]? = some v → w.cell? ⟨g, o + j, none⟩ = some v) (hb : Below w.heap.size w w') : ∀ j v, ys[j]? = some v → w'.cell? ⟨g, o + j, none⟩ = some v :=
  fun j v hj => (hb.cell (World.block_lt_of_cell? w _ (h j v hj))).trans (h j v hj)
theorem cell_zero {w : World} {g o : Nat} {v : Value} (h : w.cell? ⟨g, o + 0, none⟩ = some v) : w.cell? ⟨g, o, none⟩ = some v := h
end Go.Proofs.Ytkkmfcdikkiodaa.PC4
namespace Go.Proofs.Ytkkmfcdikkiodaa.PC4
set_option linter.unusedVariables false
open Go.RowKit Go.Shelf Go.Proofs.YtkkmfcdikkiodaaW.PrintWords Go.Proofs.YtkkmfcdikkiodaaW.PrintLast Go.Proofs.YtkkmfcdikkiodaaW.PrintMore
attribute [local go_sem] Oper.semAt_some
def leastOf (n : Nat) (l : List (Nat × Nat)) : Nat := l.foldl (fun m x => min m x.2) n
theorem leastOf_snoc (n : Nat) (l : List (Nat × Nat)) (x : Nat × Nat) : leastOf n (l ++ [x]) = min (leastOf n l) x.2 := by simp [leastOf]
def leastE (parts : List S50) (swap : Int) (looks : List S61) (wrong : Int) (needs : List Int) : Int × Int :=
  if checkE parts swap looks wrong needs = 0 then ((leastOf looks.length (statesL parts looks) : Nat), 0) else (0, checkE parts swap looks wrong needs)
def strip_Least.f (l0_0 : List (S50)) (a0_1 : Int) (l0_2 : List (S61)) (a0_3 : Int) (l0_4 : List Int) : Option (Int × Int) :=
  if carFits l0_0 l0_2 l0_4 then some (leastE l0_0 a0_1 l0_2 a0_3 l0_4) else none
set_option maxHeartbeats 8000000 in
set_option maxRecDepth 100000 in
theorem strip_Least.calls (A0_0 : Option Addr) (c0_0 : Nat) (l0_0 : List (S50)) (a0_1 : Int) (A0_2 : Option Addr) (c0_2 : Nat) (l0_2 : List (S61)) (a0_3 : Int) (A0_4 : Option Addr) (c0_4 : Nat) (l0_4 : List Int) (r1 : Int) (r2 : Int) (w : World) (hr0_0 : Kd.C k50 w A0_0 l0_0.length l0_0) (hc0_0 : l0_0.length ≤ c0_0) (hr0_2 : Kd.C k61 w A0_2 l0_2.length l0_2) (hc0_2 : l0_2.length ≤ c0_2) (hr0_4 : Kd.C (Kd.int .i64) w A0_4 l0_4.length l0_4) (hc0_4 : l0_4.length ≤ c0_4) (h : strip_Least.f l0_0 a0_1 l0_2 a0_3 l0_4 = some (r1, r2)) :
    Calls Try.prog 38 #[.agg #[.slice A0_0 l0_0.length c0_0, .int .i64 a0_1, .slice A0_2 l0_2.length c0_2, .int .i64 a0_3, .slice A0_4 l0_4.length c0_4]] w fun e w' => e = .returned (.tuple #[.int .i64 r1, .int .i64 r2]) ∧ Below w.heap.size w w' := by
  unfold strip_Least.f at h
  by_cases hf : carFits l0_0 l0_2 l0_4
  case neg => rw [if_neg hf] at h; cases h
  rw [if_pos hf] at h
  have hE := Option.some.inj h
  clear h
  have HR0 := Aside0.mk hr0_0
  have HR2 := Aside0.mk hr0_2
  have HR4 := Aside0.mk hr0_4
  have HF := Aside0.mk hf
  have HEE := Aside0.mk hE
  clear hr0_0 hr0_2 hr0_4 hf hE
  have hu26 := Try.underlying26
  refine (callsIn_wide (n := 6)).1 ?_
  refine callsIn_of_wp_marks Try.func38 rfl trivial ?_ rfl
  simp only [Try.ntmps38, List.size_toArray, List.length_cons, List.length_nil, Nat.reduceAdd, Nat.reduceSub, Array.replicate_succ, Array.replicate_zero, List.push_toArray, List.append_toArray, List.nil_append, List.cons_append]
  refine wpIn_wide.2 ?_
  go_wp2_with ((with_reducible refine gate_dst (N := 1) rfl ?_); refine box_event ?hg (N := 1) ?hd (cs := #[.slice A0_0 l0_0.length c0_0, .int .i64 a0_1, .slice A0_2 l0_2.length c0_2, .int .i64 a0_3, .slice A0_4 l0_4.length c0_4]) (t := 26) ?hr ?_; (case hd => rfl); (case hg => rfl); (case hr => first | (go_simp; done) | (go_simp; rfl)); intro gb hg w2 hbox hb2; have hz0 := (blk_cell hbox 0).trans rfl; have hz1 := (blk_cell hbox 1).trans rfl; have hz2 := (blk_cell hbox 2).trans rfl; have hz3 := (blk_cell hbox 3).trans rfl; have hz4 := (blk_cell hbox 4).trans rfl; have BK := Aside0.mk hbox; have HB := Aside0.mk hb2; have HG := Aside0.mk hg; clear hg hbox hb2)
  refine (strip_Check.calls A0_0 c0_0 l0_0 a0_1 A0_2 c0_2 l0_2 a0_3 A0_4 c0_4 l0_4 _ w2 (Kd.C_below HR0.out HB.out) hc0_0 (Kd.C_below HR2.out HB.out) hc0_2 (Kd.C_below HR4.out HB.out) hc0_4 (by rw [strip_Check.f, if_pos HF.out])).mono ?_
  rintro e w3 ⟨rfl, hb3⟩
  have HB3 := Aside0.mk (below_step HB.out hb3)
  have BK3 := Aside0.mk (blk_below BK.out hb3)
  clear hz0 hz1 hz2 hz3 hz4 hb3 HB BK
  by_cases h0 : checkE l0_0 a0_1 l0_2 a0_3 l0_4 = 0
  case neg =>
    have HE := Aside0.mk h0
    have h1 := HEE.out.symm.trans (if_neg h0)
    obtain ⟨rfl, h2⟩ := Prod.mk.inj h1
    rw [← h2]
    have hnb : (r2 == 0) = false := beq_eq_false_iff_ne.2 (by rw [h2]; exact h0)
    clear h0 h1 h2 HE HEE
    go_wp2
    exact ⟨.tuple #[.int .i64 0, .int .i64 r2], by simp [results, Try.results38, go_sem], rfl, HB3.out⟩
  have HOK := Aside0.mk (carOK_of_check HF.out h0)
  have h1 := HEE.out.symm.trans (if_pos h0)
  obtain ⟨rfl, rfl⟩ := Prod.mk.inj h1
  rw [h0]
  have hll := HOK.out.lks
  have HS3 := Aside0.mk HB3.out.size
  have HLT3 := Aside0.mk (blk_lt BK3.out)
  clear h0 h1 HEE
  have hz0 := (blk_cell BK3.out 0).trans rfl
  have hz1 := (blk_cell BK3.out 1).trans rfl
  have hz2 := (blk_cell BK3.out 2).trans rfl
  have hz3 := (blk_cell BK3.out 3).trans rfl
  have hz4 := (blk_cell BK3.out 4).trans rfl
  go_upto_region 5 with (fail)
  obtain ⟨gl, hgl⟩ : ∃ b, b = w3.heap.size := ⟨_, rfl⟩
  have BL := Aside0.mk (blk_new w3 (.cells #[.int .i64 (l0_2.length : Int)] 3 (0, 0)))
  have hbw : Below w3.heap.size w3 (w3.alloc (.cells #[.int .i64 (l0_2.length : Int)] 3 (0, 0))) := below_alloc (Below.refl _ _) _
  generalize hw4 : w3.alloc (.cells #[.int .i64 (l0_2.length : Int)] 3 (0, 0)) = w4 at *
  rw [← hgl] at BL ⊢
  have BK4 := Aside0.mk (blk_below BK3.out hbw)
  have HB4 := Aside0.mk (below_step HB3.out hbw)
  have HGl := Aside0.mk hgl
  have HG4 := Aside0.mk (blk_lt BL.out)
  clear hz0 hz1 hz2 hz3 hz4 hbw hw4 hgl BK3 HB3
  have hz0 := (blk_cell BK4.out 0).trans rfl
  have hz1 := (blk_cell BK4.out 1).trans rfl
  have hz2 := (blk_cell BK4.out 2).trans rfl
  have hz3 := (blk_cell BK4.out 3).trans rfl
  have hz4 := (blk_cell BK4.out 4).trans rfl
  go_wp2_with (fail)
  refine (states_calls A0_0 c0_0 l0_0 a0_1 A0_2 c0_2 l0_2 a0_3 A0_4 c0_4 l0_4 w4).mono ?_
  rintro e w5 ⟨gb2, rfl, hge, hlt2, hbk2, hb5⟩
  have BL5 := Aside0.mk (blk_below BL.out hb5)
  have HB5 := Aside0.mk (below_step HB4.out hb5)
  have BS := Aside0.mk hbk2
  have HGS := Aside0.mk hge
  have HLS := Aside0.mk hlt2
  clear hz0 hz1 hz2 hz3 hz4 hb5 hbk2 hge hlt2 BK4 HB4
  go_wp2
  refine (wpIn_wide (n := 6)).1 ?_
  have hnl : w.heap.size ≤ gl := by rw [HGl.out]; exact HS3.out
  have hlt5 : gl < w5.heap.size := blk_lt BL5.out
  have hne2 : gb2 ≠ gl := by have := HG4.out; have := HGS.out; omega
  refine wpIn_rangeFunc_ownF (F := Fence.wide) (n := 6) rfl (by decide) (gf := 90) (lb := #[.pointer (some ⟨gb2, 0, none⟩)]) rfl trivial (enters_of Try.func90 (by kernel_rfl) rfl)
    (states_stops 5 gb2 w.heap.size (by decide) A0_0 c0_0 l0_0 a0_1 A0_2 c0_2 l0_2 a0_3 A0_4 c0_4 l0_4 w5 w HR0.out HR2.out HB5.out (Nat.le_refl _) BS.out HOK.out) kpS_t (kpS_b HB5.out.size HLS.out) (Below.refl _ _) (fun _ => rfl)
    (fun pre W => Boxed W gl 3 (.int .i64 (leastOf l0_2.length pre : Nat)) ∧ W.heap[gb2]? = some (.cells #[.slice A0_0 l0_0.length c0_0, .int .i64 a0_1, .slice A0_2 l0_2.length c0_2, .int .i64 a0_3, .slice A0_4 l0_4.length c0_4] 26 (0, 0)) ∧ Below w.heap.size w W)
    (fun _ _ _ => False)
    (OwnFrom.and (Own.from (fun s A B row h hg hr => (blk_own gl #[.int .i64 (leastOf l0_2.length s : Nat)] 3 (0, 0) (β := List (Nat × Nat))) s A B row h hg hr) _) (OwnFrom.and (Own.from (blk_own gb2 _ _ _) _) (ownFrom_below (Nat.le_refl _) HB5.out.size)))
    (fun _ _ _ _ _ hs _ _ => hs)
    ⟨BL5.out, BS.out, HB5.out⟩
    (fun x => { tmps := #[.agg #[.slice A0_0 l0_0.length c0_0, .int .i64 a0_1, .slice A0_2 l0_2.length c0_2, .int .i64 a0_3, .slice A0_4 l0_4.length c0_4], .pointer (some ⟨gb, 0, none⟩), .int .i64 0, .int .i64 0, .int .i64 0, .pointer (some ⟨gl, 0, none⟩), undef, .int .i64 (x.2 : Int), .agg #[.slice A0_0 l0_0.length c0_0, .int .i64 a0_1, .slice A0_2 l0_2.length c0_2, .int .i64 a0_3, .slice A0_4 l0_4.length c0_4], .int .i64 0, .int .i64 0, .bool false, undef, .pointer (some ⟨gb, 2, none⟩), .slice A0_2 l0_2.length c0_2, .int .i64 (l0_2.length : Int), .agg #[.slice A0_0 l0_0.length c0_0, .int .i64 a0_1, .slice A0_2 l0_2.length c0_2, .int .i64 a0_3, .slice A0_4 l0_4.length c0_4], .func (.func 90) #[] #[.pointer (some ⟨gb2, 0, none⟩)], .int .u16 (x.1 : Int), .int .i64 (x.2 : Int), undef, undef, undef, undef], defers := [] }) ?assign ?body ?done ?stop
  case assign =>
    intro l x W K hK
    unfold encState
    gi_wp2
    exact hK
  case body =>
    rintro l pre x W ⟨hv, hbs, hB⟩ hlt
    have hc := hv.cell
    have hfz := hv.frozen
    have BS2 := Aside0.mk hbs
    have HV := Aside0.mk hv
    have HB6 := Aside0.mk hB
    have HL := Aside0.mk (leastOf_snoc l0_2.length pre x)
    clear hbs hv hB
    generalize leastOf l0_2.length pre = m at *
    have hst : ∀ v, KeepsOthers W (W.setCell ⟨gl, 0, none⟩ v) ∧ KpS w.heap.size gb2 W (W.setCell ⟨gl, 0, none⟩ v) ∧ (W.setCell ⟨gl, 0, none⟩ v).heap[gb2]? = W.heap[gb2]? ∧ Below w.heap.size w (W.setCell ⟨gl, 0, none⟩ v) :=
      fun v => ⟨KeepsOthers.setCell _ _ _, ⟨(Below.refl _ W).setCell (p := ⟨gl, 0, none⟩) hnl _, Below.heap_setCell _ _ _ _ hne2⟩, Below.heap_setCell _ _ _ _ hne2, HB6.out.setCell (p := ⟨gl, 0, none⟩) hnl _⟩
    have HST := Aside0.mk hst
    clear hst
    by_cases hle : m ≤ x.2
    · have hlez : (m : Int) ≤ (x.2 : Int) := by omega
      gi_wp2
      exact ⟨(HST.out _).1, (HST.out _).2.1, by rw [HL.out, Nat.min_eq_left hle]; exact HV.out.set _, (HST.out _).2.2.1.trans BS2.out, (HST.out _).2.2.2⟩
    · have hlez : ¬ (m : Int) ≤ (x.2 : Int) := by omega
      have hltz : (x.2 : Int) < (m : Int) := by omega
      gi_wp2
      exact ⟨(HST.out _).1, (HST.out _).2.1, by rw [HL.out, Nat.min_eq_right (by omega)]; exact HV.out.set _, (HST.out _).2.2.1.trans BS2.out, (HST.out _).2.2.2⟩
  case done =>
    rintro D ys W hD rfl ⟨hv, hbs, hB⟩ hK
    have hc := hv.cell
    have HB6 := Aside0.mk hB
    have HK := Aside0.mk hK
    have HD := Aside0.mk hD
    clear hv hB hK hD hbs
    go_wp2
    refine ⟨by simp, .inl ⟨_, _, rfl, run_takeDeferred HK.out, ?_⟩⟩
    exact ⟨.tuple #[.int .i64 (leastOf l0_2.length (statesL l0_0 l0_2) : Nat), .int .i64 0], by simp [results, Try.results38, go_sem], rfl, HB6.out.trans (belowK_b (w := w) (Nat.le_refl _) W D _ _ (by have := HD.out; have := HB5.out.size; omega) HK.out rfl rfl)⟩
  case stop =>
    rintro D c pre W _ _ h _
    exact h.elim
end Go.Proofs.Ytkkmfcdikkiodaa.PC4
namespace Go.Proofs.Ytkkmfcdikkiodaa.PC4
set_option linter.unusedVariables false
open Go.RowKit Go.Proofs.YtkkmfcdikkiodaaW.PrintWords Go.Proofs.YtkkmfcdikkiodaaW.PrintLast Go.Proofs.YtkkmfcdikkiodaaW.PrintMore
def feedX (s x : Int) : Int := Go.bits .xor .u64 s (IntKind.u64.wrap (IntKind.u64.wrap x * 15485907386658061715))
def feedAll (l : List Int) : Int := l.foldl (fun s x => feedN (feedX s x)) 88172645463325252
def swarfkit_FeedOf.f (l0 : List Int) : Option (Int) := if l0.length ≤ 140737488351232 then some (feedAll l0) else none
structure FeedNew (w0 w W : World) (g : Nat) (x : Int) : Prop where
  is : IsS79 w0 W g x
  be : Below w0.heap.size w0 W
  bw : Below w.heap.size w W
  ge : w.heap.size ≤ g
theorem FeedNew.next {w0 w W : World} {g : Nat} {x : Int} (h : FeedNew w0 w W g x) (y : Int) : FeedNew w0 w (W.setCell ⟨g, 0, none⟩ (.int .u64 y)) g y :=
  ⟨h.is.set_0 y, below_set h.be h.is.ge, below_set h.bw h.ge, h.ge⟩
theorem FeedNew.drew {w0 w W : World} {g : Nat} {x : Int} (h : FeedNew w0 w W g x) : FeedNew w0 w W.drew g x := ⟨h.is.drew, h.be.drew, h.bw.drew, h.ge⟩
theorem below_next {w0 w w1 w2 : World} {g : Nat} (hb : Below w.heap.size w w1) (h1 : Below w0.heap.size w0 w1) (h2 : Below w0.heap.size w0 w2) (hk : KeepBut w1 w2 g none) (hg : w.heap.size ≤ g) : Below w.heap.size w w2 :=
  ⟨(h2.os.trans h1.os.symm).trans hb.os, (h2.tape.trans h1.tape.symm).trans hb.tape, (h2.output.trans h1.output.symm).trans hb.output, Nat.le_trans hb.size hk.1,
    fun k hlt => (hk.2 k (Nat.lt_of_lt_of_le hlt hb.size) (by omega) (by simp)).trans (hb.block k hlt)⟩
theorem feedAll_step (l : List Int) (i : Nat) (h : i < l.length) : feedAll (l.take (i + 1)) = feedN (feedX (feedAll (l.take i)) (rd l (i : Int))) := by
  unfold feedAll
  rw [List.take_succ_eq_append_getElem h, List.foldl_append]
  simp [rd, List.getD, h]
set_option maxHeartbeats 4000000 in
set_option maxRecDepth 100000 in
theorem swarfkit_FeedOf.calls (A0 : Option Addr) (c0 : Nat) (l0 : List Int) (r : Int) (w0 w : World) (hB : Below w0.heap.size w0 w) (hr0 : Kd.C (Kd.int .i64) w0 A0 l0.length l0) (hc0 : l0.length ≤ c0) (h : swarfkit_FeedOf.f l0 = some r) :
    Calls Try.prog 18 #[.slice A0 l0.length c0] w fun e w' => ∃ g_ : Nat, e = .returned (.pointer (some ⟨g_, 0, none⟩)) ∧ IsS79 w0 w' g_ r ∧ Below w0.heap.size w0 w' ∧ Below w.heap.size w w' := by
  simp only [swarfkit_FeedOf.f] at h
  by_cases hl : l0.length ≤ 140737488351232
  case neg => rw [if_neg hl] at h; cases h
  rw [if_pos hl] at h
  obtain rfl := Option.some.inj h
  clear h
  have hu79 := Try.underlying79
  have HB := Aside0.mk hB
  have HR0 := Aside0.mk hr0
  clear hB hr0
  go_enter Try.func18, Try.ntmps18
  go_wp2
  have F := Aside0.mk (FeedNew.mk (IsS79.new w0 w (88172645463325252) HB.out) (below_alloc HB.out _) (below_alloc (Below.refl _ _) _) (Nat.le_refl _))
  go_loopw [4] (fun i wr => ∃ k : Nat, k ≤ l0.length ∧ i = .int .i64 k ∧ Aside0 (FeedNew w0 w wr w.heap.size (feedAll (l0.take k)))) (fun i _ => l0.length - (intOf i).toNat)
  case atStart => exact ⟨0, Nat.zero_le _, rfl, F⟩
  case round =>
    clear F
    obtain ⟨k, hk, rfl, F⟩ := hrel
    have hcell := (blk_cell F.out.is.1 0).trans rfl
    have hfree := blk_frozen F.out.is.1 0
    by_cases hlt : k < l0.length
    · have hlz : (k : Int) < (l0.length : Int) := by omega
      obtain ⟨ad, e, hx⟩ := Kd.at_int HR0.out (k : Int) (by omega) hlz
      cases e
      rw [Int.toNat_natCast] at hx
      replace hx := (F.out.be.cell (World.block_lt_of_cell? w0 _ hx)).trans hx
      have HF := Aside0.mk (feedAll_step l0 k hlt)
      generalize feedAll (l0.take k) = s at *
      generalize rd l0 (k : Int) = x at *
      go_wp2
      go_region
      clear hcell hfree hx
      have F1 := Aside0.mk (F.out.next (feedX s x)).drew
      generalize hx1 : bits BinOp.xor IntKind.u64 s (IntKind.u64.wrap (IntKind.u64.wrap x * 15485907386658061715)) = x1
      have hy1 : feedX s x = x1 := hx1
      rw [hy1] at F1 HF
      generalize hw1 : (wr.setCell ⟨w.heap.size, 0, none⟩ (.int .u64 x1)).drew = w1
      rw [hw1] at F1
      clear hx1 hw1 hy1 F
      have HC := Aside0.mk (swarfkit_Feed_next.calls w.heap.size x1 (feedM (feedN x1)) (feedN x1) w0 w1 F1.out.is F1.out.be rfl)
      go_wp2_with (go_at_call 56; refine HC.out.mono ?_; rintro e w2 ⟨rfl, hI2, hB2, hK2⟩; have F2 := Aside0.mk (FeedNew.mk hI2 hB2 (below_next F1.out.bw F1.out.be hB2 hK2 F1.out.ge) F1.out.ge); clear hI2 hB2 hK2 HC)
      go_roundw
      case rel => exact ⟨k + 1, by omega, by go_num, by rw [HF.out]; exact F2⟩
      case measure => simp [intOf]; omega
    · have : k = l0.length := by omega
      subst this
      go_wp2
      go_ret
      rw [List.take_length] at F
      exact ⟨_, rfl, F.out.is, F.out.be, F.out.bw⟩
end Go.Proofs.Ytkkmfcdikkiodaa.PC4
