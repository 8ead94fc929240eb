/- Lemmas on the way to this: The order of Work keeps all rules, has all that is left to do and nothing else, and no order is quicker, nor as quick and comes before: for every list of numbers of the size that Go can hold. -/
import Derived.Test.YtkkmfcdikkiodaaCStripWorked1
import Derived.Test.YtkkmfcdikkiodaaCStripWorked2
import Derived.Test.YtkkmfcdikkiodaaCStripWorked4
import Derived.Test.YtkkmfcdikkiodaaCStripWorked3
namespace Go.Proofs.Ytkkmfcdikkiodaa.PC4
open Go.RowKit Go.Proofs.YtkkmfcdikkiodaaW.PrintWords Go.Proofs.YtkkmfcdikkiodaaW.PrintLast Go.Proofs.YtkkmfcdikkiodaaW.PrintMore
attribute [local go_sem] max2_int min2_int max_two min_two max_three min_three max_four min_four
set_option linter.unusedVariables false
set_option linter.unusedSimpArgs false
mutual
def swarfref04_ToDo.l0 : Nat → List Int → List Bool → Int → List (S50) → Int → List (S61) → Int → List Int → Option (List Bool)
 | 0, _, _, _, _, _, _, _, _ => none
 | k + 1, x1, x5, x6, x406000, x406001, x406002, x406003, x406004 => if x6 ≥ 0 then (if 0 ≤ x6 then (if x6 < (x5.length : Int) then (if rdOf false x5 x6 = true then (if x6 < (x1.length : Int) then (swarfref04_ToDo.j1 k x1 (x5.set (x6 : Int).toNat ((rd x1 x6) != 1)) x6 x406000 x406001 x406002 x406003 x406004) else (none)) else (if x6 < (x406000.length : Int) then (if (rd_T50 x406000 x6).f1 = true then (if x6 < (x1.length : Int) then (swarfref04_ToDo.j1 k x1 (x5.set (x6 : Int).toNat ((rd x1 x6) != 1)) x6 x406000 x406001 x406002 x406003 x406004) else (none)) else (swarfref04_ToDo.j1 k x1 (x5.set (x6 : Int).toNat false) x6 x406000 x406001 x406002 x406003 x406004)) else (none))) else (none)) else (none)) else (some x5)
def swarfref04_ToDo.j1 : Nat → List Int → List Bool → Int → List (S50) → Int → List (S61) → Int → List Int → Option (List Bool)
 | 0, _, _, _, _, _, _, _, _ => none
 | k + 1, x1, x5, x6, x406000, x406001, x406002, x406003, x406004 => swarfref04_ToDo.l1 k x1 x5 x6 0 x406000 x406001 x406002 x406003 x406004
def swarfref04_ToDo.l1 : Nat → List Int → List Bool → Int → Int → List (S50) → Int → List (S61) → Int → List Int → Option (List Bool)
 | 0, _, _, _, _, _, _, _, _, _ => none
 | k + 1, x1, x5, x6, x7, x406000, x406001, x406002, x406003, x406004 => if 0 ≤ x6 then (if x6 < (x406000.length : Int) then (if x7 < (((rd_T50 x406000 x6).f0).length : Int) then (if x6 < (x5.length : Int) then (if rdOf false x5 x6 = true then (if 0 ≤ x7 then (if 0 ≤ (rd ((rd_T50 x406000 x6).f0) x7) then (if (rd ((rd_T50 x406000 x6).f0) x7) < (x5.length : Int) then (swarfref04_ToDo.l1 k x1 (x5.set ((rd ((rd_T50 x406000 x6).f0) x7) : Int).toNat true) x6 (wrap64 (x7 + 1)) x406000 x406001 x406002 x406003 x406004) else (none)) else (none)) else (none)) else (swarfref04_ToDo.l0 k x1 x5 (wrap64 (x6 - 1)) x406000 x406001 x406002 x406003 x406004)) else (none)) else (swarfref04_ToDo.l0 k x1 x5 (wrap64 (x6 - 1)) x406000 x406001 x406002 x406003 x406004)) else (none)) else (none)
end
def swarfref04_ToDo.f (k : Nat) (l0_0 : List (S50)) (a0_1 : Int) (l0_2 : List (S61)) (a0_3 : Int) (l0_4 : List Int) (l1 : List Int) : Option (List Bool) := if 0 ≤ (l0_0.length : Int) then (if ((l0_0.length : Int) : Int).toNat ≤ 281474976710656 then (swarfref04_ToDo.l0 k l1 (List.replicate ((l0_0.length : Int) : Int).toNat false) (wrap64 ((l0_0.length : Int) - 1)) l0_0 a0_1 l0_2 a0_3 l0_4) else (none)) else (none)
theorem swarfref04_ToDo.mono_l : ∀ k, (∀ y0 y1 y2 y3 y4 y5 y6 y7, LeO (swarfref04_ToDo.l0 k y0 y1 y2 y3 y4 y5 y6 y7) (swarfref04_ToDo.l0 (k + 1) y0 y1 y2 y3 y4 y5 y6 y7)) ∧ (∀ y0 y1 y2 y3 y4 y5 y6 y7, LeO (swarfref04_ToDo.j1 k y0 y1 y2 y3 y4 y5 y6 y7) (swarfref04_ToDo.j1 (k + 1) y0 y1 y2 y3 y4 y5 y6 y7)) ∧ (∀ y0 y1 y2 y3 y4 y5 y6 y7 y8, LeO (swarfref04_ToDo.l1 k y0 y1 y2 y3 y4 y5 y6 y7 y8) (swarfref04_ToDo.l1 (k + 1) y0 y1 y2 y3 y4 y5 y6 y7 y8))
 | 0 => ⟨fun _ _ _ _ _ _ _ _ r h => by simp [swarfref04_ToDo.l0] at h, fun _ _ _ _ _ _ _ _ r h => by simp [swarfref04_ToDo.j1] at h, fun _ _ _ _ _ _ _ _ _ r h => by simp [swarfref04_ToDo.l1] at h⟩
 | k + 1 => by
  obtain ⟨ih0, ih1, ih2⟩ := swarfref04_ToDo.mono_l k
  refine ⟨?_, ?_, ?_⟩
  ·
   intro y0 y1 y2 y3 y4 y5 y6 y7
   unfold swarfref04_ToDo.l0
   repeat' first
   | (with_reducible exact ih0 _ _ _ _ _ _ _ _)
   | (with_reducible exact ih1 _ _ _ _ _ _ _ _)
   | (with_reducible exact ih2 _ _ _ _ _ _ _ _ _)
   | (with_reducible exact LeO.refl _)
   | (with_reducible exact LeO.none _)
   | (with_reducible refine LeO.ite ?_ ?_)
   | (with_reducible refine LeO.bind ?_ (fun _ => ?_))
   | exact ih0 _ _ _ _ _ _ _ _
   | exact ih1 _ _ _ _ _ _ _ _
   | exact ih2 _ _ _ _ _ _ _ _ _
   | exact LeO.none _
   | refine LeO.ite ?_ ?_
   | refine LeO.bind ?_ (fun _ => ?_)
  ·
   intro y0 y1 y2 y3 y4 y5 y6 y7
   unfold swarfref04_ToDo.j1
   repeat' first
   | (with_reducible exact ih0 _ _ _ _ _ _ _ _)
   | (with_reducible exact ih1 _ _ _ _ _ _ _ _)
   | (with_reducible exact ih2 _ _ _ _ _ _ _ _ _)
   | (with_reducible exact LeO.refl _)
   | (with_reducible exact LeO.none _)
   | (with_reducible refine LeO.ite ?_ ?_)
   | (with_reducible refine LeO.bind ?_ (fun _ => ?_))
   | exact ih0 _ _ _ _ _ _ _ _
   | exact ih1 _ _ _ _ _ _ _ _
   | exact ih2 _ _ _ _ _ _ _ _ _
   | exact LeO.none _
   | refine LeO.ite ?_ ?_
   | refine LeO.bind ?_ (fun _ => ?_)
  ·
   intro y0 y1 y2 y3 y4 y5 y6 y7 y8
   unfold swarfref04_ToDo.l1
   repeat' first
   | (with_reducible exact ih0 _ _ _ _ _ _ _ _)
   | (with_reducible exact ih1 _ _ _ _ _ _ _ _)
   | (with_reducible exact ih2 _ _ _ _ _ _ _ _ _)
   | (with_reducible exact LeO.refl _)
   | (with_reducible exact LeO.none _)
   | (with_reducible refine LeO.ite ?_ ?_)
   | (with_reducible refine LeO.bind ?_ (fun _ => ?_))
   | exact ih0 _ _ _ _ _ _ _ _
   | exact ih1 _ _ _ _ _ _ _ _
   | exact ih2 _ _ _ _ _ _ _ _ _
   | exact LeO.none _
   | refine LeO.ite ?_ ?_
   | refine LeO.bind ?_ (fun _ => ?_)
theorem swarfref04_ToDo.mono : ∀ a0 a1 a2 a3 a4 a5 k, LeO (swarfref04_ToDo.f k a0 a1 a2 a3 a4 a5) (swarfref04_ToDo.f (k + 1) a0 a1 a2 a3 a4 a5) := by
 intro a0 a1 a2 a3 a4 a5 k
 obtain ⟨ih0, ih1, ih2⟩ := swarfref04_ToDo.mono_l k
 unfold swarfref04_ToDo.f
 repeat' first
   | (with_reducible exact ih0 _ _ _ _ _ _ _ _)
   | (with_reducible exact ih1 _ _ _ _ _ _ _ _)
   | (with_reducible exact ih2 _ _ _ _ _ _ _ _ _)
   | (with_reducible exact LeO.refl _)
   | (with_reducible exact LeO.none _)
   | (with_reducible refine LeO.ite ?_ ?_)
   | (with_reducible refine LeO.bind ?_ (fun _ => ?_))
   | exact ih0 _ _ _ _ _ _ _ _
   | exact ih1 _ _ _ _ _ _ _ _
   | exact ih2 _ _ _ _ _ _ _ _ _
   | exact LeO.none _
   | refine LeO.ite ?_ ?_
   | refine LeO.bind ?_ (fun _ => ?_)
set_option maxHeartbeats 8000000 in
set_option maxRecDepth 100000 in
theorem swarfref04_ToDo.calls (k : Nat) (A0_0 : Option Addr) (c0_0 : Nat) (l0_0 : List (S50)) (a0_1 : Int) (A0_2 : Option Addr) (c0_2 : Nat) (l0_2 : List (S61)) (a0_3 : Int) (A0_4 : Option Addr) (c0_4 : Nat) (l0_4 : List Int) (A1 : Option Addr) (c1 : Nat) (l1 : List Int) (r : List Bool) (w : World) (hr0_0 : Kd.C k50 w A0_0 l0_0.length l0_0) (hc0_0 : l0_0.length ≤ c0_0) (hr0_2 : Kd.C k61 w A0_2 l0_2.length l0_2) (hc0_2 : l0_2.length ≤ c0_2) (hr0_4 : Kd.C (Kd.int .i64) w A0_4 l0_4.length l0_4) (hc0_4 : l0_4.length ≤ c0_4) (hr1 : Kd.C (Kd.int .i64) w A1 l1.length l1) (hc1 : l1.length ≤ c1) (h : swarfref04_ToDo.f k l0_0 a0_1 l0_2 a0_3 l0_4 l1 = some r) :
  Calls Try.prog 34 #[.agg #[.slice A0_0 l0_0.length c0_0, .int .i64 a0_1, .slice A0_2 l0_2.length c0_2, .int .i64 a0_3, .slice A0_4 l0_4.length c0_4], .slice A1 l1.length c1] w fun e w' => ∃ v0_ : Value, e = .returned (v0_) ∧ Kd.R Kd.bool 4 w' w.heap.size (fun _ => True) v0_ r ∧ Below w.heap.size w w' := by
 have hu26 := Try.underlying26
 have HR0_0 := Aside0.mk hr0_0
 have HC0_0 := Aside0.mk hc0_0
 clear hr0_0 hc0_0
 have HR0_2 := Aside0.mk hr0_2
 have HC0_2 := Aside0.mk hc0_2
 clear hr0_2 hc0_2
 have HR0_4 := Aside0.mk hr0_4
 have HC0_4 := Aside0.mk hc0_4
 clear hr0_4 hc0_4
 have HR1 := Aside0.mk hr1
 have HC1 := Aside0.mk hc1
 clear hr1 hc1
 have HB := Aside0.mk (Below.refl w.heap.size w)
 have H : (if 0 ≤ (l0_0.length : Int) then (if ((l0_0.length : Int) : Int).toNat ≤ 281474976710656 then (swarfref04_ToDo.l0 k l1 (List.replicate ((l0_0.length : Int) : Int).toNat false) (wrap64 ((l0_0.length : Int) - 1)) l0_0 a0_1 l0_2 a0_3 l0_4) else (none)) else (none)) = some r := h
 clear h
 by_cases c3 : 0 ≤ (l0_0.length : Int)
 ·
  rw [if_pos c3] at H
  have c3b0 := eq_true c3
  have c3b1 : decide (0 ≤ (l0_0.length : Int)) = true := decide_eq_true c3
  clear c3
  by_cases c4 : ((l0_0.length : Int) : Int).toNat ≤ 281474976710656
  ·
   rw [if_pos c4] at H
   have c4b0 := eq_true c4
   have c4b1 : decide (((l0_0.length : Int) : Int).toNat ≤ 281474976710656) = true := decide_eq_true c4
   clear c4
   obtain ⟨y406, hy406⟩ : ∃ y_ : List Bool, y_ = (List.replicate ((l0_0.length : Int) : Int).toNat false) := ⟨_, rfl⟩
   replace H : (swarfref04_ToDo.l0 k l1 y406 (wrap64 ((l0_0.length : Int) - 1)) l0_0 a0_1 l0_2 a0_3 l0_4) = some r := by first | (rw [hy406]; with_reducible exact H) | (have H2_ := (Option.bind_some _ _).symm.trans H; rw [hy406]; with_reducible exact H2_) | (have H2_ := (Option.bind_some _ _).symm.trans H; with_reducible exact H2_) | with_reducible exact H | (rw [hy406]; exact H) | exact H
   have Ny406 := Aside0.mk hy406
   clear hy406
   have H' := Aside0.mk H
   clear H
   go_enter Try.func34, Try.ntmps34
   go_wp2_with (first | ((with_reducible refine gate_dst (N := 2) rfl ?_); refine box_event ?hg (N := 2) ?hd (cs := #[.slice A0_0 l0_0.length c0_0, .int .i64 a0_1, .slice A0_2 l0_2.length c0_2, .int .i64 a0_3, .slice A0_4 l0_4.length c0_4]) (t := 26) ?hr ?_; (case hd => rfl); (case hg => rfl); (case hr => first | (go_simp; done) | (go_simp; rfl)); intro gb405 hg w5 hbox hb; have n0_ := Aside0.mk (below_step (below_x HB.out) hb); have n1_ := Aside0.mk (hbox); have n2_ := Aside0.mk ((by rw [hg]; exact (below_size (below_x HB.out)) : w.heap.size ≤ gb405)); have n3_ := Aside0.mk ((by rw [hg]; exact (below_size (below_x HB.out)) : w.heap.size ≤ gb405)); clear HB; have HB := n0_; have BK405 := n1_; have GW405 := n2_; have GE405 := n3_; clear n0_ n1_ n2_ n3_; clear hb hbox hg; have hcz6_0 : w5.cell? ⟨gb405, 0, none⟩ = some (.slice A0_0 l0_0.length c0_0) := (blk_cell BK405.out 0).trans rfl; have hcz6_1 : w5.cell? ⟨gb405, 1, none⟩ = some (.int .i64 a0_1) := (blk_cell BK405.out 1).trans rfl; have hcz6_2 : w5.cell? ⟨gb405, 2, none⟩ = some (.slice A0_2 l0_2.length c0_2) := (blk_cell BK405.out 2).trans rfl; have hcz6_3 : w5.cell? ⟨gb405, 3, none⟩ = some (.int .i64 a0_3) := (blk_cell BK405.out 3).trans rfl; have hcz6_4 : w5.cell? ⟨gb405, 4, none⟩ = some (.slice A0_4 l0_4.length c0_4) := (blk_cell BK405.out 4).trans rfl; have hfz6_0 := blk_frozen BK405.out 0; have hfz6_1 := blk_frozen BK405.out 1; have hfz6_2 := blk_frozen BK405.out 2; have hfz6_3 := blk_frozen BK405.out 3; have hfz6_4 := blk_frozen BK405.out 4) | ((with_reducible refine gate_dst (N := 11) rfl ?_); refine Kd.R_make Kd.bool _ 4 rfl (N := 11) rfl 31 _ _ rfl (l0_0.length : Int) rfl rfl Try.underlying31 (.bool false) 1 info4 rfl (by decide) (by omega) false (ok := fun _ => True) (okp := fun _ => True) rfl (fun _ hk => hk) trivial (of_decide_eq_true (by first | (with_reducible assumption) | assumption)) (Nat.le_trans (Nat.mul_le_mul_right _ (of_decide_eq_true (by first | (with_reducible assumption) | assumption) : (l0_0.length : Int).toNat ≤ 281474976710656)) (by omega)) (Below.refl _ _) (Nat.le_refl _) ?_; intro v407 w7 ho8 hb hg_ hnew_; clear hg_ hnew_; (first | rw [← Ny406.out] at ho8 | (simp only [Int.reduceToNat] at ho8; rw [← Ny406.out] at ho8)); have n0_ := Aside0.mk (Kd.R_lower ho8 (below_size (by repeat (first | (with_reducible first | exact HB.out | apply below_alloc | apply pw_below_drewN | apply below_drew1 | refine below_set ?_ GE405.out) | exact HB.out)))); have n1_ := Aside0.mk (blk_below (g := gb405) (o := .cells #[.slice A0_0 l0_0.length c0_0, .int .i64 a0_1, .slice A0_2 l0_2.length c0_2, .int .i64 a0_3, .slice A0_4 l0_4.length c0_4] 26 (0, 0)) (blk_x BK405.out) hb); have n2_ := Aside0.mk (below_step (by repeat (first | (with_reducible first | exact HB.out | apply below_alloc | apply pw_below_drewN | apply below_drew1 | refine below_set ?_ GE405.out) | exact HB.out)) hb); clear BK405; clear HB; have HO408 := n0_; have BK405 := n1_; have HB := n2_; clear n0_ n1_ n2_; clear hb ho8; have hcz9_0 : w7.cell? ⟨gb405, 0, none⟩ = some (.slice A0_0 l0_0.length c0_0) := (blk_cell BK405.out 0).trans rfl; have hcz9_1 : w7.cell? ⟨gb405, 1, none⟩ = some (.int .i64 a0_1) := (blk_cell BK405.out 1).trans rfl; have hcz9_2 : w7.cell? ⟨gb405, 2, none⟩ = some (.slice A0_2 l0_2.length c0_2) := (blk_cell BK405.out 2).trans rfl; have hcz9_3 : w7.cell? ⟨gb405, 3, none⟩ = some (.int .i64 a0_3) := (blk_cell BK405.out 3).trans rfl; have hcz9_4 : w7.cell? ⟨gb405, 4, none⟩ = some (.slice A0_4 l0_4.length c0_4) := (blk_cell BK405.out 4).trans rfl; have hfz9_0 := blk_frozen BK405.out 0; have hfz9_1 := blk_frozen BK405.out 1; have hfz9_2 := blk_frozen BK405.out 2; have hfz9_3 := blk_frozen BK405.out 3; have hfz9_4 := blk_frozen BK405.out 4))
   go_loopg [6] k (fun kq v6 w' => ∃ (x5_1 : List Bool) (x6_1 : Int), v6 = .int .i64 x6_1 ∧ Aside0 (swarfref04_ToDo.l0 kq l1 x5_1 x6_1 l0_0 a0_1 l0_2 a0_3 l0_4 = some r) ∧ Aside0 (kq ≤ k) ∧ Aside0 (Kd.R Kd.bool 4 w' w.heap.size (fun _ => True) v407 x5_1) ∧ Aside0 (w'.heap[gb405]? = some (.cells #[(.slice A0_0 l0_0.length c0_0), .int .i64 a0_1, (.slice A0_2 l0_2.length c0_2), .int .i64 a0_3, (.slice A0_4 l0_4.length c0_4)] 26 (0, 0))) ∧ Aside0 (Below w.heap.size w w'))
   case atStart => exact ⟨(y406), (wrap64 ((l0_0.length : Int) - 1)), (by first | rfl | (simp; done) | (simp [*]; done)), H', ⟨Nat.le_refl _⟩, ⟨by (with_reducible repeat (first | apply Kd.R_alloc | apply Kd.R_drewN | apply Kd.R_drew)); exact HO408.out⟩, ⟨by (with_reducible repeat (first | refine blk_drewN ?_ _ | refine blk_drew ?_ | refine blk_alloc ?_ _)); exact BK405.out⟩, ⟨by repeat (first | (with_reducible first | exact HB.out | apply below_alloc | apply pw_below_drewN | apply below_drew1 | refine below_set ?_ GE405.out) | exact HB.out)⟩⟩
   case round =>
    clear H'
    try clear c1
    try clear p2
    try clear c3
    try clear c3b0
    try clear c3b1
    try clear c4
    try clear c4b0
    try clear c4b1
    try clear p6
    try clear hcz6_0
    try clear hcz6_1
    try clear hcz6_2
    try clear hcz6_3
    try clear hcz6_4
    try clear hcz9_0
    try clear hcz9_1
    try clear hcz9_2
    try clear hcz9_3
    try clear hcz9_4
    try clear hfz6_0
    try clear hfz6_1
    try clear hfz6_2
    try clear hfz6_3
    try clear hfz6_4
    try clear hfz9_0
    try clear hfz9_1
    try clear hfz9_2
    try clear hfz9_3
    try clear hfz9_4
    obtain ⟨x5_1, x6_1, rfl, HA, HK1, HO_5, BK405, HB⟩ := hrel
    cases gk with
    | zero => exact absurd HA.out (by simp [swarfref04_ToDo.l0])
    | succ k1 =>
     have H := HA.out
     clear HA
     simp only [swarfref04_ToDo.l0] at H
     by_cases c10 : x6_1 ≥ 0
     ·
      rw [if_pos c10] at H
      have c10b0 : decide (0 ≤ x6_1) = true := decide_eq_true c10
      clear c10
      have HC11 := Aside0.mk H
      clear H
      go_upto_region 5 with (fail)
      go_cut [] (fun wc => ∃ (kq : Nat) (x5_10 : List Bool), Aside0 (swarfref04_ToDo.j1 kq l1 x5_10 x6_1 l0_0 a0_1 l0_2 a0_3 l0_4 = some r) ∧ Aside0 (kq ≤ k1) ∧ Aside0 (Kd.R Kd.bool 4 wc w.heap.size (fun _ => True) v407 x5_10) ∧ Aside0 (wc.heap[gb405]? = some (.cells #[(.slice A0_0 l0_0.length c0_0), .int .i64 a0_1, (.slice A0_2 l0_2.length c0_2), .int .i64 a0_3, (.slice A0_4 l0_4.length c0_4)] 26 (0, 0))) ∧ Aside0 (Below w.heap.size w wc))
      case first =>
       have H := HC11.out
       clear HC11
       by_cases c12 : 0 ≤ x6_1
       ·
        rw [if_pos c12] at H
        have c12b0 : decide (0 ≤ x6_1) = true := decide_eq_true c12
        clear c12
        (first | rw [c12b0] | (simp only [i64_w, i32_w]; rw [c12b0]) | skip)
        by_cases c13 : x6_1 < (x5_1.length : Int)
        ·
         rw [if_pos c13] at H
         have c13b0 : decide (x6_1 < (x5_1.length : Int)) = true := decide_eq_true c13
         clear c13
         obtain ⟨bq14, hbq14⟩ : ∃ b_ : Bool, b_ = (rdOf false x5_1 x6_1) := ⟨_, rfl⟩
         replace H : (if bq14 = true then (if x6_1 < (l1.length : Int) then (swarfref04_ToDo.j1 k1 l1 (x5_1.set (x6_1 : Int).toNat ((rd l1 x6_1) != 1)) x6_1 l0_0 a0_1 l0_2 a0_3 l0_4) else (none)) else (if x6_1 < (l0_0.length : Int) then (if (rd_T50 l0_0 x6_1).f1 = true then (if x6_1 < (l1.length : Int) then (swarfref04_ToDo.j1 k1 l1 (x5_1.set (x6_1 : Int).toNat ((rd l1 x6_1) != 1)) x6_1 l0_0 a0_1 l0_2 a0_3 l0_4) else (none)) else (swarfref04_ToDo.j1 k1 l1 (x5_1.set (x6_1 : Int).toNat false) x6_1 l0_0 a0_1 l0_2 a0_3 l0_4)) else (none))) = some r := by rw [← hbq14] at H; exact H
         have Nbq14 := Aside0.mk hbq14
         clear hbq14
         by_cases c15 : bq14 = true
         ·
          subst c15
          have H1 : (if x6_1 < (l1.length : Int) then (swarfref04_ToDo.j1 k1 l1 (x5_1.set (x6_1 : Int).toNat ((rd l1 x6_1) != 1)) x6_1 l0_0 a0_1 l0_2 a0_3 l0_4) else (none)) = some r := by rw [if_pos rfl] at H; exact H
          clear H
          have H := H1
          clear H1
          by_cases c16 : x6_1 < (l1.length : Int)
          ·
           rw [if_pos c16] at H
           have c16b0 : decide (x6_1 < (l1.length : Int)) = true := decide_eq_true c16
           clear c16
           obtain ⟨y411, hy411⟩ : ∃ y_ : List Bool, y_ = (x5_1.set (x6_1 : Int).toNat ((rd l1 x6_1) != 1)) := ⟨_, rfl⟩
           replace H : (swarfref04_ToDo.j1 k1 l1 y411 x6_1 l0_0 a0_1 l0_2 a0_3 l0_4) = some r := by first | (rw [hy411]; with_reducible exact H) | (have H2_ := (Option.bind_some _ _).symm.trans H; rw [hy411]; with_reducible exact H2_) | (have H2_ := (Option.bind_some _ _).symm.trans H; with_reducible exact H2_) | with_reducible exact H | (rw [hy411]; exact H) | exact H
           have Ny411 := Aside0.mk hy411
           clear hy411
           have H' := Aside0.mk H
           clear H
           obtain ⟨Ao18, co18, eo18⟩ := Kd.R_slice HO_5.out
           subst eo18
           have p409 : 0 ≤ (x6_1 : Int) := of_decide_eq_true (by first | (with_reducible assumption) | assumption)
           have q409 : x6_1 < (x5_1.length : Int) := of_decide_eq_true (by first | (with_reducible assumption) | assumption)
           obtain ⟨ad409, e409, hx409_0⟩ := Kd.at_bool (Kd.R_reads' HO_5.out).2.2 x6_1 p409 q409
           (try rw [← Nbq14.out] at hx409_0)
           cases e409
           replace p409 := eq_true p409
           replace q409 := eq_true q409
           have p410 : 0 ≤ (x6_1 : Int) := of_decide_eq_true (by first | (with_reducible assumption) | assumption)
           have q410 : x6_1 < (l1.length : Int) := of_decide_eq_true (by first | (with_reducible assumption) | assumption)
           obtain ⟨ad410, e410, hx410_0⟩ := Kd.at_int HR1.out x6_1 p410 q410
           cases e410
           replace hx410_0 := (HB.out.cell (World.block_lt_of_cell? w _ hx410_0)).trans hx410_0
           replace p410 := eq_true p410
           replace q410 := eq_true q410
           have p17 : 0 ≤ (x6_1 : Int) := of_decide_eq_true (by first | (with_reducible assumption) | assumption)
           have q17 : (x6_1 : Int) < ((x5_1.length : Int) : Int) := of_decide_eq_true (by first | (with_reducible assumption) | assumption)
           obtain ⟨go17, co17, eo17, gb17, gl17, cl17, HG17⟩ := Kd.R_form HO_5.out (by omega)
           (first | cases eo17 | (injection eo17 with ea_ en_ ec_; (first | subst ea_ | (injection ea_ with ea_; subst ea_)); subst ec_; clear en_))
           have GB17 := Aside0.mk gb17
           have GG17 := Aside0.mk HG17
           clear gb17 gl17 HG17
           (first | simp only [add_plain] at hx409_0 | skip)
           obtain ⟨hx17_0, hf17_0⟩ := Kd.R_celln false HO_5.out (x6_1 : Int) p17 q17
           replace p17 := eq_true p17
           replace q17 := eq_true q17
           have HP19 := Kd.R_putg HO_5.out (x6_1 : Int) ((rd l1 x6_1) != 1)
           go_wp2_with (first | ((with_reducible refine gate_store (t := 4) (p := 41) rfl ?_); refine store_event (t := 4) (p := 41) (v := ?vo_w20) (w1 := (wr.setCell ⟨go17, (x6_1 : Int).toNat, none⟩ (.bool ((rd l1 x6_1) != 1)))) ?hg ?ho ?hn ?hr ?_; (case ho => rfl); (case hg => rfl); (case hn => rfl); (case hr => first | (go_simp; done) | (go_simp; rfl)); intro w20 hw; have hg : wr.grownBy w20 (some go17) := (by rw [hw]; exact HP19.2); have hp_ : Kd.R Kd.bool 4 w20 w.heap.size (fun _ => True) (.slice (some ⟨go17, 0, none⟩) x5_1.length co18) y411 := (by rw [hw, Ny411.out]; exact HP19.1); clear HP19; have n0_ := Aside0.mk (hp_); have n1_ := Aside0.mk (blk_grown (g := gb405) (o := .cells #[.slice A0_0 l0_0.length c0_0, .int .i64 a0_1, .slice A0_2 l0_2.length c0_2, .int .i64 a0_3, .slice A0_4 l0_4.length c0_4] 26 (0, 0)) (blk_x BK405.out) hg (Kd.R_ne HO_5.out BK405.out (by decide))); have n2_ := Aside0.mk ((by rw [hw]; exact below_set (HB.out) GB17.out : Below w.heap.size w w20)); clear HO_5; clear BK405; clear HB; have HO_5 := n0_; have BK405 := n1_; have HB := n2_; clear n0_ n1_ n2_; clear hg hw hp_))
           go_meet
           case rel => exact ⟨_, (y411), H', ⟨by have := HK1.out; first | omega | exact Nat.le_refl _⟩, ⟨by (with_reducible repeat (first | apply Kd.R_alloc | apply Kd.R_drewN | apply Kd.R_drew)); exact HO_5.out⟩, ⟨by (with_reducible repeat (first | refine blk_drewN ?_ _ | refine blk_drew ?_ | refine blk_alloc ?_ _)); exact BK405.out⟩, ⟨by repeat (first | (with_reducible first | exact HB.out | apply below_alloc | apply pw_below_drewN | apply below_drew1 | refine below_set ?_ GE405.out) | exact HB.out)⟩⟩
          ·
           rw [if_neg c16] at H
           exact absurd H (by simp)
         ·
          replace c15 := Bool.eq_false_iff.mpr c15
          subst c15
          have H1 : (if x6_1 < (l0_0.length : Int) then (if (rd_T50 l0_0 x6_1).f1 = true then (if x6_1 < (l1.length : Int) then (swarfref04_ToDo.j1 k1 l1 (x5_1.set (x6_1 : Int).toNat ((rd l1 x6_1) != 1)) x6_1 l0_0 a0_1 l0_2 a0_3 l0_4) else (none)) else (swarfref04_ToDo.j1 k1 l1 (x5_1.set (x6_1 : Int).toNat false) x6_1 l0_0 a0_1 l0_2 a0_3 l0_4)) else (none)) = some r := by rw [if_neg (show ¬ (false = true) by decide)] at H; exact H
          clear H
          have H := H1
          clear H1
          by_cases c21 : x6_1 < (l0_0.length : Int)
          ·
           rw [if_pos c21] at H
           have c21b0 : decide (x6_1 < (l0_0.length : Int)) = true := decide_eq_true c21
           clear c21
           obtain ⟨bq22, hbq22⟩ : ∃ b_ : Bool, b_ = ((rd_T50 l0_0 x6_1).f1) := ⟨_, rfl⟩
           replace H : (if bq22 = true then (if x6_1 < (l1.length : Int) then (swarfref04_ToDo.j1 k1 l1 (x5_1.set (x6_1 : Int).toNat ((rd l1 x6_1) != 1)) x6_1 l0_0 a0_1 l0_2 a0_3 l0_4) else (none)) else (swarfref04_ToDo.j1 k1 l1 (x5_1.set (x6_1 : Int).toNat false) x6_1 l0_0 a0_1 l0_2 a0_3 l0_4)) = some r := by rw [← hbq22] at H; exact H
           have Nbq22 := Aside0.mk hbq22
           clear hbq22
           by_cases c23 : bq22 = true
           ·
            subst c23
            have H1 : (if x6_1 < (l1.length : Int) then (swarfref04_ToDo.j1 k1 l1 (x5_1.set (x6_1 : Int).toNat ((rd l1 x6_1) != 1)) x6_1 l0_0 a0_1 l0_2 a0_3 l0_4) else (none)) = some r := by rw [if_pos rfl] at H; exact H
            clear H
            have H := H1
            clear H1
            by_cases c24 : x6_1 < (l1.length : Int)
            ·
             rw [if_pos c24] at H
             have c24b0 : decide (x6_1 < (l1.length : Int)) = true := decide_eq_true c24
             clear c24
             obtain ⟨y414, hy414⟩ : ∃ y_ : List Bool, y_ = (x5_1.set (x6_1 : Int).toNat ((rd l1 x6_1) != 1)) := ⟨_, rfl⟩
             replace H : (swarfref04_ToDo.j1 k1 l1 y414 x6_1 l0_0 a0_1 l0_2 a0_3 l0_4) = some r := by first | (rw [hy414]; with_reducible exact H) | (have H2_ := (Option.bind_some _ _).symm.trans H; rw [hy414]; with_reducible exact H2_) | (have H2_ := (Option.bind_some _ _).symm.trans H; with_reducible exact H2_) | with_reducible exact H | (rw [hy414]; exact H) | exact H
             have Ny414 := Aside0.mk hy414
             clear hy414
             have H' := Aside0.mk H
             clear H
             obtain ⟨Ao26, co26, eo26⟩ := Kd.R_slice HO_5.out
             subst eo26
             have p409 : 0 ≤ (x6_1 : Int) := of_decide_eq_true (by first | (with_reducible assumption) | assumption)
             have q409 : x6_1 < (x5_1.length : Int) := of_decide_eq_true (by first | (with_reducible assumption) | assumption)
             obtain ⟨ad409, e409, hx409_0⟩ := Kd.at_bool (Kd.R_reads' HO_5.out).2.2 x6_1 p409 q409
             (try rw [← Nbq14.out] at hx409_0)
             (try rw [← Nbq22.out] at hx409_0)
             cases e409
             replace p409 := eq_true p409
             replace q409 := eq_true q409
             have hcz27_0 : wr.cell? ⟨gb405, 0, none⟩ = some (.slice A0_0 l0_0.length c0_0) := (blk_cell BK405.out 0).trans rfl
             have hcz27_1 : wr.cell? ⟨gb405, 1, none⟩ = some (.int .i64 a0_1) := (blk_cell BK405.out 1).trans rfl
             have hcz27_2 : wr.cell? ⟨gb405, 2, none⟩ = some (.slice A0_2 l0_2.length c0_2) := (blk_cell BK405.out 2).trans rfl
             have hcz27_3 : wr.cell? ⟨gb405, 3, none⟩ = some (.int .i64 a0_3) := (blk_cell BK405.out 3).trans rfl
             have hcz27_4 : wr.cell? ⟨gb405, 4, none⟩ = some (.slice A0_4 l0_4.length c0_4) := (blk_cell BK405.out 4).trans rfl
             have hfz27_0 := blk_frozen BK405.out 0
             have hfz27_1 := blk_frozen BK405.out 1
             have hfz27_2 := blk_frozen BK405.out 2
             have hfz27_3 := blk_frozen BK405.out 3
             have hfz27_4 := blk_frozen BK405.out 4
             have p412 : 0 ≤ (x6_1 : Int) := of_decide_eq_true (by first | (with_reducible assumption) | assumption)
             have q412 : x6_1 < (l0_0.length : Int) := of_decide_eq_true (by first | (with_reducible assumption) | assumption)
             obtain ⟨ad412, A412_0, c412_0, e412, hx412_0, hx412_1, hx412_2, hx412_3, hl412_0, hi412_0⟩ := at_T50 HR0_0.out x6_1 p412 q412
             (try rw [← Nbq14.out] at hx412_1)
             (try rw [← Nbq22.out] at hx412_1)
             cases e412
             replace hx412_0 := (HB.out.cell (World.block_lt_of_cell? w _ hx412_0)).trans hx412_0
             replace hx412_1 := (HB.out.cell (World.block_lt_of_cell? w _ hx412_1)).trans hx412_1
             replace hx412_2 := (HB.out.cell (World.block_lt_of_cell? w _ hx412_2)).trans hx412_2
             replace hx412_3 := (HB.out.cell (World.block_lt_of_cell? w _ hx412_3)).trans hx412_3
             have HR412_0 := Aside0.mk hi412_0
             have HC412_0 := Aside0.mk hl412_0
             clear hi412_0 hl412_0
             replace p412 := eq_true p412
             replace q412 := eq_true q412
             have p413 : 0 ≤ (x6_1 : Int) := of_decide_eq_true (by first | (with_reducible assumption) | assumption)
             have q413 : x6_1 < (l1.length : Int) := of_decide_eq_true (by first | (with_reducible assumption) | assumption)
             obtain ⟨ad413, e413, hx413_0⟩ := Kd.at_int HR1.out x6_1 p413 q413
             cases e413
             replace hx413_0 := (HB.out.cell (World.block_lt_of_cell? w _ hx413_0)).trans hx413_0
             replace p413 := eq_true p413
             replace q413 := eq_true q413
             have p25 : 0 ≤ (x6_1 : Int) := of_decide_eq_true (by first | (with_reducible assumption) | assumption)
             have q25 : (x6_1 : Int) < ((x5_1.length : Int) : Int) := of_decide_eq_true (by first | (with_reducible assumption) | assumption)
             obtain ⟨go25, co25, eo25, gb25, gl25, cl25, HG25⟩ := Kd.R_form HO_5.out (by omega)
             (first | cases eo25 | (injection eo25 with ea_ en_ ec_; (first | subst ea_ | (injection ea_ with ea_; subst ea_)); subst ec_; clear en_))
             have GB25 := Aside0.mk gb25
             have GG25 := Aside0.mk HG25
             clear gb25 gl25 HG25
             (first | simp only [add_plain] at hx409_0 | skip)
             obtain ⟨hx25_0, hf25_0⟩ := Kd.R_celln false HO_5.out (x6_1 : Int) p25 q25
             replace p25 := eq_true p25
             replace q25 := eq_true q25
             have HP28 := Kd.R_putg HO_5.out (x6_1 : Int) ((rd l1 x6_1) != 1)
             go_wp2_with (first | ((with_reducible refine gate_store (t := 4) (p := 41) rfl ?_); refine store_event (t := 4) (p := 41) (v := ?vo_w29) (w1 := (wr.setCell ⟨go25, (x6_1 : Int).toNat, none⟩ (.bool ((rd l1 x6_1) != 1)))) ?hg ?ho ?hn ?hr ?_; (case ho => rfl); (case hg => rfl); (case hn => rfl); (case hr => first | (go_simp; done) | (go_simp; rfl)); intro w29 hw; have hg : wr.grownBy w29 (some go25) := (by rw [hw]; exact HP28.2); have hp_ : Kd.R Kd.bool 4 w29 w.heap.size (fun _ => True) (.slice (some ⟨go25, 0, none⟩) x5_1.length co26) y414 := (by rw [hw, Ny414.out]; exact HP28.1); clear HP28; have n0_ := Aside0.mk (hp_); have n1_ := Aside0.mk (blk_grown (g := gb405) (o := .cells #[.slice (some ad412) l0_0.length c0_0, .int .i64 a0_1, .slice A0_2 l0_2.length c0_2, .int .i64 a0_3, .slice A0_4 l0_4.length c0_4] 26 (0, 0)) (blk_x BK405.out) hg (Kd.R_ne HO_5.out BK405.out (by decide))); have n2_ := Aside0.mk ((by rw [hw]; exact below_set (HB.out) GB25.out : Below w.heap.size w w29)); clear HO_5; clear BK405; clear HB; have HO_5 := n0_; have BK405 := n1_; have HB := n2_; clear n0_ n1_ n2_; clear hg hw hp_))
             go_meet
             case rel => exact ⟨_, (y414), H', ⟨by have := HK1.out; first | omega | exact Nat.le_refl _⟩, ⟨by (with_reducible repeat (first | apply Kd.R_alloc | apply Kd.R_drewN | apply Kd.R_drew)); exact HO_5.out⟩, ⟨by (with_reducible repeat (first | refine blk_drewN ?_ _ | refine blk_drew ?_ | refine blk_alloc ?_ _)); exact BK405.out⟩, ⟨by repeat (first | (with_reducible first | exact HB.out | apply below_alloc | apply pw_below_drewN | apply below_drew1 | refine below_set ?_ GE405.out) | exact HB.out)⟩⟩
            ·
             rw [if_neg c24] at H
             exact absurd H (by simp)
           ·
            replace c23 := Bool.eq_false_iff.mpr c23
            subst c23
            have H1 : (swarfref04_ToDo.j1 k1 l1 (x5_1.set (x6_1 : Int).toNat false) x6_1 l0_0 a0_1 l0_2 a0_3 l0_4) = some r := by rw [if_neg (show ¬ (false = true) by decide)] at H; exact H
            clear H
            have H := H1
            clear H1
            obtain ⟨y415, hy415⟩ : ∃ y_ : List Bool, y_ = (x5_1.set (x6_1 : Int).toNat false) := ⟨_, rfl⟩
            replace H : (swarfref04_ToDo.j1 k1 l1 y415 x6_1 l0_0 a0_1 l0_2 a0_3 l0_4) = some r := by first | (rw [hy415]; with_reducible exact H) | (have H2_ := (Option.bind_some _ _).symm.trans H; rw [hy415]; with_reducible exact H2_) | (have H2_ := (Option.bind_some _ _).symm.trans H; with_reducible exact H2_) | with_reducible exact H | (rw [hy415]; exact H) | exact H
            have Ny415 := Aside0.mk hy415
            clear hy415
            have H' := Aside0.mk H
            clear H
            obtain ⟨Ao31, co31, eo31⟩ := Kd.R_slice HO_5.out
            subst eo31
            have p409 : 0 ≤ (x6_1 : Int) := of_decide_eq_true (by first | (with_reducible assumption) | assumption)
            have q409 : x6_1 < (x5_1.length : Int) := of_decide_eq_true (by first | (with_reducible assumption) | assumption)
            obtain ⟨ad409, e409, hx409_0⟩ := Kd.at_bool (Kd.R_reads' HO_5.out).2.2 x6_1 p409 q409
            (try rw [← Nbq14.out] at hx409_0)
            (try rw [← Nbq22.out] at hx409_0)
            cases e409
            replace p409 := eq_true p409
            replace q409 := eq_true q409
            have hcz32_0 : wr.cell? ⟨gb405, 0, none⟩ = some (.slice A0_0 l0_0.length c0_0) := (blk_cell BK405.out 0).trans rfl
            have hcz32_1 : wr.cell? ⟨gb405, 1, none⟩ = some (.int .i64 a0_1) := (blk_cell BK405.out 1).trans rfl
            have hcz32_2 : wr.cell? ⟨gb405, 2, none⟩ = some (.slice A0_2 l0_2.length c0_2) := (blk_cell BK405.out 2).trans rfl
            have hcz32_3 : wr.cell? ⟨gb405, 3, none⟩ = some (.int .i64 a0_3) := (blk_cell BK405.out 3).trans rfl
            have hcz32_4 : wr.cell? ⟨gb405, 4, none⟩ = some (.slice A0_4 l0_4.length c0_4) := (blk_cell BK405.out 4).trans rfl
            have hfz32_0 := blk_frozen BK405.out 0
            have hfz32_1 := blk_frozen BK405.out 1
            have hfz32_2 := blk_frozen BK405.out 2
            have hfz32_3 := blk_frozen BK405.out 3
            have hfz32_4 := blk_frozen BK405.out 4
            have p412 : 0 ≤ (x6_1 : Int) := of_decide_eq_true (by first | (with_reducible assumption) | assumption)
            have q412 : x6_1 < (l0_0.length : Int) := of_decide_eq_true (by first | (with_reducible assumption) | assumption)
            obtain ⟨ad412, A412_0, c412_0, e412, hx412_0, hx412_1, hx412_2, hx412_3, hl412_0, hi412_0⟩ := at_T50 HR0_0.out x6_1 p412 q412
            (try rw [← Nbq14.out] at hx412_1)
            (try rw [← Nbq22.out] at hx412_1)
            cases e412
            replace hx412_0 := (HB.out.cell (World.block_lt_of_cell? w _ hx412_0)).trans hx412_0
            replace hx412_1 := (HB.out.cell (World.block_lt_of_cell? w _ hx412_1)).trans hx412_1
            replace hx412_2 := (HB.out.cell (World.block_lt_of_cell? w _ hx412_2)).trans hx412_2
            replace hx412_3 := (HB.out.cell (World.block_lt_of_cell? w _ hx412_3)).trans hx412_3
            have HR412_0 := Aside0.mk hi412_0
            have HC412_0 := Aside0.mk hl412_0
            clear hi412_0 hl412_0
            replace p412 := eq_true p412
            replace q412 := eq_true q412
            have p30 : 0 ≤ (x6_1 : Int) := of_decide_eq_true (by first | (with_reducible assumption) | assumption)
            have q30 : (x6_1 : Int) < ((x5_1.length : Int) : Int) := of_decide_eq_true (by first | (with_reducible assumption) | assumption)
            obtain ⟨go30, co30, eo30, gb30, gl30, cl30, HG30⟩ := Kd.R_form HO_5.out (by omega)
            (first | cases eo30 | (injection eo30 with ea_ en_ ec_; (first | subst ea_ | (injection ea_ with ea_; subst ea_)); subst ec_; clear en_))
            have GB30 := Aside0.mk gb30
            have GG30 := Aside0.mk HG30
            clear gb30 gl30 HG30
            (first | simp only [add_plain] at hx409_0 | skip)
            obtain ⟨hx30_0, hf30_0⟩ := Kd.R_celln false HO_5.out (x6_1 : Int) p30 q30
            replace p30 := eq_true p30
            replace q30 := eq_true q30
            have HP33 := Kd.R_putg HO_5.out (x6_1 : Int) false
            go_wp2_with (first | ((with_reducible refine gate_store (t := 4) (p := 41) rfl ?_); refine store_event (t := 4) (p := 41) (v := ?vo_w34) (w1 := (wr.setCell ⟨go30, (x6_1 : Int).toNat, none⟩ (.bool false))) ?hg ?ho ?hn ?hr ?_; (case ho => rfl); (case hg => rfl); (case hn => rfl); (case hr => first | (go_simp; done) | (go_simp; rfl)); intro w34 hw; have hg : wr.grownBy w34 (some go30) := (by rw [hw]; exact HP33.2); have hp_ : Kd.R Kd.bool 4 w34 w.heap.size (fun _ => True) (.slice (some ⟨go30, 0, none⟩) x5_1.length co31) y415 := (by rw [hw, Ny415.out]; exact HP33.1); clear HP33; have n0_ := Aside0.mk (hp_); have n1_ := Aside0.mk (blk_grown (g := gb405) (o := .cells #[.slice (some ad412) l0_0.length c0_0, .int .i64 a0_1, .slice A0_2 l0_2.length c0_2, .int .i64 a0_3, .slice A0_4 l0_4.length c0_4] 26 (0, 0)) (blk_x BK405.out) hg (Kd.R_ne HO_5.out BK405.out (by decide))); have n2_ := Aside0.mk ((by rw [hw]; exact below_set (HB.out) GB30.out : Below w.heap.size w w34)); clear HO_5; clear BK405; clear HB; have HO_5 := n0_; have BK405 := n1_; have HB := n2_; clear n0_ n1_ n2_; clear hg hw hp_))
            go_meet
            case rel => exact ⟨_, (y415), H', ⟨by have := HK1.out; first | omega | exact Nat.le_refl _⟩, ⟨by (with_reducible repeat (first | apply Kd.R_alloc | apply Kd.R_drewN | apply Kd.R_drew)); exact HO_5.out⟩, ⟨by (with_reducible repeat (first | refine blk_drewN ?_ _ | refine blk_drew ?_ | refine blk_alloc ?_ _)); exact BK405.out⟩, ⟨by repeat (first | (with_reducible first | exact HB.out | apply below_alloc | apply pw_below_drewN | apply below_drew1 | refine below_set ?_ GE405.out) | exact HB.out)⟩⟩
          ·
           rw [if_neg c21] at H
           exact absurd H (by simp)
        ·
         rw [if_neg c13] at H
         exact absurd H (by simp)
       ·
        rw [if_neg c12] at H
        exact absurd H (by simp)
      case rest =>
       clear HC11
       try clear c1
       try clear p1
       try clear q1
       try clear hx1
       try clear c2
       try clear p2
       try clear q2
       try clear hx2
       try clear hf2
       try clear c3
       try clear c3b0
       try clear c3b1
       try clear p3
       try clear q3
       try clear hx3
       try clear hf3
       try clear c4
       try clear c4b0
       try clear c4b1
       try clear p4
       try clear q4
       try clear hx4
       try clear p6
       try clear c10
       try clear c10b0
       try clear c12
       try clear c12b0
       try clear c13
       try clear c13b0
       try clear q14
       try clear c15
       try clear c16
       try clear c16b0
       try clear p17
       try clear q17
       try clear hx17
       try clear hf17
       try clear c21
       try clear c21b0
       try clear q22
       try clear c23
       try clear c24
       try clear c24b0
       try clear p25
       try clear q25
       try clear hx25
       try clear hf25
       try clear p30
       try clear q30
       try clear hx30
       try clear hf30
       try clear c34
       try clear hcz27_0
       try clear hcz27_1
       try clear hcz27_2
       try clear hcz27_3
       try clear hcz27_4
       try clear hcz32_0
       try clear hcz32_1
       try clear hcz32_2
       try clear hcz32_3
       try clear hcz32_4
       try clear hcz6_0
       try clear hcz6_1
       try clear hcz6_2
       try clear hcz6_3
       try clear hcz6_4
       try clear hcz9_0
       try clear hcz9_1
       try clear hcz9_2
       try clear hcz9_3
       try clear hcz9_4
       try clear hfz27_0
       try clear hfz27_1
       try clear hfz27_2
       try clear hfz27_3
       try clear hfz27_4
       try clear hfz32_0
       try clear hfz32_1
       try clear hfz32_2
       try clear hfz32_3
       try clear hfz32_4
       try clear hfz6_0
       try clear hfz6_1
       try clear hfz6_2
       try clear hfz6_3
       try clear hfz6_4
       try clear hfz9_0
       try clear hfz9_1
       try clear hfz9_2
       try clear hfz9_3
       try clear hfz9_4
       try clear hx17_0
       try clear hx25_0
       try clear hx30_0
       try clear hx409_0
       try clear hx410_0
       try clear hx412_0
       try clear hx412_1
       try clear hx412_2
       try clear hx412_3
       try clear hx413_0
       try clear p17
       try clear p2
       try clear p25
       try clear p30
       try clear p409
       try clear p410
       try clear p412
       try clear p413
       try clear p6
       try clear q17
       try clear q25
       try clear q30
       try clear q409
       try clear q410
       try clear q412
       try clear q413
       obtain ⟨kq, x5_10, HA, HJ10, HO_5, BK405, HB⟩ := hcut
       cases kq with
       | zero => exact absurd HA.out (by simp [swarfref04_ToDo.j1])
       | succ kj10 =>
        have H := HA.out
        clear HA
        simp only [swarfref04_ToDo.j1] at H
        have H' := Aside0.mk H
        clear H
        go_wp2
        go_loopg [7] kj10 (fun kq v7 w' => ∃ (x5_3 : List Bool) (x7_3 : Int), v7 = .int .i64 x7_3 ∧ Aside0 (swarfref04_ToDo.l1 kq l1 x5_3 x6_1 x7_3 l0_0 a0_1 l0_2 a0_3 l0_4 = some r) ∧ Aside0 (kq ≤ kj10) ∧ Aside0 (Kd.R Kd.bool 4 w' w.heap.size (fun _ => True) v407 x5_3) ∧ Aside0 (w'.heap[gb405]? = some (.cells #[(.slice A0_0 l0_0.length c0_0), .int .i64 a0_1, (.slice A0_2 l0_2.length c0_2), .int .i64 a0_3, (.slice A0_4 l0_4.length c0_4)] 26 (0, 0))) ∧ Aside0 (Below w.heap.size w w'))
        case atStart => exact ⟨(x5_10), (0), (by first | rfl | (simp; done) | (simp [*]; done)), H', ⟨Nat.le_refl _⟩, ⟨by (with_reducible repeat (first | apply Kd.R_alloc | apply Kd.R_drewN | apply Kd.R_drew)); exact HO_5.out⟩, ⟨by (with_reducible repeat (first | refine blk_drewN ?_ _ | refine blk_drew ?_ | refine blk_alloc ?_ _)); exact BK405.out⟩, ⟨by repeat (first | (with_reducible first | exact HB.out | apply below_alloc | apply pw_below_drewN | apply below_drew1 | refine below_set ?_ GE405.out) | exact HB.out)⟩⟩
        case round =>
         clear H'
         try clear c1
         try clear p1
         try clear q1
         try clear hx1
         try clear c2
         try clear p2
         try clear q2
         try clear hx2
         try clear hf2
         try clear c3
         try clear c3b0
         try clear c3b1
         try clear p3
         try clear q3
         try clear hx3
         try clear hf3
         try clear c4
         try clear c4b0
         try clear c4b1
         try clear p4
         try clear q4
         try clear hx4
         try clear p6
         try clear c10
         try clear c10b0
         try clear c12
         try clear c12b0
         try clear c13
         try clear c13b0
         try clear q14
         try clear c15
         try clear c16
         try clear c16b0
         try clear p17
         try clear q17
         try clear hx17
         try clear hf17
         try clear c21
         try clear c21b0
         try clear q22
         try clear c23
         try clear c24
         try clear c24b0
         try clear p25
         try clear q25
         try clear hx25
         try clear hf25
         try clear p30
         try clear q30
         try clear hx30
         try clear hf30
         try clear c34
         try clear hcz27_0
         try clear hcz27_1
         try clear hcz27_2
         try clear hcz27_3
         try clear hcz27_4
         try clear hcz32_0
         try clear hcz32_1
         try clear hcz32_2
         try clear hcz32_3
         try clear hcz32_4
         try clear hcz6_0
         try clear hcz6_1
         try clear hcz6_2
         try clear hcz6_3
         try clear hcz6_4
         try clear hcz9_0
         try clear hcz9_1
         try clear hcz9_2
         try clear hcz9_3
         try clear hcz9_4
         try clear hfz27_0
         try clear hfz27_1
         try clear hfz27_2
         try clear hfz27_3
         try clear hfz27_4
         try clear hfz32_0
         try clear hfz32_1
         try clear hfz32_2
         try clear hfz32_3
         try clear hfz32_4
         try clear hfz6_0
         try clear hfz6_1
         try clear hfz6_2
         try clear hfz6_3
         try clear hfz6_4
         try clear hfz9_0
         try clear hfz9_1
         try clear hfz9_2
         try clear hfz9_3
         try clear hfz9_4
         try clear hx17_0
         try clear hx25_0
         try clear hx30_0
         try clear hx409_0
         try clear hx410_0
         try clear hx412_0
         try clear hx412_1
         try clear hx412_2
         try clear hx412_3
         try clear hx413_0
         try clear p1
         try clear p17
         try clear p2
         try clear p25
         try clear p3
         try clear p30
         try clear p4
         try clear p409
         try clear p410
         try clear p412
         try clear p413
         try clear p6
         try clear q1
         try clear q14
         try clear q17
         try clear q2
         try clear q22
         try clear q25
         try clear q3
         try clear q30
         try clear q4
         try clear q409
         try clear q410
         try clear q412
         try clear q413
         obtain ⟨x5_3, x7_3, rfl, HA, HK3, HO_5, BK405, HB⟩ := hrel
         cases gk with
         | zero => exact absurd HA.out (by simp [swarfref04_ToDo.l1])
         | succ k3 =>
          have H := HA.out
          clear HA
          simp only [swarfref04_ToDo.l1] at H
          by_cases c35 : 0 ≤ x6_1
          ·
           rw [if_pos c35] at H
           have c35b0 : decide (0 ≤ x6_1) = true := decide_eq_true c35
           clear c35
           by_cases c36 : x6_1 < (l0_0.length : Int)
           ·
            rw [if_pos c36] at H
            have c36b0 : decide (x6_1 < (l0_0.length : Int)) = true := decide_eq_true c36
            clear c36
            by_cases c37 : x7_3 < (((rd_T50 l0_0 x6_1).f0).length : Int)
            ·
             rw [if_pos c37] at H
             have c37b0 : decide (x7_3 < (((rd_T50 l0_0 x6_1).f0).length : Int)) = true := decide_eq_true c37
             clear c37
             by_cases c38 : x6_1 < (x5_3.length : Int)
             ·
              rw [if_pos c38] at H
              have c38b0 : decide (x6_1 < (x5_3.length : Int)) = true := decide_eq_true c38
              clear c38
              obtain ⟨bq39, hbq39⟩ : ∃ b_ : Bool, b_ = (rdOf false x5_3 x6_1) := ⟨_, rfl⟩
              replace H : (if bq39 = true then (if 0 ≤ x7_3 then (if 0 ≤ (rd ((rd_T50 l0_0 x6_1).f0) x7_3) then (if (rd ((rd_T50 l0_0 x6_1).f0) x7_3) < (x5_3.length : Int) then (swarfref04_ToDo.l1 k3 l1 (x5_3.set ((rd ((rd_T50 l0_0 x6_1).f0) x7_3) : Int).toNat true) x6_1 (wrap64 (x7_3 + 1)) l0_0 a0_1 l0_2 a0_3 l0_4) else (none)) else (none)) else (none)) else (swarfref04_ToDo.l0 k3 l1 x5_3 (wrap64 (x6_1 - 1)) l0_0 a0_1 l0_2 a0_3 l0_4)) = some r := by rw [← hbq39] at H; exact H
              have Nbq39 := Aside0.mk hbq39
              clear hbq39
              by_cases c40 : bq39 = true
              ·
               subst c40
               have H1 : (if 0 ≤ x7_3 then (if 0 ≤ (rd ((rd_T50 l0_0 x6_1).f0) x7_3) then (if (rd ((rd_T50 l0_0 x6_1).f0) x7_3) < (x5_3.length : Int) then (swarfref04_ToDo.l1 k3 l1 (x5_3.set ((rd ((rd_T50 l0_0 x6_1).f0) x7_3) : Int).toNat true) x6_1 (wrap64 (x7_3 + 1)) l0_0 a0_1 l0_2 a0_3 l0_4) else (none)) else (none)) else (none)) = some r := by rw [if_pos rfl] at H; exact H
               clear H
               have H := H1
               clear H1
               by_cases c41 : 0 ≤ x7_3
               ·
                rw [if_pos c41] at H
                have c41b0 : decide (0 ≤ x7_3) = true := decide_eq_true c41
                clear c41
                by_cases c42 : 0 ≤ (rd ((rd_T50 l0_0 x6_1).f0) x7_3)
                ·
                 rw [if_pos c42] at H
                 have c42b0 : decide (0 ≤ (rd ((rd_T50 l0_0 x6_1).f0) x7_3)) = true := decide_eq_true c42
                 clear c42
                 by_cases c43 : (rd ((rd_T50 l0_0 x6_1).f0) x7_3) < (x5_3.length : Int)
                 ·
                  rw [if_pos c43] at H
                  have c43b0 : decide ((rd ((rd_T50 l0_0 x6_1).f0) x7_3) < (x5_3.length : Int)) = true := decide_eq_true c43
                  clear c43
                  obtain ⟨y420, hy420⟩ : ∃ y_ : List Bool, y_ = (x5_3.set ((rd ((rd_T50 l0_0 x6_1).f0) x7_3) : Int).toNat true) := ⟨_, rfl⟩
                  replace H : (swarfref04_ToDo.l1 k3 l1 y420 x6_1 (wrap64 (x7_3 + 1)) l0_0 a0_1 l0_2 a0_3 l0_4) = some r := by first | (rw [hy420]; with_reducible exact H) | (have H2_ := (Option.bind_some _ _).symm.trans H; rw [hy420]; with_reducible exact H2_) | (have H2_ := (Option.bind_some _ _).symm.trans H; with_reducible exact H2_) | with_reducible exact H | (rw [hy420]; exact H) | exact H
                  have Ny420 := Aside0.mk hy420
                  clear hy420
                  have H' := Aside0.mk H
                  clear H
                  have hcz45_0 : wr.cell? ⟨gb405, 0, none⟩ = some (.slice A0_0 l0_0.length c0_0) := (blk_cell BK405.out 0).trans rfl
                  have hcz45_1 : wr.cell? ⟨gb405, 1, none⟩ = some (.int .i64 a0_1) := (blk_cell BK405.out 1).trans rfl
                  have hcz45_2 : wr.cell? ⟨gb405, 2, none⟩ = some (.slice A0_2 l0_2.length c0_2) := (blk_cell BK405.out 2).trans rfl
                  have hcz45_3 : wr.cell? ⟨gb405, 3, none⟩ = some (.int .i64 a0_3) := (blk_cell BK405.out 3).trans rfl
                  have hcz45_4 : wr.cell? ⟨gb405, 4, none⟩ = some (.slice A0_4 l0_4.length c0_4) := (blk_cell BK405.out 4).trans rfl
                  have hfz45_0 := blk_frozen BK405.out 0
                  have hfz45_1 := blk_frozen BK405.out 1
                  have hfz45_2 := blk_frozen BK405.out 2
                  have hfz45_3 := blk_frozen BK405.out 3
                  have hfz45_4 := blk_frozen BK405.out 4
                  have p416 : 0 ≤ (x6_1 : Int) := of_decide_eq_true (by first | (with_reducible assumption) | assumption)
                  have q416 : x6_1 < (l0_0.length : Int) := of_decide_eq_true (by first | (with_reducible assumption) | assumption)
                  obtain ⟨ad416, A416_0, c416_0, e416, hx416_0, hx416_1, hx416_2, hx416_3, hl416_0, hi416_0⟩ := at_T50 HR0_0.out x6_1 p416 q416
                  (try rw [← Nbq39.out] at hx416_1)
                  cases e416
                  replace hx416_0 := (HB.out.cell (World.block_lt_of_cell? w _ hx416_0)).trans hx416_0
                  replace hx416_1 := (HB.out.cell (World.block_lt_of_cell? w _ hx416_1)).trans hx416_1
                  replace hx416_2 := (HB.out.cell (World.block_lt_of_cell? w _ hx416_2)).trans hx416_2
                  replace hx416_3 := (HB.out.cell (World.block_lt_of_cell? w _ hx416_3)).trans hx416_3
                  have HR416_0 := Aside0.mk hi416_0
                  have HC416_0 := Aside0.mk hl416_0
                  clear hi416_0 hl416_0
                  replace p416 := eq_true p416
                  replace q416 := eq_true q416
                  obtain ⟨Ao46, co46, eo46⟩ := Kd.R_slice HO_5.out
                  subst eo46
                  have p417 : 0 ≤ (x6_1 : Int) := of_decide_eq_true (by first | (with_reducible assumption) | assumption)
                  have q417 : x6_1 < (x5_3.length : Int) := of_decide_eq_true (by first | (with_reducible assumption) | assumption)
                  obtain ⟨ad417, e417, hx417_0⟩ := Kd.at_bool (Kd.R_reads' HO_5.out).2.2 x6_1 p417 q417
                  (try rw [← Nbq39.out] at hx417_0)
                  cases e417
                  replace p417 := eq_true p417
                  replace q417 := eq_true q417
                  have p418 : 0 ≤ (x6_1 : Int) := of_decide_eq_true (by first | (with_reducible assumption) | assumption)
                  have q418 : x6_1 < (l0_0.length : Int) := of_decide_eq_true (by first | (with_reducible assumption) | assumption)
                  obtain ⟨ad418, A418_0, c418_0, e418, hx418_0, hx418_1, hx418_2, hx418_3, hl418_0, hi418_0⟩ := at_T50 HR0_0.out x6_1 p418 q418
                  (try rw [← Nbq39.out] at hx418_1)
                  obtain rfl : ad416 = ad418 := (by injection e418)
                  replace hx418_0 := (HB.out.cell (World.block_lt_of_cell? w _ hx418_0)).trans hx418_0
                  replace hx418_1 := (HB.out.cell (World.block_lt_of_cell? w _ hx418_1)).trans hx418_1
                  replace hx418_2 := (HB.out.cell (World.block_lt_of_cell? w _ hx418_2)).trans hx418_2
                  replace hx418_3 := (HB.out.cell (World.block_lt_of_cell? w _ hx418_3)).trans hx418_3
                  have HR418_0 := Aside0.mk hi418_0
                  have HC418_0 := Aside0.mk hl418_0
                  clear hi418_0 hl418_0
                  replace p418 := eq_true p418
                  replace q418 := eq_true q418
                  have ea_ := Option.some.inj (hx416_0.symm.trans hx418_0)
                  injection ea_ with ea_ en_ ec_
                  subst ea_
                  subst ec_
                  clear en_
                  have p419 : 0 ≤ (x7_3 : Int) := of_decide_eq_true (by first | (with_reducible assumption) | assumption)
                  have q419 : x7_3 < (((rd_T50 l0_0 x6_1).f0).length : Int) := of_decide_eq_true (by first | (with_reducible assumption) | assumption)
                  obtain ⟨ad419, e419, hx419_0⟩ := Kd.at_int HR418_0.out x7_3 p419 q419
                  cases e419
                  replace hx419_0 := (HB.out.cell (World.block_lt_of_cell? w _ hx419_0)).trans hx419_0
                  replace p419 := eq_true p419
                  replace q419 := eq_true q419
                  have p44 : 0 ≤ ((rd ((rd_T50 l0_0 x6_1).f0) x7_3) : Int) := of_decide_eq_true (by first | (with_reducible assumption) | assumption)
                  have q44 : ((rd ((rd_T50 l0_0 x6_1).f0) x7_3) : Int) < ((x5_3.length : Int) : Int) := of_decide_eq_true (by first | (with_reducible assumption) | assumption)
                  obtain ⟨go44, co44, eo44, gb44, gl44, cl44, HG44⟩ := Kd.R_form HO_5.out (by omega)
                  (first | cases eo44 | (injection eo44 with ea_ en_ ec_; (first | subst ea_ | (injection ea_ with ea_; subst ea_)); subst ec_; clear en_))
                  have GB44 := Aside0.mk gb44
                  have GG44 := Aside0.mk HG44
                  clear gb44 gl44 HG44
                  (first | simp only [add_plain] at hx417_0 | skip)
                  obtain ⟨hx44_0, hf44_0⟩ := Kd.R_celln false HO_5.out ((rd ((rd_T50 l0_0 x6_1).f0) x7_3) : Int) p44 q44
                  replace p44 := eq_true p44
                  replace q44 := eq_true q44
                  have HP47 := Kd.R_putg HO_5.out ((rd ((rd_T50 l0_0 x6_1).f0) x7_3) : Int) true
                  go_wp2_with (first | ((with_reducible refine gate_store (t := 4) (p := 69) rfl ?_); refine store_event (t := 4) (p := 69) (v := ?vo_w48) (w1 := (wr.setCell ⟨go44, ((rd ((rd_T50 l0_0 x6_1).f0) x7_3) : Int).toNat, none⟩ (.bool true))) ?hg ?ho ?hn ?hr ?_; (case ho => rfl); (case hg => rfl); (case hn => rfl); (case hr => first | (go_simp; done) | (go_simp; rfl)); intro w48 hw; have hg : wr.grownBy w48 (some go44) := (by rw [hw]; exact HP47.2); have hp_ : Kd.R Kd.bool 4 w48 w.heap.size (fun _ => True) (.slice (some ⟨go44, 0, none⟩) x5_3.length co46) y420 := (by rw [hw, Ny420.out]; exact HP47.1); clear HP47; have n0_ := Aside0.mk (hp_); have n1_ := Aside0.mk (blk_grown (g := gb405) (o := .cells #[.slice (some ad416) l0_0.length c0_0, .int .i64 a0_1, .slice A0_2 l0_2.length c0_2, .int .i64 a0_3, .slice A0_4 l0_4.length c0_4] 26 (0, 0)) (blk_x BK405.out) hg (Kd.R_ne HO_5.out BK405.out (by decide))); have n2_ := Aside0.mk ((by rw [hw]; exact below_set (HB.out) GB44.out : Below w.heap.size w w48)); clear HO_5; clear BK405; clear HB; have HO_5 := n0_; have BK405 := n1_; have HB := n2_; clear n0_ n1_ n2_; clear hg hw hp_))
                  go_roundg k3
                  case measure => have := HK1.out; have := HJ10.out; have := HK3.out; omega
                  case rel => exact ⟨(y420), (wrap64 (x7_3 + 1)), (by first | rfl | (simp; done) | (simp [*]; done)), H', ⟨by have := HK1.out; have := HJ10.out; have := HK3.out; omega⟩, ⟨by (with_reducible repeat (first | apply Kd.R_alloc | apply Kd.R_drewN | apply Kd.R_drew)); exact HO_5.out⟩, ⟨by (with_reducible repeat (first | refine blk_drewN ?_ _ | refine blk_drew ?_ | refine blk_alloc ?_ _)); exact BK405.out⟩, ⟨by repeat (first | (with_reducible first | exact HB.out | apply below_alloc | apply pw_below_drewN | apply below_drew1 | refine below_set ?_ GE405.out) | exact HB.out)⟩⟩
                 ·
                  rw [if_neg c43] at H
                  exact absurd H (by simp)
                ·
                 rw [if_neg c42] at H
                 exact absurd H (by simp)
               ·
                rw [if_neg c41] at H
                exact absurd H (by simp)
              ·
               replace c40 := Bool.eq_false_iff.mpr c40
               subst c40
               have H1 : (swarfref04_ToDo.l0 k3 l1 x5_3 (wrap64 (x6_1 - 1)) l0_0 a0_1 l0_2 a0_3 l0_4) = some r := by rw [if_neg (show ¬ (false = true) by decide)] at H; exact H
               clear H
               have H := H1
               clear H1
               have H' := Aside0.mk H
               clear H
               have hcz49_0 : wr.cell? ⟨gb405, 0, none⟩ = some (.slice A0_0 l0_0.length c0_0) := (blk_cell BK405.out 0).trans rfl
               have hcz49_1 : wr.cell? ⟨gb405, 1, none⟩ = some (.int .i64 a0_1) := (blk_cell BK405.out 1).trans rfl
               have hcz49_2 : wr.cell? ⟨gb405, 2, none⟩ = some (.slice A0_2 l0_2.length c0_2) := (blk_cell BK405.out 2).trans rfl
               have hcz49_3 : wr.cell? ⟨gb405, 3, none⟩ = some (.int .i64 a0_3) := (blk_cell BK405.out 3).trans rfl
               have hcz49_4 : wr.cell? ⟨gb405, 4, none⟩ = some (.slice A0_4 l0_4.length c0_4) := (blk_cell BK405.out 4).trans rfl
               have hfz49_0 := blk_frozen BK405.out 0
               have hfz49_1 := blk_frozen BK405.out 1
               have hfz49_2 := blk_frozen BK405.out 2
               have hfz49_3 := blk_frozen BK405.out 3
               have hfz49_4 := blk_frozen BK405.out 4
               have p416 : 0 ≤ (x6_1 : Int) := of_decide_eq_true (by first | (with_reducible assumption) | assumption)
               have q416 : x6_1 < (l0_0.length : Int) := of_decide_eq_true (by first | (with_reducible assumption) | assumption)
               obtain ⟨ad416, A416_0, c416_0, e416, hx416_0, hx416_1, hx416_2, hx416_3, hl416_0, hi416_0⟩ := at_T50 HR0_0.out x6_1 p416 q416
               (try rw [← Nbq39.out] at hx416_1)
               cases e416
               replace hx416_0 := (HB.out.cell (World.block_lt_of_cell? w _ hx416_0)).trans hx416_0
               replace hx416_1 := (HB.out.cell (World.block_lt_of_cell? w _ hx416_1)).trans hx416_1
               replace hx416_2 := (HB.out.cell (World.block_lt_of_cell? w _ hx416_2)).trans hx416_2
               replace hx416_3 := (HB.out.cell (World.block_lt_of_cell? w _ hx416_3)).trans hx416_3
               have HR416_0 := Aside0.mk hi416_0
               have HC416_0 := Aside0.mk hl416_0
               clear hi416_0 hl416_0
               replace p416 := eq_true p416
               replace q416 := eq_true q416
               obtain ⟨Ao50, co50, eo50⟩ := Kd.R_slice HO_5.out
               subst eo50
               have p417 : 0 ≤ (x6_1 : Int) := of_decide_eq_true (by first | (with_reducible assumption) | assumption)
               have q417 : x6_1 < (x5_3.length : Int) := of_decide_eq_true (by first | (with_reducible assumption) | assumption)
               obtain ⟨ad417, e417, hx417_0⟩ := Kd.at_bool (Kd.R_reads' HO_5.out).2.2 x6_1 p417 q417
               (try rw [← Nbq39.out] at hx417_0)
               cases e417
               replace p417 := eq_true p417
               replace q417 := eq_true q417
               go_wp2
               go_roundg k3
               case measure => have := HK1.out; have := HJ10.out; have := HK3.out; omega
               case rel => exact ⟨(x5_3), (wrap64 (x6_1 - 1)), (by first | rfl | (simp; done) | (simp [*]; done)), H', ⟨by have := HK1.out; have := HJ10.out; have := HK3.out; omega⟩, ⟨by (with_reducible repeat (first | apply Kd.R_alloc | apply Kd.R_drewN | apply Kd.R_drew)); exact HO_5.out⟩, ⟨by (with_reducible repeat (first | refine blk_drewN ?_ _ | refine blk_drew ?_ | refine blk_alloc ?_ _)); exact BK405.out⟩, ⟨by repeat (first | (with_reducible first | exact HB.out | apply below_alloc | apply pw_below_drewN | apply below_drew1 | refine below_set ?_ GE405.out) | exact HB.out)⟩⟩
             ·
              rw [if_neg c38] at H
              exact absurd H (by simp)
            ·
             rw [if_neg c37] at H
             have c37b0 : decide (x7_3 < (((rd_T50 l0_0 x6_1).f0).length : Int)) = false := decide_eq_false c37
             clear c37
             have H' := Aside0.mk H
             clear H
             have hcz51_0 : wr.cell? ⟨gb405, 0, none⟩ = some (.slice A0_0 l0_0.length c0_0) := (blk_cell BK405.out 0).trans rfl
             have hcz51_1 : wr.cell? ⟨gb405, 1, none⟩ = some (.int .i64 a0_1) := (blk_cell BK405.out 1).trans rfl
             have hcz51_2 : wr.cell? ⟨gb405, 2, none⟩ = some (.slice A0_2 l0_2.length c0_2) := (blk_cell BK405.out 2).trans rfl
             have hcz51_3 : wr.cell? ⟨gb405, 3, none⟩ = some (.int .i64 a0_3) := (blk_cell BK405.out 3).trans rfl
             have hcz51_4 : wr.cell? ⟨gb405, 4, none⟩ = some (.slice A0_4 l0_4.length c0_4) := (blk_cell BK405.out 4).trans rfl
             have hfz51_0 := blk_frozen BK405.out 0
             have hfz51_1 := blk_frozen BK405.out 1
             have hfz51_2 := blk_frozen BK405.out 2
             have hfz51_3 := blk_frozen BK405.out 3
             have hfz51_4 := blk_frozen BK405.out 4
             have p416 : 0 ≤ (x6_1 : Int) := of_decide_eq_true (by first | (with_reducible assumption) | assumption)
             have q416 : x6_1 < (l0_0.length : Int) := of_decide_eq_true (by first | (with_reducible assumption) | assumption)
             obtain ⟨ad416, A416_0, c416_0, e416, hx416_0, hx416_1, hx416_2, hx416_3, hl416_0, hi416_0⟩ := at_T50 HR0_0.out x6_1 p416 q416
             cases e416
             replace hx416_0 := (HB.out.cell (World.block_lt_of_cell? w _ hx416_0)).trans hx416_0
             replace hx416_1 := (HB.out.cell (World.block_lt_of_cell? w _ hx416_1)).trans hx416_1
             replace hx416_2 := (HB.out.cell (World.block_lt_of_cell? w _ hx416_2)).trans hx416_2
             replace hx416_3 := (HB.out.cell (World.block_lt_of_cell? w _ hx416_3)).trans hx416_3
             have HR416_0 := Aside0.mk hi416_0
             have HC416_0 := Aside0.mk hl416_0
             clear hi416_0 hl416_0
             replace p416 := eq_true p416
             replace q416 := eq_true q416
             go_wp2
             go_roundg k3
             case measure => have := HK1.out; have := HJ10.out; have := HK3.out; omega
             case rel => exact ⟨(x5_3), (wrap64 (x6_1 - 1)), (by first | rfl | (simp; done) | (simp [*]; done)), H', ⟨by have := HK1.out; have := HJ10.out; have := HK3.out; omega⟩, ⟨by (with_reducible repeat (first | apply Kd.R_alloc | apply Kd.R_drewN | apply Kd.R_drew)); exact HO_5.out⟩, ⟨by (with_reducible repeat (first | refine blk_drewN ?_ _ | refine blk_drew ?_ | refine blk_alloc ?_ _)); exact BK405.out⟩, ⟨by repeat (first | (with_reducible first | exact HB.out | apply below_alloc | apply pw_below_drewN | apply below_drew1 | refine below_set ?_ GE405.out) | exact HB.out)⟩⟩
           ·
            rw [if_neg c36] at H
            exact absurd H (by simp)
          ·
           rw [if_neg c35] at H
           exact absurd H (by simp)
     ·
      rw [if_neg c10] at H
      have c10b0 : decide (0 ≤ x6_1) = false := decide_eq_false c10
      clear c10
      obtain rfl := Option.some.inj H
      go_wp2
      go_ret
      exact ⟨_, by first | rfl | (simp [errW_none, errW_some] <;> rfl) | (simp [*, errW_none, errW_some] <;> rfl), by (with_reducible repeat (first | apply Kd.R_alloc | apply Kd.R_drewN | apply Kd.R_drew)); exact HO_5.out, by repeat (first | (with_reducible first | exact HB.out | apply below_alloc | apply pw_below_drewN | apply below_drew1 | refine below_set ?_ GE405.out) | exact HB.out)⟩
  ·
   rw [if_neg c4] at H
   exact absurd H (by simp)
 ·
  rw [if_neg c3] at H
  exact absurd H (by simp)
end Go.Proofs.Ytkkmfcdikkiodaa.PC4
namespace Go.Proofs.Ytkkmfcdikkiodaa.PC4
open Go.RowKit Go.Proofs.YtkkmfcdikkiodaaW.PrintWords Go.Proofs.YtkkmfcdikkiodaaW.PrintLast Go.Proofs.YtkkmfcdikkiodaaW.PrintMore
attribute [local go_sem] max2_int min2_int max_two min_two max_three min_three max_four min_four
set_option linter.unusedVariables false
set_option linter.unusedSimpArgs false
mutual
def swarflaw04_StripWorked.j0 : Nat → List Int → Int → List Int → Bool → List (S50) → Int → List (S61) → Int → List Int → Option (Bool)
 | 0, _, _, _, _, _, _, _, _, _ => none
 | k + 1, x5, x6, x8, x52, x439000, x439001, x439002, x439003, x439004 => if x52 = true then (some false) else ((swarfref04_ToDo.f k x439000 x439001 x439002 x439003 x439004 x8).bind fun t452 => ((swarfref04_Orders.f k x439000 x439001 x439002 x439003 x439004 t452 ([] : List Int)).bind fun t455 => (swarflaw04_StripWorked.l0 k x5 x6 t455 0 x439000 x439001 x439002 x439003 x439004)))
def swarflaw04_StripWorked.l0 : Nat → List Int → Int → List (List Int) → Int → List (S50) → Int → List (S61) → Int → List Int → Option (Bool)
 | 0, _, _, _, _, _, _, _, _, _ => none
 | k + 1, x5, x6, x10, x11, x439000, x439001, x439002, x439003, x439004 => if x11 < (x10.length : Int) then (if 0 ≤ x11 then ((swarfref04_Time.f k x439000 x439001 x439002 x439003 x439004 (rd_L1 x10 x11)).bind fun t459 => (if t459 < x6 then (some false) else (if t459 = x6 then ((swarfkit_EqualInts.f k x5 (rd_L1 x10 x11)).bind fun t461 => (if t461 = true then ((swarflaw04_awake.f k).bind fun t462 => (some t462)) else (some false))) else (swarflaw04_StripWorked.l0 k x5 x6 x10 (wrap64 (x11 + 1)) x439000 x439001 x439002 x439003 x439004)))) else (none)) else (some false)
end
def swarflaw04_StripWorked.f (k : Nat) (l0 : List Int) : Option (Bool) := (swarfkit_FeedOf.f l0).bind fun t421 => ((swarfkit_CarOf.f k t421 6 5).bind fun bt423 => ((strip_Work.f bt423.1 bt423.2.1 bt423.2.2.1 bt423.2.2.2.1 bt423.2.2.2.2.1).bind fun bt439 => ((strip_Out.f bt423.1 bt423.2.1 bt423.2.2.1 bt423.2.2.2.1 bt423.2.2.2.2.1).bind fun bt444 => (if bt439.2.2 = 0 then (if bt444.2 = 0 then (if (bt444.1.length : Int) = (bt423.1.length : Int) then ((swarflaw04_kept.f k bt423.1 bt423.2.1 bt423.2.2.1 bt423.2.2.2.1 bt423.2.2.2.2.1 bt439.1).bind fun t448 => ((swarfref04_Time.f k bt423.1 bt423.2.1 bt423.2.2.1 bt423.2.2.2.1 bt423.2.2.2.2.1 t448).bind fun t451 => (swarflaw04_StripWorked.j0 k bt439.1 bt439.2.1 bt444.1 (bt439.2.1 != t451) bt423.1 bt423.2.1 bt423.2.2.1 bt423.2.2.2.1 bt423.2.2.2.2.1))) else (swarflaw04_StripWorked.j0 k bt439.1 bt439.2.1 bt444.1 true bt423.1 bt423.2.1 bt423.2.2.1 bt423.2.2.2.1 bt423.2.2.2.2.1)) else (swarflaw04_StripWorked.j0 k bt439.1 bt439.2.1 bt444.1 true bt423.1 bt423.2.1 bt423.2.2.1 bt423.2.2.2.1 bt423.2.2.2.2.1)) else (swarflaw04_StripWorked.j0 k bt439.1 bt439.2.1 bt444.1 true bt423.1 bt423.2.1 bt423.2.2.1 bt423.2.2.2.1 bt423.2.2.2.2.1)))))
theorem swarflaw04_StripWorked.mono_l : ∀ k, (∀ y0 y1 y2 y3 y4 y5 y6 y7 y8, LeO (swarflaw04_StripWorked.j0 k y0 y1 y2 y3 y4 y5 y6 y7 y8) (swarflaw04_StripWorked.j0 (k + 1) y0 y1 y2 y3 y4 y5 y6 y7 y8)) ∧ (∀ y0 y1 y2 y3 y4 y5 y6 y7 y8, LeO (swarflaw04_StripWorked.l0 k y0 y1 y2 y3 y4 y5 y6 y7 y8) (swarflaw04_StripWorked.l0 (k + 1) y0 y1 y2 y3 y4 y5 y6 y7 y8))
 | 0 => ⟨fun _ _ _ _ _ _ _ _ _ r h => by simp [swarflaw04_StripWorked.j0] at h, fun _ _ _ _ _ _ _ _ _ r h => by simp [swarflaw04_StripWorked.l0] at h⟩
 | k + 1 => by
  obtain ⟨ih0, ih1⟩ := swarflaw04_StripWorked.mono_l k
  refine ⟨?_, ?_⟩
  ·
   intro y0 y1 y2 y3 y4 y5 y6 y7 y8
   unfold swarflaw04_StripWorked.j0
   repeat' first
   | (with_reducible exact ih0 _ _ _ _ _ _ _ _ _)
   | (with_reducible exact ih1 _ _ _ _ _ _ _ _ _)
   | (with_reducible exact swarfkit_CarOf.mono _ _ _ _)
   | (with_reducible exact swarfkit_EqualInts.mono _ _ _)
   | (with_reducible exact swarflaw04_awake.mono _)
   | (with_reducible exact swarflaw04_kept.mono _ _ _ _ _ _ _)
   | (with_reducible exact swarfref04_Orders.mono _ _ _ _ _ _ _ _)
   | (with_reducible exact swarfref04_Time.mono _ _ _ _ _ _ _)
   | (with_reducible exact swarfref04_ToDo.mono _ _ _ _ _ _ _)
   | (with_reducible exact LeO.refl _)
   | (with_reducible exact LeO.none _)
   | (with_reducible refine LeO.ite ?_ ?_)
   | (with_reducible refine LeO.bind ?_ (fun _ => ?_))
   | exact ih0 _ _ _ _ _ _ _ _ _
   | exact ih1 _ _ _ _ _ _ _ _ _
   | exact swarfkit_CarOf.mono _ _ _ _
   | exact swarfkit_EqualInts.mono _ _ _
   | exact swarflaw04_awake.mono _
   | exact swarflaw04_kept.mono _ _ _ _ _ _ _
   | exact swarfref04_Orders.mono _ _ _ _ _ _ _ _
   | exact swarfref04_Time.mono _ _ _ _ _ _ _
   | exact swarfref04_ToDo.mono _ _ _ _ _ _ _
   | exact LeO.none _
   | refine LeO.ite ?_ ?_
   | refine LeO.bind ?_ (fun _ => ?_)
  ·
   intro y0 y1 y2 y3 y4 y5 y6 y7 y8
   unfold swarflaw04_StripWorked.l0
   repeat' first
   | (with_reducible exact ih0 _ _ _ _ _ _ _ _ _)
   | (with_reducible exact ih1 _ _ _ _ _ _ _ _ _)
   | (with_reducible exact swarfkit_CarOf.mono _ _ _ _)
   | (with_reducible exact swarfkit_EqualInts.mono _ _ _)
   | (with_reducible exact swarflaw04_awake.mono _)
   | (with_reducible exact swarflaw04_kept.mono _ _ _ _ _ _ _)
   | (with_reducible exact swarfref04_Orders.mono _ _ _ _ _ _ _ _)
   | (with_reducible exact swarfref04_Time.mono _ _ _ _ _ _ _)
   | (with_reducible exact swarfref04_ToDo.mono _ _ _ _ _ _ _)
   | (with_reducible exact LeO.refl _)
   | (with_reducible exact LeO.none _)
   | (with_reducible refine LeO.ite ?_ ?_)
   | (with_reducible refine LeO.bind ?_ (fun _ => ?_))
   | exact ih0 _ _ _ _ _ _ _ _ _
   | exact ih1 _ _ _ _ _ _ _ _ _
   | exact swarfkit_CarOf.mono _ _ _ _
   | exact swarfkit_EqualInts.mono _ _ _
   | exact swarflaw04_awake.mono _
   | exact swarflaw04_kept.mono _ _ _ _ _ _ _
   | exact swarfref04_Orders.mono _ _ _ _ _ _ _ _
   | exact swarfref04_Time.mono _ _ _ _ _ _ _
   | exact swarfref04_ToDo.mono _ _ _ _ _ _ _
   | exact LeO.none _
   | refine LeO.ite ?_ ?_
   | refine LeO.bind ?_ (fun _ => ?_)
theorem swarflaw04_StripWorked.mono : ∀ a0 k, LeO (swarflaw04_StripWorked.f k a0) (swarflaw04_StripWorked.f (k + 1) a0) := by
 intro a0 k
 obtain ⟨ih0, ih1⟩ := swarflaw04_StripWorked.mono_l k
 unfold swarflaw04_StripWorked.f
 repeat' first
   | (with_reducible exact ih0 _ _ _ _ _ _ _ _ _)
   | (with_reducible exact ih1 _ _ _ _ _ _ _ _ _)
   | (with_reducible exact swarfkit_CarOf.mono _ _ _ _)
   | (with_reducible exact swarfkit_EqualInts.mono _ _ _)
   | (with_reducible exact swarflaw04_awake.mono _)
   | (with_reducible exact swarflaw04_kept.mono _ _ _ _ _ _ _)
   | (with_reducible exact swarfref04_Orders.mono _ _ _ _ _ _ _ _)
   | (with_reducible exact swarfref04_Time.mono _ _ _ _ _ _ _)
   | (with_reducible exact swarfref04_ToDo.mono _ _ _ _ _ _ _)
   | (with_reducible exact LeO.refl _)
   | (with_reducible exact LeO.none _)
   | (with_reducible refine LeO.ite ?_ ?_)
   | (with_reducible refine LeO.bind ?_ (fun _ => ?_))
   | exact ih0 _ _ _ _ _ _ _ _ _
   | exact ih1 _ _ _ _ _ _ _ _ _
   | exact swarfkit_CarOf.mono _ _ _ _
   | exact swarfkit_EqualInts.mono _ _ _
   | exact swarflaw04_awake.mono _
   | exact swarflaw04_kept.mono _ _ _ _ _ _ _
   | exact swarfref04_Orders.mono _ _ _ _ _ _ _ _
   | exact swarfref04_Time.mono _ _ _ _ _ _ _
   | exact swarfref04_ToDo.mono _ _ _ _ _ _ _
   | exact LeO.none _
   | refine LeO.ite ?_ ?_
   | refine LeO.bind ?_ (fun _ => ?_)
def swarflaw04_StripWorked.T4 : Bool × List (List Nat × List Nat) := (true, [([], []), ([0], [0]), ([1], [1]), ([2], [2]), ([3, 2], [2, 3]), ([2, 4], [2, 4]), ([5, 2], [5]), ([6], [6]), ([7, 6], [6, 7]), ([6], [6]), ([9, 6], [6, 9]), ([10, 6], [6, 10]), ([8, 11, 6], [6, 8, 11]), ([6, 12], [6, 12]), ([13, 6], [13]), ([14], [14]), ([14], [14]), ([14], [14]), ([14], [14]), ([17, 18, 14, 14], [14, 17, 18]), ([16, 19, 19, 14], [14, 16, 19]), ([15, 20, 14], [14, 15, 20]), ([14, 21], [14, 21])])
def swarflaw04_StripWorked.B4 : List Nat := [0, 1, 3, 7, 15, 31, 63, 127, 255, 127, 639, 1663, 4095, 8191, 16383, 32767, 32767, 32767, 32767, 425983, 1015807, 2097151, 4194303]
theorem swarflaw04_StripWorked.tab4 : rtab .any (opsOf Try.f6 4) = swarflaw04_StripWorked.T4 := by kernel_rfl
theorem swarflaw04_StripWorked.bits4 : waitsOk swarflaw04_StripWorked.T4.2 swarflaw04_StripWorked.B4 = true := by kernel_rfl
set_option maxHeartbeats 8000000 in
set_option maxRecDepth 100000 in
theorem swarflaw04_StripWorked.calls (k : Nat) (A0 : Option Addr) (c0 : Nat) (l0 : List Int) (r : Bool) (hrt : Aside0 (r = true)) (w : World) (hr0 : Kd.C (Kd.int .i64) w A0 l0.length l0) (hc0 : l0.length ≤ c0) (h : swarflaw04_StripWorked.f k l0 = some r) :
  Calls Try.prog 6 #[.slice A0 l0.length c0] w fun e w' => e = .returned (.bool r) ∧ Below w.heap.size w w' := by
 have hu26 := Try.underlying26
 have HR0 := Aside0.mk hr0
 have HC0 := Aside0.mk hc0
 clear hr0 hc0
 have HB := Aside0.mk (Below.refl w.heap.size w)
 have H : ((swarfkit_FeedOf.f l0).bind fun t421 => ((swarfkit_CarOf.f k t421 6 5).bind fun bt423 => ((strip_Work.f bt423.1 bt423.2.1 bt423.2.2.1 bt423.2.2.2.1 bt423.2.2.2.2.1).bind fun bt439 => ((strip_Out.f bt423.1 bt423.2.1 bt423.2.2.1 bt423.2.2.2.1 bt423.2.2.2.2.1).bind fun bt444 => (if bt439.2.2 = 0 then (if bt444.2 = 0 then (if (bt444.1.length : Int) = (bt423.1.length : Int) then ((swarflaw04_kept.f k bt423.1 bt423.2.1 bt423.2.2.1 bt423.2.2.2.1 bt423.2.2.2.2.1 bt439.1).bind fun t448 => ((swarfref04_Time.f k bt423.1 bt423.2.1 bt423.2.2.1 bt423.2.2.2.1 bt423.2.2.2.2.1 t448).bind fun t451 => (swarflaw04_StripWorked.j0 k bt439.1 bt439.2.1 bt444.1 (bt439.2.1 != t451) bt423.1 bt423.2.1 bt423.2.2.1 bt423.2.2.2.1 bt423.2.2.2.2.1))) else (swarflaw04_StripWorked.j0 k bt439.1 bt439.2.1 bt444.1 true bt423.1 bt423.2.1 bt423.2.2.1 bt423.2.2.2.1 bt423.2.2.2.2.1)) else (swarflaw04_StripWorked.j0 k bt439.1 bt439.2.1 bt444.1 true bt423.1 bt423.2.1 bt423.2.2.1 bt423.2.2.2.1 bt423.2.2.2.2.1)) else (swarflaw04_StripWorked.j0 k bt439.1 bt439.2.1 bt444.1 true bt423.1 bt423.2.1 bt423.2.2.1 bt423.2.2.2.1 bt423.2.2.2.2.1)))))) = some r := h
 clear h
 replace H := Option.bind_eq_some_iff.mp H
 obtain ⟨t421, A20, H⟩ := H
 replace H : ((swarfkit_CarOf.f k t421 6 5).bind fun bt423 => ((strip_Work.f bt423.1 bt423.2.1 bt423.2.2.1 bt423.2.2.2.1 bt423.2.2.2.2.1).bind fun bt439 => ((strip_Out.f bt423.1 bt423.2.1 bt423.2.2.1 bt423.2.2.2.1 bt423.2.2.2.2.1).bind fun bt444 => (if bt439.2.2 = 0 then (if bt444.2 = 0 then (if (bt444.1.length : Int) = (bt423.1.length : Int) then ((swarflaw04_kept.f k bt423.1 bt423.2.1 bt423.2.2.1 bt423.2.2.2.1 bt423.2.2.2.2.1 bt439.1).bind fun t448 => ((swarfref04_Time.f k bt423.1 bt423.2.1 bt423.2.2.1 bt423.2.2.2.1 bt423.2.2.2.2.1 t448).bind fun t451 => (swarflaw04_StripWorked.j0 k bt439.1 bt439.2.1 bt444.1 (bt439.2.1 != t451) bt423.1 bt423.2.1 bt423.2.2.1 bt423.2.2.2.1 bt423.2.2.2.2.1))) else (swarflaw04_StripWorked.j0 k bt439.1 bt439.2.1 bt444.1 true bt423.1 bt423.2.1 bt423.2.2.1 bt423.2.2.2.1 bt423.2.2.2.2.1)) else (swarflaw04_StripWorked.j0 k bt439.1 bt439.2.1 bt444.1 true bt423.1 bt423.2.1 bt423.2.2.1 bt423.2.2.2.1 bt423.2.2.2.2.1)) else (swarflaw04_StripWorked.j0 k bt439.1 bt439.2.1 bt444.1 true bt423.1 bt423.2.1 bt423.2.2.1 bt423.2.2.2.1 bt423.2.2.2.2.1))))) = some r := H
 have A2 := Aside0.mk A20
 clear A20
 replace H := Option.bind_eq_some_iff.mp H
 obtain ⟨⟨t423, t426, t427, t430, t431, t434, t437⟩, A30, H⟩ := H
 replace H : ((strip_Work.f t423 t426 t427 t430 t431).bind fun bt439 => ((strip_Out.f t423 t426 t427 t430 t431).bind fun bt444 => (if bt439.2.2 = 0 then (if bt444.2 = 0 then (if (bt444.1.length : Int) = (t423.length : Int) then ((swarflaw04_kept.f k t423 t426 t427 t430 t431 bt439.1).bind fun t448 => ((swarfref04_Time.f k t423 t426 t427 t430 t431 t448).bind fun t451 => (swarflaw04_StripWorked.j0 k bt439.1 bt439.2.1 bt444.1 (bt439.2.1 != t451) t423 t426 t427 t430 t431))) else (swarflaw04_StripWorked.j0 k bt439.1 bt439.2.1 bt444.1 true t423 t426 t427 t430 t431)) else (swarflaw04_StripWorked.j0 k bt439.1 bt439.2.1 bt444.1 true t423 t426 t427 t430 t431)) else (swarflaw04_StripWorked.j0 k bt439.1 bt439.2.1 bt444.1 true t423 t426 t427 t430 t431)))) = some r := H
 have A3 := Aside0.mk A30
 clear A30
 replace H := Option.bind_eq_some_iff.mp H
 obtain ⟨⟨t439, t442, t443⟩, A40, H⟩ := H
 replace H : ((strip_Out.f t423 t426 t427 t430 t431).bind fun bt444 => (if t443 = 0 then (if bt444.2 = 0 then (if (bt444.1.length : Int) = (t423.length : Int) then ((swarflaw04_kept.f k t423 t426 t427 t430 t431 t439).bind fun t448 => ((swarfref04_Time.f k t423 t426 t427 t430 t431 t448).bind fun t451 => (swarflaw04_StripWorked.j0 k t439 t442 bt444.1 (t442 != t451) t423 t426 t427 t430 t431))) else (swarflaw04_StripWorked.j0 k t439 t442 bt444.1 true t423 t426 t427 t430 t431)) else (swarflaw04_StripWorked.j0 k t439 t442 bt444.1 true t423 t426 t427 t430 t431)) else (swarflaw04_StripWorked.j0 k t439 t442 bt444.1 true t423 t426 t427 t430 t431))) = some r := H
 have A4 := Aside0.mk A40
 clear A40
 replace H := Option.bind_eq_some_iff.mp H
 obtain ⟨⟨t444, t447⟩, A50, H⟩ := H
 replace H : (if t443 = 0 then (if t447 = 0 then (if (t444.length : Int) = (t423.length : Int) then ((swarflaw04_kept.f k t423 t426 t427 t430 t431 t439).bind fun t448 => ((swarfref04_Time.f k t423 t426 t427 t430 t431 t448).bind fun t451 => (swarflaw04_StripWorked.j0 k t439 t442 t444 (t442 != t451) t423 t426 t427 t430 t431))) else (swarflaw04_StripWorked.j0 k t439 t442 t444 true t423 t426 t427 t430 t431)) else (swarflaw04_StripWorked.j0 k t439 t442 t444 true t423 t426 t427 t430 t431)) else (swarflaw04_StripWorked.j0 k t439 t442 t444 true t423 t426 t427 t430 t431)) = some r := H
 have A5 := Aside0.mk A50
 clear A50
 have HC6 := Aside0.mk H
 clear H
 go_enter Try.func6, Try.ntmps6
 go_upto_region 4 with (first | ((with_reducible refine gate_callee (f := 18) rfl ?_); refine goesL_ (some 15) rfl rfl Try.func18 (by kernel_rfl) rfl #[.slice A0 l0.length c0] rfl (by (try simp only [List.map_toArray, List.map_cons, List.map_nil]); first | done | rfl | (simp only [List.length_drop, List.length_take]; rfl)) ?_; (with_reducible refine (swarfkit_FeedOf.calls _ _ l0 t421 w _ ?side1 ?side2 ?side3 A2.out).mono ?_); (case side1 => repeat (first | (with_reducible first | exact HB.out | apply below_alloc | apply pw_below_drewN | apply below_drew1) | exact HB.out)); (case side2 => exact HR0.out); (case side3 => exact HC0.out); rintro e w7 ⟨g422, rfl, hi, hb, hb2⟩; refine ⟨_, rfl, ?_⟩; have n0_ := Aside0.mk (hb); have n1_ := Aside0.mk (hi); clear HB; have HB := n0_; have HI422 := n1_; clear n0_ n1_; (try clear hb); (try clear hb2); (try clear hk); (try clear hi)) | ((with_reducible refine gate_callee (f := 17) rfl ?_); refine goesL_ (some 16) rfl rfl Try.func17 (by kernel_rfl) rfl #[.pointer (some ⟨g422, 0, none⟩), .int .i64 6, .int .i64 5] rfl (by (try simp only [List.map_toArray, List.map_cons, List.map_nil]); first | done | rfl | (simp only [List.length_drop, List.length_take]; rfl)) ?_; (with_reducible refine (swarfkit_CarOf.calls k g422 t421 6 5 t423 t426 t427 t430 t431 t434 t437 w _ ?side1 ?side2 A3.out).mono ?_); (case side1 => repeat (first | (with_reducible first | exact HI422.out | apply IsS79.alloc | apply IsS79.drewN | apply IsS79.drew | apply IsS79.set_0) | exact HI422.out)); (case side2 => repeat (first | (with_reducible first | exact HB.out | apply below_alloc | apply pw_below_drewN | apply below_drew1 | refine below_set ?_ (IsS79.ge HI422.out)) | exact HB.out)); rintro e w8 ⟨v424, v428, v432, v435, rfl, ho0, ho1, ho2, ho3, hi, hb, hk⟩; refine ⟨_, rfl, ?_⟩; have n0_ := Aside0.mk (Kd.N_lower (Kd.N_mono (ok' := fun k_ => some k_ ≠ (v428 : Value).ownBlock ∧ some k_ ≠ (v432 : Value).ownBlock ∧ some k_ ≠ (v435 : Value).ownBlock ∧ k_ ≠ g422) (Kd.S_N (Kd.S_bound (Kd.S_apart' (Kd.S_apart' ho0 (Kd.R_typed ho1) (by decide)) (Kd.R_typed ho3) (by decide)))) (fun k_ hk_ => ⟨hk_.1.1.2, hk_.1.1.1, hk_.1.2, (IsS79.fresh (by repeat (first | (with_reducible first | exact HI422.out | apply IsS79.alloc | apply IsS79.drewN | apply IsS79.drew | apply IsS79.set_0) | exact HI422.out)) k_ hk_.2.1)⟩)) (below_size (by repeat (first | (with_reducible first | exact HB.out | apply below_alloc | apply pw_below_drewN | apply below_drew1 | refine below_set ?_ (IsS79.ge HI422.out)) | exact HB.out)))); have n1_ := Aside0.mk (Kd.R_lower ho1 (below_size (by repeat (first | (with_reducible first | exact HB.out | apply below_alloc | apply pw_below_drewN | apply below_drew1 | refine below_set ?_ (IsS79.ge HI422.out)) | exact HB.out)))); have n2_ := Aside0.mk (Kd.R_lower ho2 (below_size (by repeat (first | (with_reducible first | exact HB.out | apply below_alloc | apply pw_below_drewN | apply below_drew1 | refine below_set ?_ (IsS79.ge HI422.out)) | exact HB.out)))); have n3_ := Aside0.mk (Kd.R_lower ho3 (below_size (by repeat (first | (with_reducible first | exact HB.out | apply below_alloc | apply pw_below_drewN | apply below_drew1 | refine below_set ?_ (IsS79.ge HI422.out)) | exact HB.out)))); have n4_ := Aside0.mk (hb); have n5_ := Aside0.mk (hi); clear HB; clear HI422; have HO425 := n0_; have HO429 := n1_; have HO433 := n2_; have HO436 := n3_; have HB := n4_; have HI422 := n5_; clear n0_ n1_ n2_ n3_ n4_ n5_; (try clear hb); (try clear hb2); (try clear hk); (try clear hi); (try clear ho0); (try clear ho1); (try clear ho2); (try clear ho3)) | ((with_reducible refine gate_dst (N := 3) rfl ?_); (try (refine gate_guard (by rfl) ?_; dsimp only)); refine box_event ?hg (N := 3) ?hd (cs := #[.slice none 0 0, .int .i64 0, .slice none 0 0, .int .i64 0, .slice none 0 0]) (t := 26) ?hr ?_; (case hd => rfl); (case hg => rfl); (case hr => first | (go_simp; done) | (go_simp; rfl)); intro gb438 hg w9 hbox hb; have n0_ := Aside0.mk (Kd.N_below (Kd.N_elderB (Kd.N_x HO425.out) gb438 (Nat.le_of_eq hg.symm)) hb); have n1_ := Aside0.mk (Kd.R_below (Kd.R_x HO429.out) hb); have n2_ := Aside0.mk (Kd.R_below (Kd.R_x HO433.out) hb); have n3_ := Aside0.mk (Kd.R_below (Kd.R_x HO436.out) hb); have n4_ := Aside0.mk (IsS79.below (by repeat (first | (with_reducible first | exact HI422.out | apply IsS79.alloc | apply IsS79.drewN | apply IsS79.drew | apply IsS79.set_0) | exact HI422.out)) hb); have n5_ := Aside0.mk (below_step (by repeat (first | (with_reducible first | exact HB.out | apply below_alloc | apply pw_below_drewN | apply below_drew1 | refine below_set ?_ (IsS79.ge HI422.out)) | exact HB.out)) hb); have n6_ := Aside0.mk (hbox); have n7_ := Aside0.mk ((by rw [hg]; exact (below_size (by repeat (first | (with_reducible first | exact HB.out | apply below_alloc | apply pw_below_drewN | apply below_drew1 | refine below_set ?_ (IsS79.ge HI422.out)) | exact HB.out))) : w.heap.size ≤ gb438)); have n8_ := Aside0.mk ((by rw [hg]; exact (below_size (by repeat (first | (with_reducible first | exact HB.out | apply below_alloc | apply pw_below_drewN | apply below_drew1 | refine below_set ?_ (IsS79.ge HI422.out)) | exact HB.out))) : w.heap.size ≤ gb438)); have n9_ := Aside0.mk ((by rw [hg]; exact Nat.ne_of_lt (IsS79.lt (show IsS79 w _ g422 t437 from by repeat (first | (with_reducible first | exact HI422.out | apply IsS79.alloc | apply IsS79.drewN | apply IsS79.drew | apply IsS79.set_0) | exact HI422.out))) : g422 ≠ gb438)); have n10_ := Aside0.mk ((by rw [hg]; exact Nat.ne_of_gt (IsS79.lt (show IsS79 w _ g422 t437 from by repeat (first | (with_reducible first | exact HI422.out | apply IsS79.alloc | apply IsS79.drewN | apply IsS79.drew | apply IsS79.set_0) | exact HI422.out))) : gb438 ≠ g422)); clear HO425; clear HO429; clear HO433; clear HO436; clear HI422; clear HB; have HO425 := n0_; have HO429 := n1_; have HO433 := n2_; have HO436 := n3_; have HI422 := n4_; have HB := n5_; have BK438 := n6_; have GW438 := n7_; have GE438 := n8_; have NB422_438 := n9_; have NB438_422 := n10_; clear n0_ n1_ n2_ n3_ n4_ n5_ n6_ n7_ n8_ n9_ n10_; clear hb hbox hg; obtain ⟨Ao10, co10, eo10⟩ := Kd.N_slice HO425.out; subst eo10; have hnb11 := NB438_422.out; have hnc11 := NB422_438.out; have hcz12_0 : w9.cell? ⟨gb438, 0, none⟩ = some (.slice none 0 0) := (blk_cell BK438.out 0).trans rfl; have hcz12_1 : w9.cell? ⟨gb438, 1, none⟩ = some (.int .i64 0) := (blk_cell BK438.out 1).trans rfl; have hcz12_2 : w9.cell? ⟨gb438, 2, none⟩ = some (.slice none 0 0) := (blk_cell BK438.out 2).trans rfl; have hcz12_3 : w9.cell? ⟨gb438, 3, none⟩ = some (.int .i64 0) := (blk_cell BK438.out 3).trans rfl; have hcz12_4 : w9.cell? ⟨gb438, 4, none⟩ = some (.slice none 0 0) := (blk_cell BK438.out 4).trans rfl; have hfz12_0 := blk_frozen BK438.out 0; have hfz12_1 := blk_frozen BK438.out 1; have hfz12_2 := blk_frozen BK438.out 2; have hfz12_3 := blk_frozen BK438.out 3; have hfz12_4 := blk_frozen BK438.out 4; obtain ⟨Ao13, co13, eo13⟩ := Kd.R_slice HO429.out; subst eo13; obtain ⟨Ao14, co14, eo14⟩ := Kd.R_slice HO433.out; subst eo14) | ((with_reducible refine gate_callee (f := 20) rfl ?_); refine goesL_ (some 21) rfl rfl Try.func20 (by kernel_rfl) rfl #[.agg #[.slice Ao10 t423.length co10, .int .i64 t426, .slice Ao13 t427.length co13, .int .i64 t430, .slice Ao14 t431.length co14]] rfl (by (try simp only [List.map_toArray, List.map_cons, List.map_nil]); first | done | rfl | (simp only [List.length_drop, List.length_take]; rfl)) ?_; (with_reducible refine (strip_Work.calls _ _ t423 t426 _ _ t427 t430 _ _ t431 t439 t442 t443 _ ?side1 ?side2 ?side3 ?side4 ?side5 ?side6 A4.out).mono ?_); (case side1 => refine (Kd.N_reads' (e := 50) (base := w.heap.size) (ok := fun k_ => ((some k_ ≠ (.slice Ao13 t427.length co13 : Value).ownBlock ∧ (some k_ ≠ (.slice Ao14 t431.length co14 : Value).ownBlock ∧ (some k_ ≠ (v435 : Value).ownBlock ∧ k_ ≠ g422))) ∧ k_ ≠ gb438)) (n := t423.length) (c := co10) ?_).2.2; exact (by (with_reducible repeat (first | apply Kd.N_alloc | apply Kd.N_drewN | apply Kd.N_drew)); exact (Kd.N_mono (Kd.N_far (p := ⟨gb438, 4, none⟩) (Kd.N_far (p := ⟨gb438, 3, none⟩) (Kd.N_far (p := ⟨gb438, 2, none⟩) (Kd.N_far (p := ⟨gb438, 1, none⟩) (Kd.N_far (p := ⟨gb438, 0, none⟩) (Kd.N_mono HO425.out (fun k_ hk => (⟨hk, hk.2⟩ : _ ∧ k_ ≠ gb438))) (fun _ hk => hk.2) (.slice Ao10 t423.length co10)) (fun _ hk => hk.2) (.int .i64 t426)) (fun _ hk => hk.2) (.slice Ao13 t427.length co13)) (fun _ hk => hk.2) (.int .i64 t430)) (fun _ hk => hk.2) (.slice Ao14 t431.length co14)) (fun _ h_ => h_.1)))); (case side2 => exact (Kd.N_reads' HO425.out).2.1); (case side3 => refine (Kd.R_reads' (e := 61) (base := w.heap.size) (ok := fun k_ => True) (n := t427.length) (c := co13) ?_).2.2; exact (by (with_reducible repeat (first | apply Kd.R_alloc | apply Kd.R_drewN | apply Kd.R_drew)); exact (Kd.R_mono (Kd.R_far (p := ⟨gb438, 4, none⟩) (Kd.R_far (p := ⟨gb438, 3, none⟩) (Kd.R_far (p := ⟨gb438, 2, none⟩) (Kd.R_far (p := ⟨gb438, 1, none⟩) (Kd.R_far (p := ⟨gb438, 0, none⟩) (Kd.R_types HO429.out BK438.out (by decide)) (fun _ hk => hk.2) (.slice Ao10 t423.length co10)) (fun _ hk => hk.2) (.int .i64 t426)) (fun _ hk => hk.2) (.slice Ao13 t427.length co13)) (fun _ hk => hk.2) (.int .i64 t430)) (fun _ hk => hk.2) (.slice Ao14 t431.length co14)) (fun _ h_ => h_.1)))); (case side4 => exact (Kd.R_reads' HO429.out).2.1); (case side5 => refine (Kd.R_reads' (e := 3) (base := w.heap.size) (ok := fun k_ => True) (n := t431.length) (c := co14) ?_).2.2; exact (by (with_reducible repeat (first | apply Kd.R_alloc | apply Kd.R_drewN | apply Kd.R_drew)); exact (Kd.R_mono (Kd.R_far (p := ⟨gb438, 4, none⟩) (Kd.R_far (p := ⟨gb438, 3, none⟩) (Kd.R_far (p := ⟨gb438, 2, none⟩) (Kd.R_far (p := ⟨gb438, 1, none⟩) (Kd.R_far (p := ⟨gb438, 0, none⟩) (Kd.R_types HO433.out BK438.out (by decide)) (fun _ hk => hk.2) (.slice Ao10 t423.length co10)) (fun _ hk => hk.2) (.int .i64 t426)) (fun _ hk => hk.2) (.slice Ao13 t427.length co13)) (fun _ hk => hk.2) (.int .i64 t430)) (fun _ hk => hk.2) (.slice Ao14 t431.length co14)) (fun _ h_ => h_.1)))); (case side6 => exact (Kd.R_reads' HO433.out).2.1); rintro e w15 ⟨v440, rfl, ho0, hb⟩; refine ⟨_, rfl, ?_⟩; have n0_ := Aside0.mk (Kd.N_elder' (by (with_reducible repeat (first | apply Kd.N_alloc | apply Kd.N_drewN | apply Kd.N_drew)); exact (Kd.N_mono (Kd.N_far (p := ⟨gb438, 4, none⟩) (Kd.N_far (p := ⟨gb438, 3, none⟩) (Kd.N_far (p := ⟨gb438, 2, none⟩) (Kd.N_far (p := ⟨gb438, 1, none⟩) (Kd.N_far (p := ⟨gb438, 0, none⟩) (Kd.N_mono HO425.out (fun k_ hk => (⟨hk, hk.2⟩ : _ ∧ k_ ≠ gb438))) (fun _ hk => hk.2) (.slice Ao10 t423.length co10)) (fun _ hk => hk.2) (.int .i64 t426)) (fun _ hk => hk.2) (.slice Ao13 t427.length co13)) (fun _ hk => hk.2) (.int .i64 t430)) (fun _ hk => hk.2) (.slice Ao14 t431.length co14)) (fun _ h_ => h_.1))) (Kd.R_base ho0) hb); have n1_ := Aside0.mk (Kd.R_below (by (with_reducible repeat (first | apply Kd.R_alloc | apply Kd.R_drewN | apply Kd.R_drew)); exact (Kd.R_mono (Kd.R_far (p := ⟨gb438, 4, none⟩) (Kd.R_far (p := ⟨gb438, 3, none⟩) (Kd.R_far (p := ⟨gb438, 2, none⟩) (Kd.R_far (p := ⟨gb438, 1, none⟩) (Kd.R_far (p := ⟨gb438, 0, none⟩) (Kd.R_types HO429.out BK438.out (by decide)) (fun _ hk => hk.2) (.slice Ao10 t423.length co10)) (fun _ hk => hk.2) (.int .i64 t426)) (fun _ hk => hk.2) (.slice Ao13 t427.length co13)) (fun _ hk => hk.2) (.int .i64 t430)) (fun _ hk => hk.2) (.slice Ao14 t431.length co14)) (fun _ h_ => h_.1))) hb); have n2_ := Aside0.mk (Kd.R_elder' (by (with_reducible repeat (first | apply Kd.R_alloc | apply Kd.R_drewN | apply Kd.R_drew)); exact (Kd.R_mono (Kd.R_far (p := ⟨gb438, 4, none⟩) (Kd.R_far (p := ⟨gb438, 3, none⟩) (Kd.R_far (p := ⟨gb438, 2, none⟩) (Kd.R_far (p := ⟨gb438, 1, none⟩) (Kd.R_far (p := ⟨gb438, 0, none⟩) (Kd.R_types HO433.out BK438.out (by decide)) (fun _ hk => hk.2) (.slice Ao10 t423.length co10)) (fun _ hk => hk.2) (.int .i64 t426)) (fun _ hk => hk.2) (.slice Ao13 t427.length co13)) (fun _ hk => hk.2) (.int .i64 t430)) (fun _ hk => hk.2) (.slice Ao14 t431.length co14)) (fun _ h_ => h_.1))) (Kd.R_base ho0) hb); have n3_ := Aside0.mk (Kd.R_below (by (with_reducible repeat (first | apply Kd.R_alloc | apply Kd.R_drewN | apply Kd.R_drew)); exact (Kd.R_mono (Kd.R_far (p := ⟨gb438, 4, none⟩) (Kd.R_far (p := ⟨gb438, 3, none⟩) (Kd.R_far (p := ⟨gb438, 2, none⟩) (Kd.R_far (p := ⟨gb438, 1, none⟩) (Kd.R_far (p := ⟨gb438, 0, none⟩) (Kd.R_types HO436.out BK438.out (by decide)) (fun _ hk => hk.2) (.slice Ao10 t423.length co10)) (fun _ hk => hk.2) (.int .i64 t426)) (fun _ hk => hk.2) (.slice Ao13 t427.length co13)) (fun _ hk => hk.2) (.int .i64 t430)) (fun _ hk => hk.2) (.slice Ao14 t431.length co14)) (fun _ h_ => h_.1))) hb); have n4_ := Aside0.mk (Kd.R_lower (Kd.R_new' ho0 (Kd.R_lt (by (with_reducible repeat (first | apply Kd.R_alloc | apply Kd.R_drewN | apply Kd.R_drew)); exact (Kd.R_mono (Kd.R_far (p := ⟨gb438, 4, none⟩) (Kd.R_far (p := ⟨gb438, 3, none⟩) (Kd.R_far (p := ⟨gb438, 2, none⟩) (Kd.R_far (p := ⟨gb438, 1, none⟩) (Kd.R_far (p := ⟨gb438, 0, none⟩) (Kd.R_types HO433.out BK438.out (by decide)) (fun _ hk => hk.2) (.slice Ao10 t423.length co10)) (fun _ hk => hk.2) (.int .i64 t426)) (fun _ hk => hk.2) (.slice Ao13 t427.length co13)) (fun _ hk => hk.2) (.int .i64 t430)) (fun _ hk => hk.2) (.slice Ao14 t431.length co14)) (fun _ h_ => h_.1))))) (below_size (by repeat (first | (with_reducible first | exact HB.out | apply below_alloc | apply pw_below_drewN | apply below_drew1 | refine below_set ?_ (IsS79.ge HI422.out) | refine below_set ?_ GE438.out) | exact HB.out)))); have n5_ := Aside0.mk (IsS79.below (show IsS79 w (((((w9.setCell ⟨gb438, 0, none⟩ (.slice Ao10 t423.length co10)).setCell ⟨gb438, 1, none⟩ (.int .i64 t426)).setCell ⟨gb438, 2, none⟩ (.slice Ao13 t427.length co13)).setCell ⟨gb438, 3, none⟩ (.int .i64 t430)).setCell ⟨gb438, 4, none⟩ (.slice Ao14 t431.length co14)) g422 t437 from by repeat (first | (with_reducible first | exact HI422.out | apply IsS79.alloc | apply IsS79.drewN | apply IsS79.drew | apply IsS79.set_0 | refine IsS79.far ?_ NB422_438.out _) | exact HI422.out)) hb); have n6_ := Aside0.mk (blk_below (g := gb438) (o := .cells #[.slice Ao10 t423.length co10, .int .i64 t426, .slice Ao13 t427.length co13, .int .i64 t430, .slice Ao14 t431.length co14] 26 (0, 0)) (by (with_reducible repeat (first | refine blk_drewN ?_ _ | refine blk_drew ?_ | refine blk_alloc ?_ _)); refine blk_put (cs := #[.slice Ao10 t423.length co10, .int .i64 t426, .slice Ao13 t427.length co13, .int .i64 t430, .slice none 0 0]) ?_ 4 _ rfl; (with_reducible repeat (first | refine blk_drewN ?_ _ | refine blk_drew ?_ | refine blk_alloc ?_ _)); refine blk_put (cs := #[.slice Ao10 t423.length co10, .int .i64 t426, .slice Ao13 t427.length co13, .int .i64 0, .slice none 0 0]) ?_ 3 _ rfl; (with_reducible repeat (first | refine blk_drewN ?_ _ | refine blk_drew ?_ | refine blk_alloc ?_ _)); refine blk_put (cs := #[.slice Ao10 t423.length co10, .int .i64 t426, .slice none 0 0, .int .i64 0, .slice none 0 0]) ?_ 2 _ rfl; (with_reducible repeat (first | refine blk_drewN ?_ _ | refine blk_drew ?_ | refine blk_alloc ?_ _)); refine blk_put (cs := #[.slice Ao10 t423.length co10, .int .i64 0, .slice none 0 0, .int .i64 0, .slice none 0 0]) ?_ 1 _ rfl; (with_reducible repeat (first | refine blk_drewN ?_ _ | refine blk_drew ?_ | refine blk_alloc ?_ _)); refine blk_put (cs := #[.slice none 0 0, .int .i64 0, .slice none 0 0, .int .i64 0, .slice none 0 0]) ?_ 0 _ rfl; (with_reducible repeat (first | refine blk_drewN ?_ _ | refine blk_drew ?_ | refine blk_alloc ?_ _)); exact BK438.out) hb); have n7_ := Aside0.mk (below_step (by repeat (first | (with_reducible first | exact HB.out | apply below_alloc | apply pw_below_drewN | apply below_drew1 | refine below_set ?_ (IsS79.ge HI422.out) | refine below_set ?_ GE438.out) | exact HB.out)) hb); clear HO425; clear HO429; clear HO433; clear HO436; clear HI422; clear BK438; clear HB; have HO425 := n0_; have HO429 := n1_; have HO433 := n2_; have HO436 := n3_; have HO441 := n4_; have HI422 := n5_; have BK438 := n6_; have HB := n7_; clear n0_ n1_ n2_ n3_ n4_ n5_ n6_ n7_; (try clear hb); (try clear hb2); (try clear hk); (try clear hi); (try clear ho0); have hcz16_0 : w15.cell? ⟨gb438, 0, none⟩ = some (.slice Ao10 t423.length co10) := (blk_cell BK438.out 0).trans rfl; have hcz16_1 : w15.cell? ⟨gb438, 1, none⟩ = some (.int .i64 t426) := (blk_cell BK438.out 1).trans rfl; have hcz16_2 : w15.cell? ⟨gb438, 2, none⟩ = some (.slice Ao13 t427.length co13) := (blk_cell BK438.out 2).trans rfl; have hcz16_3 : w15.cell? ⟨gb438, 3, none⟩ = some (.int .i64 t430) := (blk_cell BK438.out 3).trans rfl; have hcz16_4 : w15.cell? ⟨gb438, 4, none⟩ = some (.slice Ao14 t431.length co14) := (blk_cell BK438.out 4).trans rfl; have hfz16_0 := blk_frozen BK438.out 0; have hfz16_1 := blk_frozen BK438.out 1; have hfz16_2 := blk_frozen BK438.out 2; have hfz16_3 := blk_frozen BK438.out 3; have hfz16_4 := blk_frozen BK438.out 4) | ((with_reducible refine gate_callee (f := 26) rfl ?_); refine goesL_ (some 27) rfl rfl Try.func26 (by kernel_rfl) rfl #[.agg #[.slice Ao10 t423.length co10, .int .i64 t426, .slice Ao13 t427.length co13, .int .i64 t430, .slice Ao14 t431.length co14]] rfl (by (try simp only [List.map_toArray, List.map_cons, List.map_nil]); first | done | rfl | (simp only [List.length_drop, List.length_take]; rfl)) ?_; (with_reducible refine (strip_Out.calls _ _ t423 t426 _ _ t427 t430 _ _ t431 t444 t447 _ ?side1 ?side2 ?side3 ?side4 ?side5 ?side6 A5.out).mono ?_); (case side1 => repeat (first | exact (Kd.N_reads' HO425.out).2.2 | (with_reducible refine Kd.C_alloc ?_ _) | (with_reducible refine Kd.C_drewN ?_ _) | (with_reducible refine Kd.C_drew ?_))); (case side2 => exact (Kd.N_reads' HO425.out).2.1); (case side3 => repeat (first | exact (Kd.R_reads' HO429.out).2.2 | (with_reducible refine Kd.C_alloc ?_ _) | (with_reducible refine Kd.C_drewN ?_ _) | (with_reducible refine Kd.C_drew ?_))); (case side4 => exact (Kd.R_reads' HO429.out).2.1); (case side5 => repeat (first | exact (Kd.R_reads' HO433.out).2.2 | (with_reducible refine Kd.C_alloc ?_ _) | (with_reducible refine Kd.C_drewN ?_ _) | (with_reducible refine Kd.C_drew ?_))); (case side6 => exact (Kd.R_reads' HO433.out).2.1); rintro e w17 ⟨v445, rfl, ho0, hb⟩; refine ⟨_, rfl, ?_⟩; have n0_ := Aside0.mk (Kd.N_elder' (Kd.N_x HO425.out) (Kd.R_base ho0) hb); have n1_ := Aside0.mk (Kd.R_below (Kd.R_x HO429.out) hb); have n2_ := Aside0.mk (Kd.R_elder' (Kd.R_x HO433.out) (Kd.R_base ho0) hb); have n3_ := Aside0.mk (Kd.R_below (Kd.R_x HO436.out) hb); have n4_ := Aside0.mk (Kd.R_elder' (Kd.R_x HO441.out) (Kd.R_base ho0) hb); have n5_ := Aside0.mk (Kd.R_lower (Kd.R_new' (Kd.R_new' ho0 (Kd.R_lt (Kd.R_x HO433.out))) (Kd.R_lt (Kd.R_x HO441.out))) (below_size (by repeat (first | (with_reducible first | exact HB.out | apply below_alloc | apply pw_below_drewN | apply below_drew1 | refine below_set ?_ (IsS79.ge HI422.out) | refine below_set ?_ GE438.out) | exact HB.out)))); have n6_ := Aside0.mk (IsS79.below (by repeat (first | (with_reducible first | exact HI422.out | apply IsS79.alloc | apply IsS79.drewN | apply IsS79.drew | apply IsS79.set_0 | refine IsS79.far ?_ NB422_438.out _) | exact HI422.out)) hb); have n7_ := Aside0.mk (blk_below (g := gb438) (o := .cells #[.slice Ao10 t423.length co10, .int .i64 t426, .slice Ao13 t427.length co13, .int .i64 t430, .slice Ao14 t431.length co14] 26 (0, 0)) (blk_x BK438.out) hb); have n8_ := Aside0.mk (below_step (by repeat (first | (with_reducible first | exact HB.out | apply below_alloc | apply pw_below_drewN | apply below_drew1 | refine below_set ?_ (IsS79.ge HI422.out) | refine below_set ?_ GE438.out) | exact HB.out)) hb); clear HO425; clear HO429; clear HO433; clear HO436; clear HO441; clear HI422; clear BK438; clear HB; have HO425 := n0_; have HO429 := n1_; have HO433 := n2_; have HO436 := n3_; have HO441 := n4_; have HO446 := n5_; have HI422 := n6_; have BK438 := n7_; have HB := n8_; clear n0_ n1_ n2_ n3_ n4_ n5_ n6_ n7_ n8_; (try clear hb); (try clear hb2); (try clear hk); (try clear hi); (try clear ho0)))
 (try simp only [Act.put, List.setIfInBounds_toArray, List.set_cons_zero, List.set_cons_succ])
 go_cut [52] (fun v52 wc => ∃ (kq : Nat) (x52_5 : Bool), v52 = .bool x52_5 ∧ Aside0 (swarflaw04_StripWorked.j0 kq t439 t442 t444 x52_5 t423 t426 t427 t430 t431 = some r) ∧ Aside0 (kq ≤ k) ∧ Aside0 (Kd.R (Kd.int .i64) 3 wc w.heap.size (fun k_ => some k_ ≠ (v445 : Value).ownBlock ∧ some k_ ≠ ((.slice Ao14 t431.length co14) : Value).ownBlock) v440 t439) ∧ Aside0 (Kd.R (Kd.int .i64) 3 wc w.heap.size (fun k_ => some k_ ≠ (v440 : Value).ownBlock ∧ some k_ ≠ ((.slice Ao14 t431.length co14) : Value).ownBlock) v445 t444) ∧ Aside0 (Kd.N k50 50 wc w.heap.size (fun k_ => some k_ ≠ (v440 : Value).ownBlock ∧ some k_ ≠ (v445 : Value).ownBlock ∧ some k_ ≠ ((.slice Ao13 t427.length co13) : Value).ownBlock ∧ some k_ ≠ ((.slice Ao14 t431.length co14) : Value).ownBlock ∧ k_ ≠ gb438) (.slice Ao10 t423.length co10) t423) ∧ Aside0 (Kd.R k61 61 wc w.heap.size (fun _ => True) (.slice Ao13 t427.length co13) t427) ∧ Aside0 (Kd.R (Kd.int .i64) 3 wc w.heap.size (fun k_ => some k_ ≠ (v440 : Value).ownBlock ∧ some k_ ≠ (v445 : Value).ownBlock) (.slice Ao14 t431.length co14) t431) ∧ Aside0 (wc.heap[gb438]? = some (.cells #[(.slice Ao10 t423.length co10), .int .i64 t426, (.slice Ao13 t427.length co13), .int .i64 t430, (.slice Ao14 t431.length co14)] 26 (0, 0))) ∧ Aside0 (Below w.heap.size w wc))
 case first =>
  have H := HC6.out
  clear HC6
  by_cases c18 : t443 = 0
  ·
   rw [if_pos c18] at H
   have c18b0 : (t443 == 0) = true := beq_iff_eq.mpr c18
   have c18b1 : (t443 != 0) = false := bne_eq_false_iff_eq.mpr c18
   clear c18
   (first | rw [c18b0] | (simp only [i64_w, i32_w]; rw [c18b0]) | skip)
   by_cases c19 : t447 = 0
   ·
    rw [if_pos c19] at H
    have c19b0 : (t447 == 0) = true := beq_iff_eq.mpr c19
    have c19b1 : (t447 != 0) = false := bne_eq_false_iff_eq.mpr c19
    clear c19
    by_cases c20 : (t444.length : Int) = (t423.length : Int)
    ·
     rw [if_pos c20] at H
     have c20b0 : ((t444.length : Int) == (t423.length : Int)) = true := beq_iff_eq.mpr c20
     have c20b1 : ((t444.length : Int) != (t423.length : Int)) = false := bne_eq_false_iff_eq.mpr c20
     have c20b2 : (t444.length == t423.length) = true := by first | simpa using c20 | (simp at c20 ⊢; omega)
     clear c20
     replace H := Option.bind_eq_some_iff.mp H
     obtain ⟨t448, A210, H⟩ := H
     replace H : ((swarfref04_Time.f k t423 t426 t427 t430 t431 t448).bind fun t451 => (swarflaw04_StripWorked.j0 k t439 t442 t444 (t442 != t451) t423 t426 t427 t430 t431)) = some r := H
     have A21 := Aside0.mk A210
     clear A210
     replace H := Option.bind_eq_some_iff.mp H
     obtain ⟨t451, A220, H⟩ := H
     replace H : (swarflaw04_StripWorked.j0 k t439 t442 t444 (t442 != t451) t423 t426 t427 t430 t431) = some r := H
     have A22 := Aside0.mk A220
     clear A220
     have H' := Aside0.mk H
     clear H
     try go_wp2
     have n0_ := Aside0.mk (Kd.N_drew HO425.out)
     have n1_ := Aside0.mk (Kd.R_drew HO429.out)
     have n2_ := Aside0.mk (Kd.R_drew HO433.out)
     have n3_ := Aside0.mk (Kd.R_drew HO436.out)
     have n4_ := Aside0.mk (Kd.R_drew HO441.out)
     have n5_ := Aside0.mk (Kd.R_drew HO446.out)
     have n6_ := Aside0.mk (blk_drew BK438.out)
     have n7_ := Aside0.mk (IsS79.drew HI422.out)
     have n8_ := Aside0.mk (below_drew1 HB.out)
     clear HO425 HO429 HO433 HO436 HO441 HO446 BK438 HI422 HB
     have HO425 := n0_
     have HO429 := n1_
     have HO433 := n2_
     have HO436 := n3_
     have HO441 := n4_
     have HO446 := n5_
     have BK438 := n6_
     have HI422 := n7_
     have HB := n8_
     clear n0_ n1_ n2_ n3_ n4_ n5_ n6_ n7_ n8_
     obtain ⟨Ao24, co24, eo24⟩ := Kd.R_slice HO446.out
     (first | subst eo24 | (injection eo24 with f1_ f2_ f3_; have f4_ := f1_.symm; have f5_ := f3_.symm; clear f1_ f2_ f3_; subst f4_; subst f5_))
     obtain ⟨Ao25, co25, eo25⟩ := Kd.R_slice HO441.out
     (first | subst eo25 | (injection eo25 with f1_ f2_ f3_; have f4_ := f1_.symm; have f5_ := f3_.symm; clear f1_ f2_ f3_; subst f4_; subst f5_))
     refine start_ (n := 23) (S := fun w' => w'.cell? ⟨gb438, 0, none⟩ = some (.slice Ao10 t423.length co10) ∧ w'.cell? ⟨gb438, 1, none⟩ = some (.int .i64 t426) ∧ w'.cell? ⟨gb438, 2, none⟩ = some (.slice Ao13 t427.length co13) ∧ w'.cell? ⟨gb438, 3, none⟩ = some (.int .i64 t430) ∧ w'.cell? ⟨gb438, 4, none⟩ = some (.slice Ao14 t431.length co14)) (ds := []) #[false, false, false, false, false, false, false, false, false, false, false, false, false, false, false, false, false, false, false, false, false, false, false] (by kernel_rfl) rfl rfl ⟨(blk_cell BK438.out 0).trans rfl, (blk_cell BK438.out 1).trans rfl, (blk_cell BK438.out 2).trans rfl, (blk_cell BK438.out 3).trans rfl, (blk_cell BK438.out 4).trans rfl⟩ (fun hHeld => ?_); refine with_tabW swarflaw04_StripWorked.tab4 swarflaw04_StripWorked.bits4 (fun HT_ HW_ => ?_)
     generalize w17.drew = w23 at HO425 HO429 HO433 HO436 HO441 HO446 BK438 HI422 HB hHeld ⊢
     refine pure_ (i := 0) (N := some 30) (v := ?_) (a' := ?_) (bz 23 1) rfl rfl (any_of HT_.out (by kernel_rfl)) (fun _ _ _ h => h) (Or.inl ⟨by rfl, ?_⟩) ?_ ?_
     rotate_left
     ·
      intro w'
      go_simp
      with_reducible rfl
     rotate_left
     ·
      simp only [Act.put, List.setIfInBounds_toArray, List.set_cons_zero, List.set_cons_succ, i64_w, i32_w]
      rfl
     refine pure_ (i := 1) (N := some 31) (v := ?_) (a' := ?_) (bz 23 3) rfl rfl (any_of HT_.out (by kernel_rfl)) (fun _ _ _ h => h) (Or.inl ⟨by rfl, ?_⟩) ?_ ?_
     rotate_left
     ·
      intro w'
      go_simp
      with_reducible rfl
     rotate_left
     ·
      simp only [Act.put, List.setIfInBounds_toArray, List.set_cons_zero, List.set_cons_succ, i64_w, i32_w]
      rfl
     refine pure_ (i := 2) (N := some 32) (v := ?_) (a' := ?_) (bz 23 7) rfl rfl (any_of HT_.out (by kernel_rfl)) (fun _ _ _ h => h) (Or.inl ⟨by rfl, ?_⟩) ?_ ?_
     rotate_left
     ·
      intro w'
      go_simp
      with_reducible rfl
     rotate_left
     ·
      simp only [Act.put, List.setIfInBounds_toArray, List.set_cons_zero, List.set_cons_succ, i64_w, i32_w]
      rfl
     refine pure_ (i := 3) (N := some 33) (v := ?_) (a' := ?_) (bz 23 15) rfl rfl (any_of HT_.out (by kernel_rfl)) (fun _ _ _ h => h) (Or.inl ⟨by rfl, ?_⟩) ?_ ?_
     rotate_left
     ·
      intro w'
      go_simp
      with_reducible rfl
     rotate_left
     ·
      simp only [Act.put, List.setIfInBounds_toArray, List.set_cons_zero, List.set_cons_succ, i64_w, i32_w]
      rfl
     refine pure_ (i := 4) (N := some 34) (v := ?_) (a' := ?_) (bz 23 31) rfl rfl (any_of HT_.out (by kernel_rfl)) (fun _ _ _ h => h) (Or.inl ⟨by rfl, ?_⟩) ?_ ?_
     rotate_left
     ·
      intro w'
      go_simp
      with_reducible rfl
     rotate_left
     ·
      simp only [Act.put, List.setIfInBounds_toArray, List.set_cons_zero, List.set_cons_succ, i64_w, i32_w]
      rfl
     refine pure_ (i := 5) (N := some 35) (v := ?_) (a' := ?_) (bz 23 63) rfl rfl (any_of HT_.out (by kernel_rfl)) (fun _ _ _ h => h) (Or.inl ⟨by rfl, ?_⟩) ?_ ?_
     rotate_left
     ·
      intro w'
      go_simp
      with_reducible rfl
     rotate_left
     ·
      simp only [Act.put, List.setIfInBounds_toArray, List.set_cons_zero, List.set_cons_succ, i64_w, i32_w]
      rfl
     refine pure_ (i := 6) (N := some 36) (v := ?_) (a' := ?_) (bz 23 127) rfl rfl (any_of HT_.out (by kernel_rfl)) (fun _ _ _ h => h) (Or.inl ⟨by rfl, ?_⟩) ?_ ?_
     rotate_left
     ·
      intro w'
      go_simp
      with_reducible rfl
     rotate_left
     ·
      simp only [Act.put, List.setIfInBounds_toArray, List.set_cons_zero, List.set_cons_succ, i64_w, i32_w]
      rfl
     refine pure_ (i := 7) (N := some 37) (v := ?_) (a' := ?_) (bz 23 255) rfl rfl (any_of HT_.out (by kernel_rfl)) (fun _ _ _ h => h) (Or.inl ⟨by rfl, ?_⟩) ?_ ?_
     rotate_left
     ·
      intro w'
      go_simp
      with_reducible rfl
     rotate_left
     ·
      simp only [Act.put, List.setIfInBounds_toArray, List.set_cons_zero, List.set_cons_succ, i64_w, i32_w]
      rfl
     refine pure_ (i := 8) (N := some 38) (v := ?_) (a' := ?_) (bz 23 511) rfl rfl (any_of HT_.out (by kernel_rfl)) (fun _ _ _ h => h) (Or.inl ⟨by rfl, ?_⟩) ?_ ?_
     rotate_left
     ·
      intro w'
      go_simp
      with_reducible rfl
     rotate_left
     ·
      simp only [Act.put, List.setIfInBounds_toArray, List.set_cons_zero, List.set_cons_succ, i64_w, i32_w]
      rfl
     refine pure_ (i := 9) (N := some 39) (v := ?_) (a' := ?_) (bz 23 1023) rfl rfl (any_of HT_.out (by kernel_rfl)) (fun _ _ _ h => h) (Or.inl ⟨by rfl, ?_⟩) ?_ ?_
     rotate_left
     ·
      intro w'
      go_simp
      with_reducible rfl
     rotate_left
     ·
      simp only [Act.put, List.setIfInBounds_toArray, List.set_cons_zero, List.set_cons_succ, i64_w, i32_w]
      rfl
     refine take_ (i := 10) (N := some 40) (v := ?_) (a' := ?_) (bz 23 2047) rfl rfl (take_ofW HT_.out HW_.out (by kernel_rfl)) (fun _ _ _ h => h) (Or.inl ⟨by rfl, ?_⟩) hHeld ?_ ?_
     rotate_left
     ·
      rintro w' ⟨s0, s1, s2, s3, s4⟩
      go_simp
      with_reducible rfl
     rotate_left
     ·
      simp only [Act.put, List.setIfInBounds_toArray, List.set_cons_zero, List.set_cons_succ, i64_w, i32_w]
      rfl
     refine pure_ (i := 11) (N := some 41) (v := ?_) (a' := ?_) (bz 23 4095) rfl rfl (any_of HT_.out (by kernel_rfl)) (fun _ _ _ h => h) (Or.inl ⟨by rfl, ?_⟩) ?_ ?_
     rotate_left
     ·
      intro w'
      go_simp
      with_reducible rfl
     rotate_left
     ·
      simp only [Act.put, List.setIfInBounds_toArray, List.set_cons_zero, List.set_cons_succ, i64_w, i32_w]
      rfl
     refine pure_ (i := 12) (N := some 42) (v := ?_) (a' := ?_) (bz 23 8191) rfl rfl (any_of HT_.out (by kernel_rfl)) (fun _ _ _ h => h) (Or.inl ⟨by rfl, ?_⟩) ?_ ?_
     rotate_left
     ·
      intro w'
      go_simp
      with_reducible rfl
     rotate_left
     ·
      simp only [Act.put, List.setIfInBounds_toArray, List.set_cons_zero, List.set_cons_succ, i64_w, i32_w]
      rfl
     refine pure_ (i := 13) (N := some 43) (v := ?_) (a' := ?_) (bz 23 16383) rfl rfl (any_of HT_.out (by kernel_rfl)) (fun _ _ _ h => h) (Or.inl ⟨by rfl, ?_⟩) ?_ ?_
     rotate_left
     ·
      intro w'
      go_simp
      with_reducible rfl
     rotate_left
     ·
      simp only [Act.put, List.setIfInBounds_toArray, List.set_cons_zero, List.set_cons_succ, i64_w, i32_w]
      rfl
     refine pure_ (i := 14) (N := some 44) (v := ?_) (a' := ?_) (bz 23 32767) rfl rfl (any_of HT_.out (by kernel_rfl)) (fun _ _ _ h => h) (Or.inl ⟨by rfl, ?_⟩) ?_ ?_
     rotate_left
     ·
      intro w'
      go_simp
      with_reducible rfl
     rotate_left
     ·
      simp only [Act.put, List.setIfInBounds_toArray, List.set_cons_zero, List.set_cons_succ, i64_w, i32_w]
      rfl
     refine pure_ (i := 15) (N := some 45) (v := ?_) (a' := ?_) (bz 23 65535) rfl rfl (any_of HT_.out (by kernel_rfl)) (fun _ _ _ h => h) (Or.inl ⟨by rfl, ?_⟩) ?_ ?_
     rotate_left
     ·
      intro w'
      go_simp
      with_reducible rfl
     rotate_left
     ·
      simp only [Act.put, List.setIfInBounds_toArray, List.set_cons_zero, List.set_cons_succ, i64_w, i32_w]
      rfl
     refine pure_ (i := 18) (N := some 48) (v := ?_) (a' := ?_) (bz 23 327679) rfl rfl (any_of HT_.out (by kernel_rfl)) (fun _ _ _ h => h) (Or.inl ⟨by rfl, ?_⟩) ?_ ?_
     rotate_left
     ·
      intro w'
      go_simp
      with_reducible rfl
     rotate_left
     ·
      simp only [Act.put, List.setIfInBounds_toArray, List.set_cons_zero, List.set_cons_succ, i64_w, i32_w]
      rfl
     refine take_ (i := 16) (N := some 46) (v := ?_) (a' := ?_) (bz 23 393215) rfl rfl (take_ofW HT_.out HW_.out (by kernel_rfl)) (fun _ _ _ h => h) (Or.inl ⟨by rfl, ?_⟩) hHeld ?_ ?_
     rotate_left
     ·
      rintro w' ⟨s0, s1, s2, s3, s4⟩
      go_simp
      with_reducible rfl
     rotate_left
     ·
      simp only [Act.put, List.setIfInBounds_toArray, List.set_cons_zero, List.set_cons_succ, i64_w, i32_w]
      rfl
     refine take_ (i := 17) (N := some 47) (v := ?_) (a' := ?_) (bz 23 524287) rfl rfl (take_ofW HT_.out HW_.out (by kernel_rfl)) (fun _ _ _ h => h) (Or.inl ⟨by rfl, ?_⟩) hHeld ?_ ?_
     rotate_left
     ·
      rintro w' ⟨s0, s1, s2, s3, s4⟩
      go_simp
      with_reducible rfl
     rotate_left
     ·
      simp only [Act.put, List.setIfInBounds_toArray, List.set_cons_zero, List.set_cons_succ, i64_w, i32_w]
      rfl
     refine one_ (i := 19) (N := some 49) (bz 23 1048575) rfl rfl (one_of HT_.out (by kernel_rfl)) (by decide) (fun K hK => ?_)
     refine goes_ Try.func32 (by kernel_rfl) rfl #[.agg #[.slice Ao10 t423.length co10, .int .i64 t426, .slice Ao13 t427.length co13, .int .i64 t430, .slice Ao14 t431.length co14], .slice Ao25 t439.length co25] (by rfl) rfl rfl (by (try simp only [List.map_toArray, List.map_cons, List.map_nil]); first | done | rfl | (simp only [List.length_drop, List.length_take]; rfl)) ?_
     with_reducible refine (swarflaw04_kept.calls k _ _ t423 t426 _ _ t427 t430 _ _ t431 _ _ t439 t448 _ ?side1 ?side2 ?side3 ?side4 ?side5 ?side6 ?side7 ?side8 A21.out).mono ?_
     (case side1 => repeat (first | exact (Kd.N_reads' HO425.out).2.2 | (with_reducible refine Kd.C_alloc ?_ _) | (with_reducible refine Kd.C_drewN ?_ _) | (with_reducible refine Kd.C_drew ?_)))
     (case side2 => exact (Kd.N_reads' HO425.out).2.1)
     (case side3 => repeat (first | exact (Kd.R_reads' HO429.out).2.2 | (with_reducible refine Kd.C_alloc ?_ _) | (with_reducible refine Kd.C_drewN ?_ _) | (with_reducible refine Kd.C_drew ?_)))
     (case side4 => exact (Kd.R_reads' HO429.out).2.1)
     (case side5 => repeat (first | exact (Kd.R_reads' HO433.out).2.2 | (with_reducible refine Kd.C_alloc ?_ _) | (with_reducible refine Kd.C_drewN ?_ _) | (with_reducible refine Kd.C_drew ?_)))
     (case side6 => exact (Kd.R_reads' HO433.out).2.1)
     (case side7 => repeat (first | exact (Kd.R_reads' HO441.out).2.2 | (with_reducible refine Kd.C_alloc ?_ _) | (with_reducible refine Kd.C_drewN ?_ _) | (with_reducible refine Kd.C_drew ?_)))
     (case side8 => exact (Kd.R_reads' HO441.out).2.1)
     rintro e w26 ⟨v449, rfl, ho0, hb⟩
     refine ⟨_, rfl, ?_⟩
     have n0_ := Aside0.mk (Kd.N_elder' (Kd.N_x HO425.out) (Kd.R_base ho0) hb)
     have n1_ := Aside0.mk (Kd.R_below (Kd.R_x HO429.out) hb)
     have n2_ := Aside0.mk (Kd.R_elder' (Kd.R_x HO433.out) (Kd.R_base ho0) hb)
     have n3_ := Aside0.mk (Kd.R_below (Kd.R_x HO436.out) hb)
     have n4_ := Aside0.mk (Kd.R_elder' (Kd.R_x HO441.out) (Kd.R_base ho0) hb)
     have n5_ := Aside0.mk (Kd.R_elder' (Kd.R_x HO446.out) (Kd.R_base ho0) hb)
     have n6_ := Aside0.mk (Kd.R_lower (Kd.R_new' (Kd.R_new' (Kd.R_new' ho0 (Kd.R_lt (Kd.R_x HO433.out))) (Kd.R_lt (Kd.R_x HO441.out))) (Kd.R_lt (Kd.R_x HO446.out))) (below_size (by repeat (first | (with_reducible first | exact HB.out | apply below_alloc | apply pw_below_drewN | apply below_drew1 | refine below_set ?_ (IsS79.ge HI422.out) | refine below_set ?_ GE438.out) | exact HB.out))))
     have n7_ := Aside0.mk (IsS79.below (by repeat (first | (with_reducible first | exact HI422.out | apply IsS79.alloc | apply IsS79.drewN | apply IsS79.drew | apply IsS79.set_0 | refine IsS79.far ?_ NB422_438.out _) | exact HI422.out)) hb)
     have n8_ := Aside0.mk (blk_below (g := gb438) (o := .cells #[.slice Ao10 t423.length co10, .int .i64 t426, .slice Ao13 t427.length co13, .int .i64 t430, .slice Ao14 t431.length co14] 26 (0, 0)) (blk_x BK438.out) hb)
     have n9_ := Aside0.mk (below_step (by repeat (first | (with_reducible first | exact HB.out | apply below_alloc | apply pw_below_drewN | apply below_drew1 | refine below_set ?_ (IsS79.ge HI422.out) | refine below_set ?_ GE438.out) | exact HB.out)) hb)
     clear HO425 HO429 HO433 HO436 HO441 HO446 HI422 BK438 HB
     have HO425 := n0_
     have HO429 := n1_
     have HO433 := n2_
     have HO436 := n3_
     have HO441 := n4_
     have HO446 := n5_
     have HO450 := n6_
     have HI422 := n7_
     have BK438 := n8_
     have HB := n9_
     clear n0_ n1_ n2_ n3_ n4_ n5_ n6_ n7_ n8_ n9_
     (try clear hb)
     (try clear hb2)
     (try clear hk)
     (try clear hi)
     (try clear ho0)
     obtain ⟨Ao27, co27, eo27⟩ := Kd.R_slice HO450.out
     (first | subst eo27 | (injection eo27 with f1_ f2_ f3_; have f4_ := f1_.symm; have f5_ := f3_.symm; clear f1_ f2_ f3_; subst f4_; subst f5_))
     refine hK.out _ _ ⟨(blk_cell BK438.out 0).trans rfl, (blk_cell BK438.out 1).trans rfl, (blk_cell BK438.out 2).trans rfl, (blk_cell BK438.out 3).trans rfl, (blk_cell BK438.out 4).trans rfl⟩ (fun hHeld => ?_)
     clear hK K
     refine norm_ (a' := ?_) ?_ ?_
     rotate_left
     ·
      show Act.put _ (some 49) _ = _
      simp only [Act.put, List.setIfInBounds_toArray, List.set_cons_zero, List.set_cons_succ, i64_w, i32_w]
      rfl
     refine one_ (i := 20) (N := some 50) (bz 23 2097151) rfl rfl (one_of HT_.out (by kernel_rfl)) (by decide) (fun K hK => ?_)
     refine goes_ Try.func31 (by kernel_rfl) rfl #[.agg #[.slice Ao10 t423.length co10, .int .i64 t426, .slice Ao13 t427.length co13, .int .i64 t430, .slice Ao14 t431.length co14], .slice Ao27 t448.length co27] (by rfl) rfl rfl (by (try simp only [List.map_toArray, List.map_cons, List.map_nil]); first | done | rfl | (simp only [List.length_drop, List.length_take]; rfl)) ?_
     with_reducible refine (swarfref04_Time.calls k _ _ t423 t426 _ _ t427 t430 _ _ t431 _ _ t448 t451 _ ?side1 ?side2 ?side3 ?side4 ?side5 ?side6 ?side7 ?side8 A22.out).mono ?_
     (case side1 => repeat (first | exact (Kd.N_reads' HO425.out).2.2 | (with_reducible refine Kd.C_alloc ?_ _) | (with_reducible refine Kd.C_drewN ?_ _) | (with_reducible refine Kd.C_drew ?_)))
     (case side2 => exact (Kd.N_reads' HO425.out).2.1)
     (case side3 => repeat (first | exact (Kd.R_reads' HO429.out).2.2 | (with_reducible refine Kd.C_alloc ?_ _) | (with_reducible refine Kd.C_drewN ?_ _) | (with_reducible refine Kd.C_drew ?_)))
     (case side4 => exact (Kd.R_reads' HO429.out).2.1)
     (case side5 => repeat (first | exact (Kd.R_reads' HO433.out).2.2 | (with_reducible refine Kd.C_alloc ?_ _) | (with_reducible refine Kd.C_drewN ?_ _) | (with_reducible refine Kd.C_drew ?_)))
     (case side6 => exact (Kd.R_reads' HO433.out).2.1)
     (case side7 => repeat (first | exact (Kd.R_reads' HO450.out).2.2 | (with_reducible refine Kd.C_alloc ?_ _) | (with_reducible refine Kd.C_drewN ?_ _) | (with_reducible refine Kd.C_drew ?_)))
     (case side8 => exact (Kd.R_reads' HO450.out).2.1)
     rintro e w28 ⟨rfl, hb⟩
     refine ⟨_, rfl, ?_⟩
     have n0_ := Aside0.mk (Kd.N_below (Kd.N_x HO425.out) hb)
     have n1_ := Aside0.mk (Kd.R_below (Kd.R_x HO429.out) hb)
     have n2_ := Aside0.mk (Kd.R_below (Kd.R_x HO433.out) hb)
     have n3_ := Aside0.mk (Kd.R_below (Kd.R_x HO436.out) hb)
     have n4_ := Aside0.mk (Kd.R_below (Kd.R_x HO441.out) hb)
     have n5_ := Aside0.mk (Kd.R_below (Kd.R_x HO446.out) hb)
     have n6_ := Aside0.mk (Kd.R_below (Kd.R_x HO450.out) hb)
     have n7_ := Aside0.mk (IsS79.below (by repeat (first | (with_reducible first | exact HI422.out | apply IsS79.alloc | apply IsS79.drewN | apply IsS79.drew | apply IsS79.set_0 | refine IsS79.far ?_ NB422_438.out _) | exact HI422.out)) hb)
     have n8_ := Aside0.mk (blk_below (g := gb438) (o := .cells #[.slice Ao10 t423.length co10, .int .i64 t426, .slice Ao13 t427.length co13, .int .i64 t430, .slice Ao14 t431.length co14] 26 (0, 0)) (blk_x BK438.out) hb)
     have n9_ := Aside0.mk (below_step (by repeat (first | (with_reducible first | exact HB.out | apply below_alloc | apply pw_below_drewN | apply below_drew1 | refine below_set ?_ (IsS79.ge HI422.out) | refine below_set ?_ GE438.out) | exact HB.out)) hb)
     clear HO425 HO429 HO433 HO436 HO441 HO446 HO450 HI422 BK438 HB
     have HO425 := n0_
     have HO429 := n1_
     have HO433 := n2_
     have HO436 := n3_
     have HO441 := n4_
     have HO446 := n5_
     have HO450 := n6_
     have HI422 := n7_
     have BK438 := n8_
     have HB := n9_
     clear n0_ n1_ n2_ n3_ n4_ n5_ n6_ n7_ n8_ n9_
     (try clear hb)
     (try clear hb2)
     (try clear hk)
     (try clear hi)
     refine hK.out _ _ ⟨(blk_cell BK438.out 0).trans rfl, (blk_cell BK438.out 1).trans rfl, (blk_cell BK438.out 2).trans rfl, (blk_cell BK438.out 3).trans rfl, (blk_cell BK438.out 4).trans rfl⟩ (fun hHeld => ?_)
     clear hK K
     refine norm_ (a' := ?_) ?_ ?_
     rotate_left
     ·
      show Act.put _ (some 50) _ = _
      simp only [Act.put, List.setIfInBounds_toArray, List.set_cons_zero, List.set_cons_succ, i64_w, i32_w]
      rfl
     refine pure_ (i := 21) (N := some 51) (v := ?_) (a' := ?_) (bz 23 4194303) rfl rfl (any_of HT_.out (by kernel_rfl)) (fun _ _ _ h => h) (Or.inl ⟨by rfl, ?_⟩) ?_ ?_
     rotate_left
     ·
      intro w'
      go_simp
      with_reducible rfl
     rotate_left
     ·
      simp only [Act.put, List.setIfInBounds_toArray, List.set_cons_zero, List.set_cons_succ, i64_w, i32_w]
      rfl
     refine pure_ (i := 22) (N := some 52) (v := ?_) (a' := ?_) (bz 23 8388607) rfl rfl (any_of HT_.out (by kernel_rfl)) (fun _ _ _ h => h) (Or.inl ⟨by rfl, ?_⟩) ?_ ?_
     rotate_left
     ·
      intro w'
      go_simp
      with_reducible rfl
     rotate_left
     ·
      simp only [Act.put, List.setIfInBounds_toArray, List.set_cons_zero, List.set_cons_succ, i64_w, i32_w]
      rfl
     refine done_ (done_of HT_.out (by kernel_rfl)) ?_
     try go_wp2
     go_meet
     case rel => exact ⟨_, ((t442 != t451)), (by first | rfl | (simp; done) | (simp [*]; done)), H', ⟨by first | omega | exact Nat.le_refl _⟩, ⟨by (with_reducible repeat (first | apply Kd.R_alloc | apply Kd.R_drewN | apply Kd.R_drew)); exact Kd.R_mono HO441.out (fun _ hk => ⟨hk.1.2, hk.1.1.2⟩)⟩, ⟨by (with_reducible repeat (first | apply Kd.R_alloc | apply Kd.R_drewN | apply Kd.R_drew)); exact Kd.R_mono HO446.out (fun _ hk => ⟨hk.1.2, hk.1.1.2⟩)⟩, ⟨by (with_reducible repeat (first | apply Kd.N_alloc | apply Kd.N_drewN | apply Kd.N_drew)); exact Kd.N_mono HO425.out (fun _ hk => ⟨hk.1.1.2, ⟨hk.1.2, ⟨hk.1.1.1.1.1, ⟨hk.1.1.1.1.2.1, hk.1.1.1.2⟩⟩⟩⟩)⟩, ⟨by (with_reducible repeat (first | apply Kd.R_alloc | apply Kd.R_drewN | apply Kd.R_drew)); exact HO429.out⟩, ⟨by (with_reducible repeat (first | apply Kd.R_alloc | apply Kd.R_drewN | apply Kd.R_drew)); exact Kd.R_mono HO433.out (fun _ hk => ⟨hk.1.1.2, hk.1.2⟩)⟩, ⟨by (with_reducible repeat (first | refine blk_drewN ?_ _ | refine blk_drew ?_ | refine blk_alloc ?_ _)); exact BK438.out⟩, ⟨by repeat (first | (with_reducible first | exact HB.out | apply below_alloc | apply pw_below_drewN | apply below_drew1 | refine below_set ?_ (IsS79.ge HI422.out) | refine below_set ?_ GE438.out) | exact HB.out)⟩⟩
    ·
     rw [if_neg c20] at H
     have c20b0 : ((t444.length : Int) == (t423.length : Int)) = false := beq_eq_false_iff_ne.mpr c20
     have c20b1 : ((t444.length : Int) != (t423.length : Int)) = true := bne_iff_ne.mpr c20
     have c20b2 : (t444.length == t423.length) = false := by first | simpa using c20 | (simp at c20 ⊢; omega)
     have H' := Aside0.mk H
     clear H
     try go_wp2
     have n0_ := Aside0.mk (Kd.N_drew HO425.out)
     have n1_ := Aside0.mk (Kd.R_drew HO429.out)
     have n2_ := Aside0.mk (Kd.R_drew HO433.out)
     have n3_ := Aside0.mk (Kd.R_drew HO436.out)
     have n4_ := Aside0.mk (Kd.R_drew HO441.out)
     have n5_ := Aside0.mk (Kd.R_drew HO446.out)
     have n6_ := Aside0.mk (blk_drew BK438.out)
     have n7_ := Aside0.mk (IsS79.drew HI422.out)
     have n8_ := Aside0.mk (below_drew1 HB.out)
     clear HO425 HO429 HO433 HO436 HO441 HO446 BK438 HI422 HB
     have HO425 := n0_
     have HO429 := n1_
     have HO433 := n2_
     have HO436 := n3_
     have HO441 := n4_
     have HO446 := n5_
     have BK438 := n6_
     have HI422 := n7_
     have HB := n8_
     clear n0_ n1_ n2_ n3_ n4_ n5_ n6_ n7_ n8_
     obtain ⟨Ao30, co30, eo30⟩ := Kd.R_slice HO446.out
     (first | subst eo30 | (injection eo30 with f1_ f2_ f3_; have f4_ := f1_.symm; have f5_ := f3_.symm; clear f1_ f2_ f3_; subst f4_; subst f5_))
     refine start_ (n := 23) (S := fun w' => w'.cell? ⟨gb438, 0, none⟩ = some (.slice Ao10 t423.length co10) ∧ w'.cell? ⟨gb438, 1, none⟩ = some (.int .i64 t426) ∧ w'.cell? ⟨gb438, 2, none⟩ = some (.slice Ao13 t427.length co13) ∧ w'.cell? ⟨gb438, 3, none⟩ = some (.int .i64 t430) ∧ w'.cell? ⟨gb438, 4, none⟩ = some (.slice Ao14 t431.length co14)) (ds := []) #[false, false, false, false, false, false, false, false, false, false, false, false, false, false, false, false, false, false, false, false, false, false, false] (by kernel_rfl) rfl rfl ⟨(blk_cell BK438.out 0).trans rfl, (blk_cell BK438.out 1).trans rfl, (blk_cell BK438.out 2).trans rfl, (blk_cell BK438.out 3).trans rfl, (blk_cell BK438.out 4).trans rfl⟩ (fun hHeld => ?_); refine with_tabW swarflaw04_StripWorked.tab4 swarflaw04_StripWorked.bits4 (fun HT_ HW_ => ?_)
     generalize w17.drew = w29 at HO425 HO429 HO433 HO436 HO441 HO446 BK438 HI422 HB hHeld ⊢
     refine pure_ (i := 0) (N := some 30) (v := ?_) (a' := ?_) (bz 23 1) rfl rfl (any_of HT_.out (by kernel_rfl)) (fun _ _ _ h => h) (Or.inl ⟨by rfl, ?_⟩) ?_ ?_
     rotate_left
     ·
      intro w'
      go_simp
      with_reducible rfl
     rotate_left
     ·
      simp only [Act.put, List.setIfInBounds_toArray, List.set_cons_zero, List.set_cons_succ, i64_w, i32_w]
      rfl
     refine pure_ (i := 1) (N := some 31) (v := ?_) (a' := ?_) (bz 23 3) rfl rfl (any_of HT_.out (by kernel_rfl)) (fun _ _ _ h => h) (Or.inl ⟨by rfl, ?_⟩) ?_ ?_
     rotate_left
     ·
      intro w'
      go_simp
      with_reducible rfl
     rotate_left
     ·
      simp only [Act.put, List.setIfInBounds_toArray, List.set_cons_zero, List.set_cons_succ, i64_w, i32_w]
      rfl
     refine pure_ (i := 2) (N := some 32) (v := ?_) (a' := ?_) (bz 23 7) rfl rfl (any_of HT_.out (by kernel_rfl)) (fun _ _ _ h => h) (Or.inl ⟨by rfl, ?_⟩) ?_ ?_
     rotate_left
     ·
      intro w'
      go_simp
      with_reducible rfl
     rotate_left
     ·
      simp only [Act.put, List.setIfInBounds_toArray, List.set_cons_zero, List.set_cons_succ, i64_w, i32_w]
      rfl
     refine pure_ (i := 3) (N := some 33) (v := ?_) (a' := ?_) (bz 23 15) rfl rfl (any_of HT_.out (by kernel_rfl)) (fun _ _ _ h => h) (Or.inl ⟨by rfl, ?_⟩) ?_ ?_
     rotate_left
     ·
      intro w'
      go_simp
      with_reducible rfl
     rotate_left
     ·
      simp only [Act.put, List.setIfInBounds_toArray, List.set_cons_zero, List.set_cons_succ, i64_w, i32_w]
      rfl
     refine pure_ (i := 4) (N := some 34) (v := ?_) (a' := ?_) (bz 23 31) rfl rfl (any_of HT_.out (by kernel_rfl)) (fun _ _ _ h => h) (Or.inl ⟨by rfl, ?_⟩) ?_ ?_
     rotate_left
     ·
      intro w'
      go_simp
      with_reducible rfl
     rotate_left
     ·
      simp only [Act.put, List.setIfInBounds_toArray, List.set_cons_zero, List.set_cons_succ, i64_w, i32_w]
      rfl
     refine pure_ (i := 5) (N := some 35) (v := ?_) (a' := ?_) (bz 23 63) rfl rfl (any_of HT_.out (by kernel_rfl)) (fun _ _ _ h => h) (Or.inl ⟨by rfl, ?_⟩) ?_ ?_
     rotate_left
     ·
      intro w'
      go_simp
      with_reducible rfl
     rotate_left
     ·
      simp only [Act.put, List.setIfInBounds_toArray, List.set_cons_zero, List.set_cons_succ, i64_w, i32_w]
      rfl
     refine pure_ (i := 6) (N := some 36) (v := ?_) (a' := ?_) (bz 23 127) rfl rfl (any_of HT_.out (by kernel_rfl)) (fun _ _ _ h => h) (Or.inl ⟨by rfl, ?_⟩) ?_ ?_
     rotate_left
     ·
      intro w'
      go_simp
      with_reducible rfl
     rotate_left
     ·
      simp only [Act.put, List.setIfInBounds_toArray, List.set_cons_zero, List.set_cons_succ, i64_w, i32_w]
      rfl
     refine pure_ (i := 7) (N := some 37) (v := ?_) (a' := ?_) (bz 23 255) rfl rfl (any_of HT_.out (by kernel_rfl)) (fun _ _ _ h => h) (Or.inl ⟨by rfl, ?_⟩) ?_ ?_
     rotate_left
     ·
      intro w'
      go_simp
      with_reducible rfl
     rotate_left
     ·
      simp only [Act.put, List.setIfInBounds_toArray, List.set_cons_zero, List.set_cons_succ, i64_w, i32_w]
      rfl
     refine pure_ (i := 8) (N := some 38) (v := ?_) (a' := ?_) (bz 23 511) rfl rfl (any_of HT_.out (by kernel_rfl)) (fun _ _ _ h => h) (Or.inl ⟨by rfl, ?_⟩) ?_ ?_
     rotate_left
     ·
      intro w'
      go_simp
      with_reducible rfl
     rotate_left
     ·
      simp only [Act.put, List.setIfInBounds_toArray, List.set_cons_zero, List.set_cons_succ, i64_w, i32_w]
      rfl
     refine pure_ (i := 9) (N := some 39) (v := ?_) (a' := ?_) (bz 23 1023) rfl rfl (any_of HT_.out (by kernel_rfl)) (fun _ _ _ h => h) (Or.inl ⟨by rfl, ?_⟩) ?_ ?_
     rotate_left
     ·
      intro w'
      go_simp
      with_reducible rfl
     rotate_left
     ·
      simp only [Act.put, List.setIfInBounds_toArray, List.set_cons_zero, List.set_cons_succ, i64_w, i32_w]
      rfl
     refine take_ (i := 10) (N := some 40) (v := ?_) (a' := ?_) (bz 23 2047) rfl rfl (take_ofW HT_.out HW_.out (by kernel_rfl)) (fun _ _ _ h => h) (Or.inl ⟨by rfl, ?_⟩) hHeld ?_ ?_
     rotate_left
     ·
      rintro w' ⟨s0, s1, s2, s3, s4⟩
      go_simp
      with_reducible rfl
     rotate_left
     ·
      simp only [Act.put, List.setIfInBounds_toArray, List.set_cons_zero, List.set_cons_succ, i64_w, i32_w]
      rfl
     refine pure_ (i := 11) (N := some 41) (v := ?_) (a' := ?_) (bz 23 4095) rfl rfl (any_of HT_.out (by kernel_rfl)) (fun _ _ _ h => h) (Or.inl ⟨by rfl, ?_⟩) ?_ ?_
     rotate_left
     ·
      intro w'
      go_simp
      with_reducible rfl
     rotate_left
     ·
      simp only [Act.put, List.setIfInBounds_toArray, List.set_cons_zero, List.set_cons_succ, i64_w, i32_w]
      rfl
     refine pure_ (i := 12) (N := some 42) (v := ?_) (a' := ?_) (bz 23 8191) rfl rfl (any_of HT_.out (by kernel_rfl)) (fun _ _ _ h => h) (Or.inl ⟨by rfl, ?_⟩) ?_ ?_
     rotate_left
     ·
      intro w'
      go_simp
      with_reducible rfl
     rotate_left
     ·
      simp only [Act.put, List.setIfInBounds_toArray, List.set_cons_zero, List.set_cons_succ, i64_w, i32_w]
      rfl
     refine pure_ (i := 13) (N := some 43) (v := ?_) (a' := ?_) (bz 23 16383) rfl rfl (any_of HT_.out (by kernel_rfl)) (fun _ _ _ h => h) (Or.inl ⟨by rfl, ?_⟩) ?_ ?_
     rotate_left
     ·
      intro w'
      go_simp
      with_reducible rfl
     rotate_left
     ·
      simp only [Act.put, List.setIfInBounds_toArray, List.set_cons_zero, List.set_cons_succ, i64_w, i32_w]
      rfl
     refine pure_ (i := 14) (N := some 44) (v := ?_) (a' := ?_) (bz 23 32767) rfl rfl (any_of HT_.out (by kernel_rfl)) (fun _ _ _ h => h) (Or.inl ⟨by rfl, ?_⟩) ?_ ?_
     rotate_left
     ·
      intro w'
      go_simp
      with_reducible rfl
     rotate_left
     ·
      simp only [Act.put, List.setIfInBounds_toArray, List.set_cons_zero, List.set_cons_succ, i64_w, i32_w]
      rfl
     refine pure_ (i := 15) (N := some 45) (v := undef) (a' := ?_) (bz 23 65535) rfl rfl (any_of HT_.out (by kernel_rfl)) (fun _ _ _ h => h) (Or.inr ⟨by rfl, rfl⟩) ?_ ?_
     rotate_left
     ·
      simp only [Act.put, List.setIfInBounds_toArray, List.set_cons_zero, List.set_cons_succ, i64_w, i32_w]
      rfl
     refine pure_ (i := 16) (N := some 46) (v := undef) (a' := ?_) (bz 23 131071) rfl rfl (any_of HT_.out (by kernel_rfl)) (fun _ _ _ h => h) (Or.inr ⟨by rfl, rfl⟩) ?_ ?_
     rotate_left
     ·
      simp only [Act.put, List.setIfInBounds_toArray, List.set_cons_zero, List.set_cons_succ, i64_w, i32_w]
      rfl
     refine pure_ (i := 17) (N := some 47) (v := undef) (a' := ?_) (bz 23 262143) rfl rfl (any_of HT_.out (by kernel_rfl)) (fun _ _ _ h => h) (Or.inr ⟨by rfl, rfl⟩) ?_ ?_
     rotate_left
     ·
      simp only [Act.put, List.setIfInBounds_toArray, List.set_cons_zero, List.set_cons_succ, i64_w, i32_w]
      rfl
     refine pure_ (i := 18) (N := some 48) (v := undef) (a' := ?_) (bz 23 524287) rfl rfl (any_of HT_.out (by kernel_rfl)) (fun _ _ _ h => h) (Or.inr ⟨by rfl, rfl⟩) ?_ ?_
     rotate_left
     ·
      simp only [Act.put, List.setIfInBounds_toArray, List.set_cons_zero, List.set_cons_succ, i64_w, i32_w]
      rfl
     refine pure_ (i := 19) (N := some 49) (v := undef) (a' := ?_) (bz 23 1048575) rfl rfl (any_of HT_.out (by kernel_rfl)) (fun _ _ _ h => h) (Or.inr ⟨by rfl, rfl⟩) ?_ ?_
     rotate_left
     ·
      simp only [Act.put, List.setIfInBounds_toArray, List.set_cons_zero, List.set_cons_succ, i64_w, i32_w]
      rfl
     refine pure_ (i := 20) (N := some 50) (v := undef) (a' := ?_) (bz 23 2097151) rfl rfl (any_of HT_.out (by kernel_rfl)) (fun _ _ _ h => h) (Or.inr ⟨by rfl, rfl⟩) ?_ ?_
     rotate_left
     ·
      simp only [Act.put, List.setIfInBounds_toArray, List.set_cons_zero, List.set_cons_succ, i64_w, i32_w]
      rfl
     refine pure_ (i := 21) (N := some 51) (v := undef) (a' := ?_) (bz 23 4194303) rfl rfl (any_of HT_.out (by kernel_rfl)) (fun _ _ _ h => h) (Or.inr ⟨by rfl, rfl⟩) ?_ ?_
     rotate_left
     ·
      simp only [Act.put, List.setIfInBounds_toArray, List.set_cons_zero, List.set_cons_succ, i64_w, i32_w]
      rfl
     refine pure_ (i := 22) (N := some 52) (v := ?_) (a' := ?_) (bz 23 8388607) rfl rfl (any_of HT_.out (by kernel_rfl)) (fun _ _ _ h => h) (Or.inl ⟨by rfl, ?_⟩) ?_ ?_
     rotate_left
     ·
      intro w'
      go_simp
      with_reducible rfl
     rotate_left
     ·
      simp only [Act.put, List.setIfInBounds_toArray, List.set_cons_zero, List.set_cons_succ, i64_w, i32_w]
      rfl
     refine done_ (done_of HT_.out (by kernel_rfl)) ?_
     try go_wp2
     go_meet
     case rel => exact ⟨_, (true), (by first | rfl | (simp; done) | (simp [*]; done)), H', ⟨by first | omega | exact Nat.le_refl _⟩, ⟨by (with_reducible repeat (first | apply Kd.R_alloc | apply Kd.R_drewN | apply Kd.R_drew)); exact Kd.R_mono HO441.out (fun _ hk => ⟨hk.2, hk.1.2⟩)⟩, ⟨by (with_reducible repeat (first | apply Kd.R_alloc | apply Kd.R_drewN | apply Kd.R_drew)); exact Kd.R_mono HO446.out (fun _ hk => ⟨hk.2, hk.1.2⟩)⟩, ⟨by (with_reducible repeat (first | apply Kd.N_alloc | apply Kd.N_drewN | apply Kd.N_drew)); exact Kd.N_mono HO425.out (fun _ hk => ⟨hk.1.2, ⟨hk.2, ⟨hk.1.1.1.1, ⟨hk.1.1.1.2.1, hk.1.1.2⟩⟩⟩⟩)⟩, ⟨by (with_reducible repeat (first | apply Kd.R_alloc | apply Kd.R_drewN | apply Kd.R_drew)); exact HO429.out⟩, ⟨by (with_reducible repeat (first | apply Kd.R_alloc | apply Kd.R_drewN | apply Kd.R_drew)); exact Kd.R_mono HO433.out (fun _ hk => ⟨hk.1.2, hk.2⟩)⟩, ⟨by (with_reducible repeat (first | refine blk_drewN ?_ _ | refine blk_drew ?_ | refine blk_alloc ?_ _)); exact BK438.out⟩, ⟨by repeat (first | (with_reducible first | exact HB.out | apply below_alloc | apply pw_below_drewN | apply below_drew1 | refine below_set ?_ (IsS79.ge HI422.out) | refine below_set ?_ GE438.out) | exact HB.out)⟩⟩
   ·
    rw [if_neg c19] at H
    have c19b0 : (t447 == 0) = false := beq_eq_false_iff_ne.mpr c19
    have c19b1 : (t447 != 0) = true := bne_iff_ne.mpr c19
    have H' := Aside0.mk H
    clear H
    try go_wp2
    have n0_ := Aside0.mk (Kd.N_drew HO425.out)
    have n1_ := Aside0.mk (Kd.R_drew HO429.out)
    have n2_ := Aside0.mk (Kd.R_drew HO433.out)
    have n3_ := Aside0.mk (Kd.R_drew HO436.out)
    have n4_ := Aside0.mk (Kd.R_drew HO441.out)
    have n5_ := Aside0.mk (Kd.R_drew HO446.out)
    have n6_ := Aside0.mk (blk_drew BK438.out)
    have n7_ := Aside0.mk (IsS79.drew HI422.out)
    have n8_ := Aside0.mk (below_drew1 HB.out)
    clear HO425 HO429 HO433 HO436 HO441 HO446 BK438 HI422 HB
    have HO425 := n0_
    have HO429 := n1_
    have HO433 := n2_
    have HO436 := n3_
    have HO441 := n4_
    have HO446 := n5_
    have BK438 := n6_
    have HI422 := n7_
    have HB := n8_
    clear n0_ n1_ n2_ n3_ n4_ n5_ n6_ n7_ n8_
    refine start_ (n := 23) (S := fun w' => True) (ds := []) #[false, false, false, false, false, false, false, false, false, false, false, false, false, false, false, false, false, false, false, false, false, false, false] (by kernel_rfl) rfl rfl trivial (fun hHeld => ?_); refine with_tabW swarflaw04_StripWorked.tab4 swarflaw04_StripWorked.bits4 (fun HT_ HW_ => ?_)
    generalize w17.drew = w31 at HO425 HO429 HO433 HO436 HO441 HO446 BK438 HI422 HB hHeld ⊢
    refine pure_ (i := 0) (N := some 30) (v := ?_) (a' := ?_) (bz 23 1) rfl rfl (any_of HT_.out (by kernel_rfl)) (fun _ _ _ h => h) (Or.inl ⟨by rfl, ?_⟩) ?_ ?_
    rotate_left
    ·
     intro w'
     go_simp
     with_reducible rfl
    rotate_left
    ·
     simp only [Act.put, List.setIfInBounds_toArray, List.set_cons_zero, List.set_cons_succ, i64_w, i32_w]
     rfl
    refine pure_ (i := 1) (N := some 31) (v := ?_) (a' := ?_) (bz 23 3) rfl rfl (any_of HT_.out (by kernel_rfl)) (fun _ _ _ h => h) (Or.inl ⟨by rfl, ?_⟩) ?_ ?_
    rotate_left
    ·
     intro w'
     go_simp
     with_reducible rfl
    rotate_left
    ·
     simp only [Act.put, List.setIfInBounds_toArray, List.set_cons_zero, List.set_cons_succ, i64_w, i32_w]
     rfl
    refine pure_ (i := 2) (N := some 32) (v := ?_) (a' := ?_) (bz 23 7) rfl rfl (any_of HT_.out (by kernel_rfl)) (fun _ _ _ h => h) (Or.inl ⟨by rfl, ?_⟩) ?_ ?_
    rotate_left
    ·
     intro w'
     go_simp
     with_reducible rfl
    rotate_left
    ·
     simp only [Act.put, List.setIfInBounds_toArray, List.set_cons_zero, List.set_cons_succ, i64_w, i32_w]
     rfl
    refine pure_ (i := 3) (N := some 33) (v := ?_) (a' := ?_) (bz 23 15) rfl rfl (any_of HT_.out (by kernel_rfl)) (fun _ _ _ h => h) (Or.inl ⟨by rfl, ?_⟩) ?_ ?_
    rotate_left
    ·
     intro w'
     go_simp
     with_reducible rfl
    rotate_left
    ·
     simp only [Act.put, List.setIfInBounds_toArray, List.set_cons_zero, List.set_cons_succ, i64_w, i32_w]
     rfl
    refine pure_ (i := 4) (N := some 34) (v := ?_) (a' := ?_) (bz 23 31) rfl rfl (any_of HT_.out (by kernel_rfl)) (fun _ _ _ h => h) (Or.inl ⟨by rfl, ?_⟩) ?_ ?_
    rotate_left
    ·
     intro w'
     go_simp
     with_reducible rfl
    rotate_left
    ·
     simp only [Act.put, List.setIfInBounds_toArray, List.set_cons_zero, List.set_cons_succ, i64_w, i32_w]
     rfl
    refine pure_ (i := 5) (N := some 35) (v := ?_) (a' := ?_) (bz 23 63) rfl rfl (any_of HT_.out (by kernel_rfl)) (fun _ _ _ h => h) (Or.inl ⟨by rfl, ?_⟩) ?_ ?_
    rotate_left
    ·
     intro w'
     go_simp
     with_reducible rfl
    rotate_left
    ·
     simp only [Act.put, List.setIfInBounds_toArray, List.set_cons_zero, List.set_cons_succ, i64_w, i32_w]
     rfl
    refine pure_ (i := 6) (N := some 36) (v := ?_) (a' := ?_) (bz 23 127) rfl rfl (any_of HT_.out (by kernel_rfl)) (fun _ _ _ h => h) (Or.inl ⟨by rfl, ?_⟩) ?_ ?_
    rotate_left
    ·
     intro w'
     go_simp
     with_reducible rfl
    rotate_left
    ·
     simp only [Act.put, List.setIfInBounds_toArray, List.set_cons_zero, List.set_cons_succ, i64_w, i32_w]
     rfl
    refine pure_ (i := 7) (N := some 37) (v := undef) (a' := ?_) (bz 23 255) rfl rfl (any_of HT_.out (by kernel_rfl)) (fun _ _ _ h => h) (Or.inr ⟨by rfl, rfl⟩) ?_ ?_
    rotate_left
    ·
     simp only [Act.put, List.setIfInBounds_toArray, List.set_cons_zero, List.set_cons_succ, i64_w, i32_w]
     rfl
    refine pure_ (i := 8) (N := some 38) (v := undef) (a' := ?_) (bz 23 511) rfl rfl (any_of HT_.out (by kernel_rfl)) (fun _ _ _ h => h) (Or.inr ⟨by rfl, rfl⟩) ?_ ?_
    rotate_left
    ·
     simp only [Act.put, List.setIfInBounds_toArray, List.set_cons_zero, List.set_cons_succ, i64_w, i32_w]
     rfl
    refine pure_ (i := 9) (N := some 39) (v := undef) (a' := ?_) (bz 23 1023) rfl rfl (any_of HT_.out (by kernel_rfl)) (fun _ _ _ h => h) (Or.inr ⟨by rfl, rfl⟩) ?_ ?_
    rotate_left
    ·
     simp only [Act.put, List.setIfInBounds_toArray, List.set_cons_zero, List.set_cons_succ, i64_w, i32_w]
     rfl
    refine pure_ (i := 10) (N := some 40) (v := undef) (a' := ?_) (bz 23 2047) rfl rfl (any_of HT_.out (by kernel_rfl)) (fun _ _ _ h => h) (Or.inr ⟨by rfl, rfl⟩) ?_ ?_
    rotate_left
    ·
     simp only [Act.put, List.setIfInBounds_toArray, List.set_cons_zero, List.set_cons_succ, i64_w, i32_w]
     rfl
    refine pure_ (i := 11) (N := some 41) (v := undef) (a' := ?_) (bz 23 4095) rfl rfl (any_of HT_.out (by kernel_rfl)) (fun _ _ _ h => h) (Or.inr ⟨by rfl, rfl⟩) ?_ ?_
    rotate_left
    ·
     simp only [Act.put, List.setIfInBounds_toArray, List.set_cons_zero, List.set_cons_succ, i64_w, i32_w]
     rfl
    refine pure_ (i := 12) (N := some 42) (v := undef) (a' := ?_) (bz 23 8191) rfl rfl (any_of HT_.out (by kernel_rfl)) (fun _ _ _ h => h) (Or.inr ⟨by rfl, rfl⟩) ?_ ?_
    rotate_left
    ·
     simp only [Act.put, List.setIfInBounds_toArray, List.set_cons_zero, List.set_cons_succ, i64_w, i32_w]
     rfl
    refine pure_ (i := 13) (N := some 43) (v := ?_) (a' := ?_) (bz 23 16383) rfl rfl (any_of HT_.out (by kernel_rfl)) (fun _ _ _ h => h) (Or.inl ⟨by rfl, ?_⟩) ?_ ?_
    rotate_left
    ·
     intro w'
     go_simp
     with_reducible rfl
    rotate_left
    ·
     simp only [Act.put, List.setIfInBounds_toArray, List.set_cons_zero, List.set_cons_succ, i64_w, i32_w]
     rfl
    refine pure_ (i := 14) (N := some 44) (v := ?_) (a' := ?_) (bz 23 32767) rfl rfl (any_of HT_.out (by kernel_rfl)) (fun _ _ _ h => h) (Or.inl ⟨by rfl, ?_⟩) ?_ ?_
    rotate_left
    ·
     intro w'
     go_simp
     with_reducible rfl
    rotate_left
    ·
     simp only [Act.put, List.setIfInBounds_toArray, List.set_cons_zero, List.set_cons_succ, i64_w, i32_w]
     rfl
    refine pure_ (i := 15) (N := some 45) (v := undef) (a' := ?_) (bz 23 65535) rfl rfl (any_of HT_.out (by kernel_rfl)) (fun _ _ _ h => h) (Or.inr ⟨by rfl, rfl⟩) ?_ ?_
    rotate_left
    ·
     simp only [Act.put, List.setIfInBounds_toArray, List.set_cons_zero, List.set_cons_succ, i64_w, i32_w]
     rfl
    refine pure_ (i := 16) (N := some 46) (v := undef) (a' := ?_) (bz 23 131071) rfl rfl (any_of HT_.out (by kernel_rfl)) (fun _ _ _ h => h) (Or.inr ⟨by rfl, rfl⟩) ?_ ?_
    rotate_left
    ·
     simp only [Act.put, List.setIfInBounds_toArray, List.set_cons_zero, List.set_cons_succ, i64_w, i32_w]
     rfl
    refine pure_ (i := 17) (N := some 47) (v := undef) (a' := ?_) (bz 23 262143) rfl rfl (any_of HT_.out (by kernel_rfl)) (fun _ _ _ h => h) (Or.inr ⟨by rfl, rfl⟩) ?_ ?_
    rotate_left
    ·
     simp only [Act.put, List.setIfInBounds_toArray, List.set_cons_zero, List.set_cons_succ, i64_w, i32_w]
     rfl
    refine pure_ (i := 18) (N := some 48) (v := undef) (a' := ?_) (bz 23 524287) rfl rfl (any_of HT_.out (by kernel_rfl)) (fun _ _ _ h => h) (Or.inr ⟨by rfl, rfl⟩) ?_ ?_
    rotate_left
    ·
     simp only [Act.put, List.setIfInBounds_toArray, List.set_cons_zero, List.set_cons_succ, i64_w, i32_w]
     rfl
    refine pure_ (i := 19) (N := some 49) (v := undef) (a' := ?_) (bz 23 1048575) rfl rfl (any_of HT_.out (by kernel_rfl)) (fun _ _ _ h => h) (Or.inr ⟨by rfl, rfl⟩) ?_ ?_
    rotate_left
    ·
     simp only [Act.put, List.setIfInBounds_toArray, List.set_cons_zero, List.set_cons_succ, i64_w, i32_w]
     rfl
    refine pure_ (i := 20) (N := some 50) (v := undef) (a' := ?_) (bz 23 2097151) rfl rfl (any_of HT_.out (by kernel_rfl)) (fun _ _ _ h => h) (Or.inr ⟨by rfl, rfl⟩) ?_ ?_
    rotate_left
    ·
     simp only [Act.put, List.setIfInBounds_toArray, List.set_cons_zero, List.set_cons_succ, i64_w, i32_w]
     rfl
    refine pure_ (i := 21) (N := some 51) (v := undef) (a' := ?_) (bz 23 4194303) rfl rfl (any_of HT_.out (by kernel_rfl)) (fun _ _ _ h => h) (Or.inr ⟨by rfl, rfl⟩) ?_ ?_
    rotate_left
    ·
     simp only [Act.put, List.setIfInBounds_toArray, List.set_cons_zero, List.set_cons_succ, i64_w, i32_w]
     rfl
    refine pure_ (i := 22) (N := some 52) (v := ?_) (a' := ?_) (bz 23 8388607) rfl rfl (any_of HT_.out (by kernel_rfl)) (fun _ _ _ h => h) (Or.inl ⟨by rfl, ?_⟩) ?_ ?_
    rotate_left
    ·
     intro w'
     go_simp
     with_reducible rfl
    rotate_left
    ·
     simp only [Act.put, List.setIfInBounds_toArray, List.set_cons_zero, List.set_cons_succ, i64_w, i32_w]
     rfl
    refine done_ (done_of HT_.out (by kernel_rfl)) ?_
    try go_wp2
    go_meet
    case rel => exact ⟨_, (true), (by first | rfl | (simp; done) | (simp [*]; done)), H', ⟨by first | omega | exact Nat.le_refl _⟩, ⟨by (with_reducible repeat (first | apply Kd.R_alloc | apply Kd.R_drewN | apply Kd.R_drew)); exact Kd.R_mono HO441.out (fun _ hk => ⟨hk.2, hk.1.2⟩)⟩, ⟨by (with_reducible repeat (first | apply Kd.R_alloc | apply Kd.R_drewN | apply Kd.R_drew)); exact Kd.R_mono HO446.out (fun _ hk => ⟨hk.2, hk.1.2⟩)⟩, ⟨by (with_reducible repeat (first | apply Kd.N_alloc | apply Kd.N_drewN | apply Kd.N_drew)); exact Kd.N_mono HO425.out (fun _ hk => ⟨hk.1.2, ⟨hk.2, ⟨hk.1.1.1.1, ⟨hk.1.1.1.2.1, hk.1.1.2⟩⟩⟩⟩)⟩, ⟨by (with_reducible repeat (first | apply Kd.R_alloc | apply Kd.R_drewN | apply Kd.R_drew)); exact HO429.out⟩, ⟨by (with_reducible repeat (first | apply Kd.R_alloc | apply Kd.R_drewN | apply Kd.R_drew)); exact Kd.R_mono HO433.out (fun _ hk => ⟨hk.1.2, hk.2⟩)⟩, ⟨by (with_reducible repeat (first | refine blk_drewN ?_ _ | refine blk_drew ?_ | refine blk_alloc ?_ _)); exact BK438.out⟩, ⟨by repeat (first | (with_reducible first | exact HB.out | apply below_alloc | apply pw_below_drewN | apply below_drew1 | refine below_set ?_ (IsS79.ge HI422.out) | refine below_set ?_ GE438.out) | exact HB.out)⟩⟩
  ·
   rw [if_neg c18] at H
   have c18b0 : (t443 == 0) = false := beq_eq_false_iff_ne.mpr c18
   have c18b1 : (t443 != 0) = true := bne_iff_ne.mpr c18
   (first | rw [c18b0] | (simp only [i64_w, i32_w]; rw [c18b0]) | skip)
   have H' := Aside0.mk H
   clear H
   try go_wp2
   have n0_ := Aside0.mk (Kd.N_drew HO425.out)
   have n1_ := Aside0.mk (Kd.R_drew HO429.out)
   have n2_ := Aside0.mk (Kd.R_drew HO433.out)
   have n3_ := Aside0.mk (Kd.R_drew HO436.out)
   have n4_ := Aside0.mk (Kd.R_drew HO441.out)
   have n5_ := Aside0.mk (Kd.R_drew HO446.out)
   have n6_ := Aside0.mk (blk_drew BK438.out)
   have n7_ := Aside0.mk (IsS79.drew HI422.out)
   have n8_ := Aside0.mk (below_drew1 HB.out)
   clear HO425 HO429 HO433 HO436 HO441 HO446 BK438 HI422 HB
   have HO425 := n0_
   have HO429 := n1_
   have HO433 := n2_
   have HO436 := n3_
   have HO441 := n4_
   have HO446 := n5_
   have BK438 := n6_
   have HI422 := n7_
   have HB := n8_
   clear n0_ n1_ n2_ n3_ n4_ n5_ n6_ n7_ n8_
   refine start_ (n := 23) (S := fun w' => True) (ds := []) #[false, false, false, false, false, false, false, false, false, false, false, false, false, false, false, false, false, false, false, false, false, false, false] (by kernel_rfl) rfl rfl trivial (fun hHeld => ?_); refine with_tabW swarflaw04_StripWorked.tab4 swarflaw04_StripWorked.bits4 (fun HT_ HW_ => ?_)
   generalize w17.drew = w32 at HO425 HO429 HO433 HO436 HO441 HO446 BK438 HI422 HB hHeld ⊢
   refine pure_ (i := 0) (N := some 30) (v := ?_) (a' := ?_) (bz 23 1) rfl rfl (any_of HT_.out (by kernel_rfl)) (fun _ _ _ h => h) (Or.inl ⟨by rfl, ?_⟩) ?_ ?_
   rotate_left
   ·
    intro w'
    go_simp
    with_reducible rfl
   rotate_left
   ·
    simp only [Act.put, List.setIfInBounds_toArray, List.set_cons_zero, List.set_cons_succ, i64_w, i32_w]
    rfl
   refine pure_ (i := 1) (N := some 31) (v := ?_) (a' := ?_) (bz 23 3) rfl rfl (any_of HT_.out (by kernel_rfl)) (fun _ _ _ h => h) (Or.inl ⟨by rfl, ?_⟩) ?_ ?_
   rotate_left
   ·
    intro w'
    go_simp
    with_reducible rfl
   rotate_left
   ·
    simp only [Act.put, List.setIfInBounds_toArray, List.set_cons_zero, List.set_cons_succ, i64_w, i32_w]
    rfl
   refine pure_ (i := 2) (N := some 32) (v := ?_) (a' := ?_) (bz 23 7) rfl rfl (any_of HT_.out (by kernel_rfl)) (fun _ _ _ h => h) (Or.inl ⟨by rfl, ?_⟩) ?_ ?_
   rotate_left
   ·
    intro w'
    go_simp
    with_reducible rfl
   rotate_left
   ·
    simp only [Act.put, List.setIfInBounds_toArray, List.set_cons_zero, List.set_cons_succ, i64_w, i32_w]
    rfl
   refine pure_ (i := 3) (N := some 33) (v := undef) (a' := ?_) (bz 23 15) rfl rfl (any_of HT_.out (by kernel_rfl)) (fun _ _ _ h => h) (Or.inr ⟨by rfl, rfl⟩) ?_ ?_
   rotate_left
   ·
    simp only [Act.put, List.setIfInBounds_toArray, List.set_cons_zero, List.set_cons_succ, i64_w, i32_w]
    rfl
   refine pure_ (i := 4) (N := some 34) (v := undef) (a' := ?_) (bz 23 31) rfl rfl (any_of HT_.out (by kernel_rfl)) (fun _ _ _ h => h) (Or.inr ⟨by rfl, rfl⟩) ?_ ?_
   rotate_left
   ·
    simp only [Act.put, List.setIfInBounds_toArray, List.set_cons_zero, List.set_cons_succ, i64_w, i32_w]
    rfl
   refine pure_ (i := 5) (N := some 35) (v := ?_) (a' := ?_) (bz 23 63) rfl rfl (any_of HT_.out (by kernel_rfl)) (fun _ _ _ h => h) (Or.inl ⟨by rfl, ?_⟩) ?_ ?_
   rotate_left
   ·
    intro w'
    go_simp
    with_reducible rfl
   rotate_left
   ·
    simp only [Act.put, List.setIfInBounds_toArray, List.set_cons_zero, List.set_cons_succ, i64_w, i32_w]
    rfl
   refine pure_ (i := 6) (N := some 36) (v := ?_) (a' := ?_) (bz 23 127) rfl rfl (any_of HT_.out (by kernel_rfl)) (fun _ _ _ h => h) (Or.inl ⟨by rfl, ?_⟩) ?_ ?_
   rotate_left
   ·
    intro w'
    go_simp
    with_reducible rfl
   rotate_left
   ·
    simp only [Act.put, List.setIfInBounds_toArray, List.set_cons_zero, List.set_cons_succ, i64_w, i32_w]
    rfl
   refine pure_ (i := 7) (N := some 37) (v := undef) (a' := ?_) (bz 23 255) rfl rfl (any_of HT_.out (by kernel_rfl)) (fun _ _ _ h => h) (Or.inr ⟨by rfl, rfl⟩) ?_ ?_
   rotate_left
   ·
    simp only [Act.put, List.setIfInBounds_toArray, List.set_cons_zero, List.set_cons_succ, i64_w, i32_w]
    rfl
   refine pure_ (i := 8) (N := some 38) (v := undef) (a' := ?_) (bz 23 511) rfl rfl (any_of HT_.out (by kernel_rfl)) (fun _ _ _ h => h) (Or.inr ⟨by rfl, rfl⟩) ?_ ?_
   rotate_left
   ·
    simp only [Act.put, List.setIfInBounds_toArray, List.set_cons_zero, List.set_cons_succ, i64_w, i32_w]
    rfl
   refine pure_ (i := 9) (N := some 39) (v := undef) (a' := ?_) (bz 23 1023) rfl rfl (any_of HT_.out (by kernel_rfl)) (fun _ _ _ h => h) (Or.inr ⟨by rfl, rfl⟩) ?_ ?_
   rotate_left
   ·
    simp only [Act.put, List.setIfInBounds_toArray, List.set_cons_zero, List.set_cons_succ, i64_w, i32_w]
    rfl
   refine pure_ (i := 10) (N := some 40) (v := undef) (a' := ?_) (bz 23 2047) rfl rfl (any_of HT_.out (by kernel_rfl)) (fun _ _ _ h => h) (Or.inr ⟨by rfl, rfl⟩) ?_ ?_
   rotate_left
   ·
    simp only [Act.put, List.setIfInBounds_toArray, List.set_cons_zero, List.set_cons_succ, i64_w, i32_w]
    rfl
   refine pure_ (i := 11) (N := some 41) (v := undef) (a' := ?_) (bz 23 4095) rfl rfl (any_of HT_.out (by kernel_rfl)) (fun _ _ _ h => h) (Or.inr ⟨by rfl, rfl⟩) ?_ ?_
   rotate_left
   ·
    simp only [Act.put, List.setIfInBounds_toArray, List.set_cons_zero, List.set_cons_succ, i64_w, i32_w]
    rfl
   refine pure_ (i := 12) (N := some 42) (v := undef) (a' := ?_) (bz 23 8191) rfl rfl (any_of HT_.out (by kernel_rfl)) (fun _ _ _ h => h) (Or.inr ⟨by rfl, rfl⟩) ?_ ?_
   rotate_left
   ·
    simp only [Act.put, List.setIfInBounds_toArray, List.set_cons_zero, List.set_cons_succ, i64_w, i32_w]
    rfl
   refine pure_ (i := 13) (N := some 43) (v := ?_) (a' := ?_) (bz 23 16383) rfl rfl (any_of HT_.out (by kernel_rfl)) (fun _ _ _ h => h) (Or.inl ⟨by rfl, ?_⟩) ?_ ?_
   rotate_left
   ·
    intro w'
    go_simp
    with_reducible rfl
   rotate_left
   ·
    simp only [Act.put, List.setIfInBounds_toArray, List.set_cons_zero, List.set_cons_succ, i64_w, i32_w]
    rfl
   refine pure_ (i := 14) (N := some 44) (v := ?_) (a' := ?_) (bz 23 32767) rfl rfl (any_of HT_.out (by kernel_rfl)) (fun _ _ _ h => h) (Or.inl ⟨by rfl, ?_⟩) ?_ ?_
   rotate_left
   ·
    intro w'
    go_simp
    with_reducible rfl
   rotate_left
   ·
    simp only [Act.put, List.setIfInBounds_toArray, List.set_cons_zero, List.set_cons_succ, i64_w, i32_w]
    rfl
   refine pure_ (i := 15) (N := some 45) (v := undef) (a' := ?_) (bz 23 65535) rfl rfl (any_of HT_.out (by kernel_rfl)) (fun _ _ _ h => h) (Or.inr ⟨by rfl, rfl⟩) ?_ ?_
   rotate_left
   ·
    simp only [Act.put, List.setIfInBounds_toArray, List.set_cons_zero, List.set_cons_succ, i64_w, i32_w]
    rfl
   refine pure_ (i := 16) (N := some 46) (v := undef) (a' := ?_) (bz 23 131071) rfl rfl (any_of HT_.out (by kernel_rfl)) (fun _ _ _ h => h) (Or.inr ⟨by rfl, rfl⟩) ?_ ?_
   rotate_left
   ·
    simp only [Act.put, List.setIfInBounds_toArray, List.set_cons_zero, List.set_cons_succ, i64_w, i32_w]
    rfl
   refine pure_ (i := 17) (N := some 47) (v := undef) (a' := ?_) (bz 23 262143) rfl rfl (any_of HT_.out (by kernel_rfl)) (fun _ _ _ h => h) (Or.inr ⟨by rfl, rfl⟩) ?_ ?_
   rotate_left
   ·
    simp only [Act.put, List.setIfInBounds_toArray, List.set_cons_zero, List.set_cons_succ, i64_w, i32_w]
    rfl
   refine pure_ (i := 18) (N := some 48) (v := undef) (a' := ?_) (bz 23 524287) rfl rfl (any_of HT_.out (by kernel_rfl)) (fun _ _ _ h => h) (Or.inr ⟨by rfl, rfl⟩) ?_ ?_
   rotate_left
   ·
    simp only [Act.put, List.setIfInBounds_toArray, List.set_cons_zero, List.set_cons_succ, i64_w, i32_w]
    rfl
   refine pure_ (i := 19) (N := some 49) (v := undef) (a' := ?_) (bz 23 1048575) rfl rfl (any_of HT_.out (by kernel_rfl)) (fun _ _ _ h => h) (Or.inr ⟨by rfl, rfl⟩) ?_ ?_
   rotate_left
   ·
    simp only [Act.put, List.setIfInBounds_toArray, List.set_cons_zero, List.set_cons_succ, i64_w, i32_w]
    rfl
   refine pure_ (i := 20) (N := some 50) (v := undef) (a' := ?_) (bz 23 2097151) rfl rfl (any_of HT_.out (by kernel_rfl)) (fun _ _ _ h => h) (Or.inr ⟨by rfl, rfl⟩) ?_ ?_
   rotate_left
   ·
    simp only [Act.put, List.setIfInBounds_toArray, List.set_cons_zero, List.set_cons_succ, i64_w, i32_w]
    rfl
   refine pure_ (i := 21) (N := some 51) (v := undef) (a' := ?_) (bz 23 4194303) rfl rfl (any_of HT_.out (by kernel_rfl)) (fun _ _ _ h => h) (Or.inr ⟨by rfl, rfl⟩) ?_ ?_
   rotate_left
   ·
    simp only [Act.put, List.setIfInBounds_toArray, List.set_cons_zero, List.set_cons_succ, i64_w, i32_w]
    rfl
   refine pure_ (i := 22) (N := some 52) (v := ?_) (a' := ?_) (bz 23 8388607) rfl rfl (any_of HT_.out (by kernel_rfl)) (fun _ _ _ h => h) (Or.inl ⟨by rfl, ?_⟩) ?_ ?_
   rotate_left
   ·
    intro w'
    go_simp
    with_reducible rfl
   rotate_left
   ·
    simp only [Act.put, List.setIfInBounds_toArray, List.set_cons_zero, List.set_cons_succ, i64_w, i32_w]
    rfl
   refine done_ (done_of HT_.out (by kernel_rfl)) ?_
   try go_wp2
   go_meet
   case rel => exact ⟨_, (true), (by first | rfl | (simp; done) | (simp [*]; done)), H', ⟨by first | omega | exact Nat.le_refl _⟩, ⟨by (with_reducible repeat (first | apply Kd.R_alloc | apply Kd.R_drewN | apply Kd.R_drew)); exact Kd.R_mono HO441.out (fun _ hk => ⟨hk.2, hk.1.2⟩)⟩, ⟨by (with_reducible repeat (first | apply Kd.R_alloc | apply Kd.R_drewN | apply Kd.R_drew)); exact Kd.R_mono HO446.out (fun _ hk => ⟨hk.2, hk.1.2⟩)⟩, ⟨by (with_reducible repeat (first | apply Kd.N_alloc | apply Kd.N_drewN | apply Kd.N_drew)); exact Kd.N_mono HO425.out (fun _ hk => ⟨hk.1.2, ⟨hk.2, ⟨hk.1.1.1.1, ⟨hk.1.1.1.2.1, hk.1.1.2⟩⟩⟩⟩)⟩, ⟨by (with_reducible repeat (first | apply Kd.R_alloc | apply Kd.R_drewN | apply Kd.R_drew)); exact HO429.out⟩, ⟨by (with_reducible repeat (first | apply Kd.R_alloc | apply Kd.R_drewN | apply Kd.R_drew)); exact Kd.R_mono HO433.out (fun _ hk => ⟨hk.1.2, hk.2⟩)⟩, ⟨by (with_reducible repeat (first | refine blk_drewN ?_ _ | refine blk_drew ?_ | refine blk_alloc ?_ _)); exact BK438.out⟩, ⟨by repeat (first | (with_reducible first | exact HB.out | apply below_alloc | apply pw_below_drewN | apply below_drew1 | refine below_set ?_ (IsS79.ge HI422.out) | refine below_set ?_ GE438.out) | exact HB.out)⟩⟩
 case rest =>
  clear HC6
  try clear c1
  try clear c2
  try clear p2
  try clear c18
  try clear c18b0
  try clear c18b1
  try clear c19
  try clear c19b0
  try clear c19b1
  try clear c20
  try clear c20b0
  try clear c20b1
  try clear c20b2
  obtain ⟨kq, x52_5, rfl, HA, HJ5, HO_5, HO_8, HO_439000, HO_439002, HO_439004, BK438, HB⟩ := hcut
  cases kq with
  | zero => exact absurd HA.out (by simp [swarflaw04_StripWorked.j0])
  | succ kj5 =>
   have H := HA.out
   clear HA
   simp only [swarflaw04_StripWorked.j0] at H
   by_cases c33 : x52_5 = true
   ·
    subst c33
    have H1 : (some false) = some r := by rw [if_pos rfl] at H; exact H
    clear H
    have H := H1
    clear H1
    exact absurd ((Option.some.inj H).trans hrt.out) (by decide)
   ·
    replace c33 := Bool.eq_false_iff.mpr c33
    subst c33
    have H1 : ((swarfref04_ToDo.f kj5 t423 t426 t427 t430 t431 t444).bind fun t452 => ((swarfref04_Orders.f kj5 t423 t426 t427 t430 t431 t452 ([] : List Int)).bind fun t455 => (swarflaw04_StripWorked.l0 kj5 t439 t442 t455 0 t423 t426 t427 t430 t431))) = some r := by rw [if_neg (show ¬ (false = true) by decide)] at H; exact H
    clear H
    have H := H1
    clear H1
    replace H := Option.bind_eq_some_iff.mp H
    obtain ⟨t452, A340, H⟩ := H
    replace H : ((swarfref04_Orders.f kj5 t423 t426 t427 t430 t431 t452 ([] : List Int)).bind fun t455 => (swarflaw04_StripWorked.l0 kj5 t439 t442 t455 0 t423 t426 t427 t430 t431)) = some r := H
    have A34 := Aside0.mk A340
    clear A340
    replace H := Option.bind_eq_some_iff.mp H
    obtain ⟨t455, A350, H⟩ := H
    replace H : (swarflaw04_StripWorked.l0 kj5 t439 t442 t455 0 t423 t426 t427 t430 t431) = some r := H
    have A35 := Aside0.mk A350
    clear A350
    have H' := Aside0.mk H
    clear H
    try go_wp2
    have n0_ := Aside0.mk (Kd.R_drew HO_5.out)
    have n1_ := Aside0.mk (Kd.R_drew HO_8.out)
    have n2_ := Aside0.mk (Kd.N_drew HO_439000.out)
    have n3_ := Aside0.mk (Kd.R_drew HO_439002.out)
    have n4_ := Aside0.mk (Kd.R_drew HO_439004.out)
    have n5_ := Aside0.mk (blk_drew BK438.out)
    have n6_ := Aside0.mk (below_drew1 HB.out)
    clear HO_5 HO_8 HO_439000 HO_439002 HO_439004 BK438 HB
    have HO_5 := n0_
    have HO_8 := n1_
    have HO_439000 := n2_
    have HO_439002 := n3_
    have HO_439004 := n4_
    have BK438 := n5_
    have HB := n6_
    clear n0_ n1_ n2_ n3_ n4_ n5_ n6_
    obtain ⟨Ao37, co37, eo37⟩ := Kd.R_slice HO_8.out
    (first | subst eo37 | (injection eo37 with f1_ f2_ f3_; have f4_ := f1_.symm; have f5_ := f3_.symm; clear f1_ f2_ f3_; subst f4_; subst f5_))
    refine start_ (n := 6) (S := fun w' => w'.cell? ⟨gb438, 0, none⟩ = some (.slice Ao10 t423.length co10) ∧ w'.cell? ⟨gb438, 1, none⟩ = some (.int .i64 t426) ∧ w'.cell? ⟨gb438, 2, none⟩ = some (.slice Ao13 t427.length co13) ∧ w'.cell? ⟨gb438, 3, none⟩ = some (.int .i64 t430) ∧ w'.cell? ⟨gb438, 4, none⟩ = some (.slice Ao14 t431.length co14)) (ds := []) #[false, false, false, false, false, false] (by kernel_rfl) rfl rfl ⟨(blk_cell BK438.out 0).trans rfl, (blk_cell BK438.out 1).trans rfl, (blk_cell BK438.out 2).trans rfl, (blk_cell BK438.out 3).trans rfl, (blk_cell BK438.out 4).trans rfl⟩ (fun hHeld => ?_)
    generalize wc.drew = w36 at HO_5 HO_8 HO_439000 HO_439002 HO_439004 BK438 HB hHeld ⊢
    refine pure_ (i := 2) (N := some 55) (v := ?_) (a' := ?_) #[false, false, true, false, false, false] rfl rfl (by kernel_rfl) (fun _ _ _ h => h) (Or.inl ⟨by rfl, ?_⟩) ?_ ?_
    rotate_left
    ·
     intro w'
     go_simp
     with_reducible rfl
    rotate_left
    ·
     simp only [Act.put, List.setIfInBounds_toArray, List.set_cons_zero, List.set_cons_succ, i64_w, i32_w]
     rfl
    refine take_ (i := 0) (N := some 53) (v := ?_) (a' := ?_) #[true, false, true, false, false, false] rfl rfl (by kernel_rfl) (fun _ _ _ h => h) (Or.inl ⟨by rfl, ?_⟩) hHeld ?_ ?_
    rotate_left
    ·
     rintro w' ⟨s0, s1, s2, s3, s4⟩
     go_simp
     with_reducible rfl
    rotate_left
    ·
     simp only [Act.put, List.setIfInBounds_toArray, List.set_cons_zero, List.set_cons_succ, i64_w, i32_w]
     rfl
    refine take_ (i := 1) (N := some 54) (v := ?_) (a' := ?_) #[true, true, true, false, false, false] rfl rfl (by kernel_rfl) (fun _ _ _ h => h) (Or.inl ⟨by rfl, ?_⟩) hHeld ?_ ?_
    rotate_left
    ·
     rintro w' ⟨s0, s1, s2, s3, s4⟩
     go_simp
     with_reducible rfl
    rotate_left
    ·
     simp only [Act.put, List.setIfInBounds_toArray, List.set_cons_zero, List.set_cons_succ, i64_w, i32_w]
     rfl
    refine one_ (i := 3) (N := some 56) #[true, true, true, true, false, false] rfl rfl (by kernel_rfl) (by decide) (fun K hK => ?_)
    refine goes_ Try.func34 (by kernel_rfl) rfl #[.agg #[.slice Ao10 t423.length co10, .int .i64 t426, .slice Ao13 t427.length co13, .int .i64 t430, .slice Ao14 t431.length co14], .slice Ao37 t444.length co37] (by rfl) rfl rfl (by (try simp only [List.map_toArray, List.map_cons, List.map_nil]); first | done | rfl | (simp only [List.length_drop, List.length_take]; rfl)) ?_
    with_reducible refine (swarfref04_ToDo.calls kj5 _ _ t423 t426 _ _ t427 t430 _ _ t431 _ _ t444 t452 _ ?side1 ?side2 ?side3 ?side4 ?side5 ?side6 ?side7 ?side8 A34.out).mono ?_
    (case side1 => repeat (first | exact (Kd.N_reads' HO_439000.out).2.2 | (with_reducible refine Kd.C_alloc ?_ _) | (with_reducible refine Kd.C_drewN ?_ _) | (with_reducible refine Kd.C_drew ?_)))
    (case side2 => exact (Kd.N_reads' HO_439000.out).2.1)
    (case side3 => repeat (first | exact (Kd.R_reads' HO_439002.out).2.2 | (with_reducible refine Kd.C_alloc ?_ _) | (with_reducible refine Kd.C_drewN ?_ _) | (with_reducible refine Kd.C_drew ?_)))
    (case side4 => exact (Kd.R_reads' HO_439002.out).2.1)
    (case side5 => repeat (first | exact (Kd.R_reads' HO_439004.out).2.2 | (with_reducible refine Kd.C_alloc ?_ _) | (with_reducible refine Kd.C_drewN ?_ _) | (with_reducible refine Kd.C_drew ?_)))
    (case side6 => exact (Kd.R_reads' HO_439004.out).2.1)
    (case side7 => repeat (first | exact (Kd.R_reads' HO_8.out).2.2 | (with_reducible refine Kd.C_alloc ?_ _) | (with_reducible refine Kd.C_drewN ?_ _) | (with_reducible refine Kd.C_drew ?_)))
    (case side8 => exact (Kd.R_reads' HO_8.out).2.1)
    rintro e w38 ⟨v453, rfl, ho0, hb⟩
    refine ⟨_, rfl, ?_⟩
    have n0_ := Aside0.mk (Kd.R_below (Kd.R_x HO_5.out) hb)
    have n1_ := Aside0.mk (Kd.R_below (Kd.R_x HO_8.out) hb)
    have n2_ := Aside0.mk (Kd.N_elder' (Kd.N_x HO_439000.out) (Kd.R_base ho0) hb)
    have n3_ := Aside0.mk (Kd.R_below (Kd.R_x HO_439002.out) hb)
    have n4_ := Aside0.mk (Kd.R_below (Kd.R_x HO_439004.out) hb)
    have n5_ := Aside0.mk (Kd.R_lower ho0 (below_size (by repeat (first | (with_reducible first | exact HB.out | apply below_alloc | apply pw_below_drewN | apply below_drew1 | refine below_set ?_ GE438.out) | exact HB.out))))
    have n6_ := Aside0.mk (blk_below (g := gb438) (o := .cells #[.slice Ao10 t423.length co10, .int .i64 t426, .slice Ao13 t427.length co13, .int .i64 t430, .slice Ao14 t431.length co14] 26 (0, 0)) (blk_x BK438.out) hb)
    have n7_ := Aside0.mk (below_step (by repeat (first | (with_reducible first | exact HB.out | apply below_alloc | apply pw_below_drewN | apply below_drew1 | refine below_set ?_ GE438.out) | exact HB.out)) hb)
    clear HO_5 HO_8 HO_439000 HO_439002 HO_439004 BK438 HB
    have HO_5 := n0_
    have HO_8 := n1_
    have HO_439000 := n2_
    have HO_439002 := n3_
    have HO_439004 := n4_
    have HO454 := n5_
    have BK438 := n6_
    have HB := n7_
    clear n0_ n1_ n2_ n3_ n4_ n5_ n6_ n7_
    (try clear hb)
    (try clear hb2)
    (try clear hk)
    (try clear hi)
    (try clear ho0)
    obtain ⟨Ao39, co39, eo39⟩ := Kd.R_slice HO454.out
    (first | subst eo39 | (injection eo39 with f1_ f2_ f3_; have f4_ := f1_.symm; have f5_ := f3_.symm; clear f1_ f2_ f3_; subst f4_; subst f5_))
    refine hK.out _ _ ⟨(blk_cell BK438.out 0).trans rfl, (blk_cell BK438.out 1).trans rfl, (blk_cell BK438.out 2).trans rfl, (blk_cell BK438.out 3).trans rfl, (blk_cell BK438.out 4).trans rfl⟩ (fun hHeld => ?_)
    clear hK K
    refine norm_ (a' := ?_) ?_ ?_
    rotate_left
    ·
     show Act.put _ (some 56) _ = _
     simp only [Act.put, List.setIfInBounds_toArray, List.set_cons_zero, List.set_cons_succ, i64_w, i32_w]
     rfl
    refine one_ (i := 4) (N := some 57) #[true, true, true, true, true, false] rfl rfl (by kernel_rfl) (by decide) (fun K hK => ?_)
    refine goes_ Try.func33 (by kernel_rfl) rfl #[.agg #[.slice Ao10 t423.length co10, .int .i64 t426, .slice Ao13 t427.length co13, .int .i64 t430, .slice Ao14 t431.length co14], .slice Ao39 t452.length co39, .slice none 0 0] (by rfl) rfl rfl (by (try simp only [List.map_toArray, List.map_cons, List.map_nil]); first | done | rfl | (simp only [List.length_drop, List.length_take]; rfl)) ?_
    refine (swarfref04_Orders.calls kj5 _ _ t423 t426 _ _ t427 t430 _ _ t431 _ _ t452 (fun k_ => False) _ _ ([] : List Int) t455 _ ?side1 ?side2 ?side3 ?side4 ?side5 ?side6 ?side7 ?side8 ?side9 A35.out).mono ?_
    (case side1 => repeat (first | exact (Kd.N_reads' HO_439000.out).2.2 | (with_reducible refine Kd.C_alloc ?_ _) | (with_reducible refine Kd.C_drewN ?_ _) | (with_reducible refine Kd.C_drew ?_)))
    (case side2 => exact (Kd.N_reads' HO_439000.out).2.1)
    (case side3 => repeat (first | exact (Kd.R_reads' HO_439002.out).2.2 | (with_reducible refine Kd.C_alloc ?_ _) | (with_reducible refine Kd.C_drewN ?_ _) | (with_reducible refine Kd.C_drew ?_)))
    (case side4 => exact (Kd.R_reads' HO_439002.out).2.1)
    (case side5 => repeat (first | exact (Kd.R_reads' HO_439004.out).2.2 | (with_reducible refine Kd.C_alloc ?_ _) | (with_reducible refine Kd.C_drewN ?_ _) | (with_reducible refine Kd.C_drew ?_)))
    (case side6 => exact (Kd.R_reads' HO_439004.out).2.1)
    (case side7 => repeat (first | exact (Kd.R_reads' HO454.out).2.2 | (with_reducible refine Kd.C_alloc ?_ _) | (with_reducible refine Kd.C_drewN ?_ _) | (with_reducible refine Kd.C_drew ?_)))
    (case side8 => exact (Kd.R_reads' HO454.out).2.1)
    (case side9 => exact Kd.V_nil _ _ _ _ _)
    rintro e w40 ⟨v456, rfl, ho0, hb⟩
    refine ⟨_, rfl, ?_⟩
    have n0_ := Aside0.mk (Kd.R_below (Kd.R_x HO_5.out) hb)
    have n1_ := Aside0.mk (Kd.R_below (Kd.R_x HO_8.out) hb)
    have n2_ := Aside0.mk (Kd.N_elder' (Kd.N_x HO_439000.out) (Kd.N_base ho0) hb)
    have n3_ := Aside0.mk (Kd.R_below (Kd.R_x HO_439002.out) hb)
    have n4_ := Aside0.mk (Kd.R_below (Kd.R_x HO_439004.out) hb)
    have n5_ := Aside0.mk (Kd.R_below (Kd.R_x HO454.out) hb)
    have n6_ := Aside0.mk (Kd.N_lower (Kd.N_mono (ok' := fun k_ => some k_ ≠ (v440 : Value).ownBlock ∧ some k_ ≠ (.slice Ao37 t444.length co37 : Value).ownBlock ∧ some k_ ≠ (.slice Ao10 t423.length co10 : Value).ownBlock ∧ some k_ ≠ (.slice Ao13 t427.length co13 : Value).ownBlock ∧ some k_ ≠ (.slice Ao14 t431.length co14 : Value).ownBlock ∧ some k_ ≠ (.slice Ao39 t452.length co39 : Value).ownBlock ∧ k_ ≠ gb438) ho0 (fun k_ hk_ => ⟨Or.elim hk_ (fun hs_ => (hs_).elim) (fun hn_ => (Kd.fresh' (Kd.R_lt (Kd.R_x HO_5.out)) k_ hn_)), Or.elim hk_ (fun hs_ => (hs_).elim) (fun hn_ => (Kd.fresh' (Kd.R_lt (Kd.R_x HO_8.out)) k_ hn_)), Or.elim hk_ (fun hs_ => (hs_).elim) (fun hn_ => (Kd.fresh' (Kd.N_lt (Kd.N_x HO_439000.out)) k_ hn_)), Or.elim hk_ (fun hs_ => (hs_).elim) (fun hn_ => (Kd.fresh' (Kd.R_lt (Kd.R_x HO_439002.out)) k_ hn_)), Or.elim hk_ (fun hs_ => (hs_).elim) (fun hn_ => (Kd.fresh' (Kd.R_lt (Kd.R_x HO_439004.out)) k_ hn_)), Or.elim hk_ (fun hs_ => (hs_).elim) (fun hn_ => (Kd.fresh' (Kd.R_lt (Kd.R_x HO454.out)) k_ hn_)), Or.elim hk_ (fun hs_ => (hs_).elim) (fun hn_ => (Kd.freshB (g := gb438) (o := .cells #[.slice Ao10 t423.length co10, .int .i64 t426, .slice Ao13 t427.length co13, .int .i64 t430, .slice Ao14 t431.length co14] 26 (0, 0)) (blk_x BK438.out) k_ hn_))⟩)) (below_size (by repeat (first | (with_reducible first | exact HB.out | apply below_alloc | apply pw_below_drewN | apply below_drew1 | refine below_set ?_ GE438.out) | exact HB.out))))
    have n7_ := Aside0.mk (blk_below (g := gb438) (o := .cells #[.slice Ao10 t423.length co10, .int .i64 t426, .slice Ao13 t427.length co13, .int .i64 t430, .slice Ao14 t431.length co14] 26 (0, 0)) (blk_x BK438.out) hb)
    have n8_ := Aside0.mk (below_step (by repeat (first | (with_reducible first | exact HB.out | apply below_alloc | apply pw_below_drewN | apply below_drew1 | refine below_set ?_ GE438.out) | exact HB.out)) hb)
    clear HO_5 HO_8 HO_439000 HO_439002 HO_439004 HO454 BK438 HB
    have HO_5 := n0_
    have HO_8 := n1_
    have HO_439000 := n2_
    have HO_439002 := n3_
    have HO_439004 := n4_
    have HO454 := n5_
    have HO457 := n6_
    have BK438 := n7_
    have HB := n8_
    clear n0_ n1_ n2_ n3_ n4_ n5_ n6_ n7_ n8_
    (try clear hb)
    (try clear hb2)
    (try clear hk)
    (try clear hi)
    (try clear ho0)
    refine hK.out _ _ ⟨(blk_cell BK438.out 0).trans rfl, (blk_cell BK438.out 1).trans rfl, (blk_cell BK438.out 2).trans rfl, (blk_cell BK438.out 3).trans rfl, (blk_cell BK438.out 4).trans rfl⟩ (fun hHeld => ?_)
    clear hK K
    refine norm_ (a' := ?_) ?_ ?_
    rotate_left
    ·
     show Act.put _ (some 57) _ = _
     simp only [Act.put, List.setIfInBounds_toArray, List.set_cons_zero, List.set_cons_succ, i64_w, i32_w]
     rfl
    refine pure_ (i := 5) (N := some 10) (v := ?_) (a' := ?_) #[true, true, true, true, true, true] rfl rfl (by kernel_rfl) (fun _ _ _ h => h) (Or.inl ⟨by rfl, ?_⟩) ?_ ?_
    rotate_left
    ·
     intro w'
     go_simp
     with_reducible rfl
    rotate_left
    ·
     simp only [Act.put, List.setIfInBounds_toArray, List.set_cons_zero, List.set_cons_succ, i64_w, i32_w]
     rfl
    refine done_ (by kernel_rfl) ?_
    try go_wp2
    go_loopg [11] kj5 (fun kq v11 w' => ∃ (x11_2 : Int), v11 = .int .i64 x11_2 ∧ Aside0 (swarflaw04_StripWorked.l0 kq t439 t442 t455 x11_2 t423 t426 t427 t430 t431 = some r) ∧ Aside0 (kq ≤ kj5) ∧ Aside0 (Kd.R (Kd.int .i64) 3 w' w.heap.size (fun k_ => some k_ ≠ ((.slice Ao14 t431.length co14) : Value).ownBlock) v440 t439) ∧ Aside0 (Kd.N (Kd.slice 3 (Kd.int .i64)) 24 w' w.heap.size (fun k_ => some k_ ≠ (v440 : Value).ownBlock ∧ some k_ ≠ ((.slice Ao10 t423.length co10) : Value).ownBlock ∧ some k_ ≠ ((.slice Ao13 t427.length co13) : Value).ownBlock ∧ some k_ ≠ ((.slice Ao14 t431.length co14) : Value).ownBlock ∧ k_ ≠ gb438) v456 t455) ∧ Aside0 (Kd.N k50 50 w' w.heap.size (fun k_ => some k_ ≠ (v440 : Value).ownBlock ∧ some k_ ≠ (v456 : Value).ownBlock ∧ some k_ ≠ ((.slice Ao13 t427.length co13) : Value).ownBlock ∧ some k_ ≠ ((.slice Ao14 t431.length co14) : Value).ownBlock ∧ k_ ≠ gb438) (.slice Ao10 t423.length co10) t423) ∧ Aside0 (Kd.R k61 61 w' w.heap.size (fun _ => True) (.slice Ao13 t427.length co13) t427) ∧ Aside0 (Kd.R (Kd.int .i64) 3 w' w.heap.size (fun k_ => some k_ ≠ (v440 : Value).ownBlock) (.slice Ao14 t431.length co14) t431) ∧ Aside0 (w'.heap[gb438]? = some (.cells #[(.slice Ao10 t423.length co10), .int .i64 t426, (.slice Ao13 t427.length co13), .int .i64 t430, (.slice Ao14 t431.length co14)] 26 (0, 0))) ∧ Aside0 (Below w.heap.size w w'))
    case atStart => exact ⟨(0), (by first | rfl | (simp; done) | (simp [*]; done)), H', ⟨Nat.le_refl _⟩, ⟨by (with_reducible repeat (first | apply Kd.R_alloc | apply Kd.R_drewN | apply Kd.R_drew)); exact Kd.R_mono HO_5.out (fun _ hk => hk.2)⟩, ⟨by (with_reducible repeat (first | apply Kd.N_alloc | apply Kd.N_drewN | apply Kd.N_drew)); exact Kd.N_mono HO457.out (fun _ hk => ⟨hk.1, ⟨hk.2.2.1, ⟨hk.2.2.2.1, ⟨hk.2.2.2.2.1, hk.2.2.2.2.2.2⟩⟩⟩⟩)⟩, ⟨by (with_reducible repeat (first | apply Kd.N_alloc | apply Kd.N_drewN | apply Kd.N_drew)); exact Kd.N_mono HO_439000.out (fun _ hk => ⟨hk.1.1.1, ⟨hk.2, ⟨hk.1.1.2.2.1, ⟨hk.1.1.2.2.2.1, hk.1.1.2.2.2.2⟩⟩⟩⟩)⟩, ⟨by (with_reducible repeat (first | apply Kd.R_alloc | apply Kd.R_drewN | apply Kd.R_drew)); exact HO_439002.out⟩, ⟨by (with_reducible repeat (first | apply Kd.R_alloc | apply Kd.R_drewN | apply Kd.R_drew)); exact Kd.R_mono HO_439004.out (fun _ hk => hk.1)⟩, ⟨by (with_reducible repeat (first | refine blk_drewN ?_ _ | refine blk_drew ?_ | refine blk_alloc ?_ _)); exact BK438.out⟩, ⟨by repeat (first | (with_reducible first | exact HB.out | apply below_alloc | apply pw_below_drewN | apply below_drew1 | refine below_set ?_ GE438.out) | exact HB.out)⟩⟩
    case round =>
     clear H'
     try clear c1
     try clear c2
     try clear p2
     try clear c3
     try clear c18
     try clear c18b0
     try clear c18b1
     try clear c19
     try clear c19b0
     try clear c19b1
     try clear c20
     try clear c20b0
     try clear c20b1
     try clear c20b2
     try clear c33
     try clear c34
     try clear p2
     obtain ⟨x11_2, rfl, HA, HK2, HO_5, HO_10, HO_439000, HO_439002, HO_439004, BK438, HB⟩ := hrel
     cases gk with
     | zero => exact absurd HA.out (by simp [swarflaw04_StripWorked.l0])
     | succ k2 =>
      have H := HA.out
      clear HA
      simp only [swarflaw04_StripWorked.l0] at H
      by_cases c41 : x11_2 < (t455.length : Int)
      ·
       rw [if_pos c41] at H
       have c41b0 : decide (x11_2 < (t455.length : Int)) = true := decide_eq_true c41
       clear c41
       by_cases c42 : 0 ≤ x11_2
       ·
        rw [if_pos c42] at H
        have c42b0 : decide (0 ≤ x11_2) = true := decide_eq_true c42
        clear c42
        replace H := Option.bind_eq_some_iff.mp H
        obtain ⟨t459, A430, H⟩ := H
        replace H : (if t459 < t442 then (some false) else (if t459 = t442 then ((swarfkit_EqualInts.f k2 t439 (rd_L1 t455 x11_2)).bind fun t461 => (if t461 = true then ((swarflaw04_awake.f k2).bind fun t462 => (some t462)) else (some false))) else (swarflaw04_StripWorked.l0 k2 t439 t442 t455 (wrap64 (x11_2 + 1)) t423 t426 t427 t430 t431))) = some r := H
        have A43 := Aside0.mk A430
        clear A430
        by_cases c44 : t459 < t442
        ·
         rw [if_pos c44] at H
         have c44b0 : decide (t459 < t442) = true := decide_eq_true c44
         clear c44
         exact absurd ((Option.some.inj H).trans hrt.out) (by decide)
        ·
         rw [if_neg c44] at H
         have c44b0 : decide (t459 < t442) = false := decide_eq_false c44
         clear c44
         by_cases c48 : t459 = t442
         ·
          rw [if_pos c48] at H
          have c48b0 : (t459 == t442) = true := beq_iff_eq.mpr c48
          have c48b1 : (t459 != t442) = false := bne_eq_false_iff_eq.mpr c48
          clear c48
          replace H := Option.bind_eq_some_iff.mp H
          obtain ⟨t461, A490, H⟩ := H
          replace H : (if t461 = true then ((swarflaw04_awake.f k2).bind fun t462 => (some t462)) else (some false)) = some r := H
          have A49 := Aside0.mk A490
          clear A490
          by_cases c50 : t461 = true
          ·
           subst c50
           have H1 : ((swarflaw04_awake.f k2).bind fun t462 => (some t462)) = some r := by rw [if_pos rfl] at H; exact H
           clear H
           have H := H1
           clear H1
           replace H := Option.bind_eq_some_iff.mp H
           obtain ⟨t462, A510, H⟩ := H
           replace H : (some t462) = some r := H
           have A51 := Aside0.mk A510
           clear A510
           obtain rfl := Option.some.inj H
           obtain ⟨Ao52, co52, eo52⟩ := Kd.N_slice HO_10.out
           subst eo52
           try go_wp2
           have n0_ := Aside0.mk (Kd.R_drew HO_5.out)
           have n1_ := Aside0.mk (Kd.N_drew HO_10.out)
           have n2_ := Aside0.mk (Kd.N_drew HO_439000.out)
           have n3_ := Aside0.mk (Kd.R_drew HO_439002.out)
           have n4_ := Aside0.mk (Kd.R_drew HO_439004.out)
           have n5_ := Aside0.mk (blk_drew BK438.out)
           have n6_ := Aside0.mk (below_drew1 HB.out)
           clear HO_5 HO_10 HO_439000 HO_439002 HO_439004 BK438 HB
           have HO_5 := n0_
           have HO_10 := n1_
           have HO_439000 := n2_
           have HO_439002 := n3_
           have HO_439004 := n4_
           have BK438 := n5_
           have HB := n6_
           clear n0_ n1_ n2_ n3_ n4_ n5_ n6_
           have p458 : 0 ≤ (x11_2 : Int) := of_decide_eq_true (by first | (with_reducible assumption) | assumption)
           have q458 : x11_2 < (t455.length : Int) := of_decide_eq_true (by first | (with_reducible assumption) | assumption)
           obtain ⟨ad458, A458_0, c458_0, e458, hx458_0, hl458_0, hi458_0⟩ := at_L1 (Kd.N_reads' HO_10.out).2.2 x11_2 p458 q458
           cases e458
           obtain ⟨ce458, hce458, hMe458, hcc458⟩ := Kd.N_get HO_10.out [] x11_2 p458 (by first | exact q458 | exact of_decide_eq_true (by first | (with_reducible assumption) | assumption) | (have e_ := (Kd.N_reads' HO_10.out).1; omega))
           obtain ⟨ua458_0, uc458_0, rfl, ul458_0, ge458_0⟩ := Kd.FK_slice_open hMe458
           have hv458_0 := hcc458 0 _ rfl
           rw [Nat.add_zero, show ((Kd.slice 3 (Kd.int .i64))).sz = 1 from rfl, Nat.mul_one] at hv458_0
           replace hv458_0 := Option.some.inj (hv458_0.symm.trans hx458_0)
           injection hv458_0 with hva_ hvn_ hvc_
           rw [hva_] at ge458_0
           rw [hvc_] at ul458_0
           have HL458_0 := Aside0.mk (show Kd.V (Kd.int .i64) 3 _ w.heap.size _ _ (rd_L1 t455 x11_2) from Kd.V_mk ul458_0 ge458_0)
           clear hva_ hvn_ hvc_ ge458_0 ul458_0 hcc458 hce458
           have HR458_0 := Aside0.mk hi458_0
           have HC458_0 := Aside0.mk hl458_0
           clear hi458_0 hl458_0
           replace p458 := eq_true p458
           replace q458 := eq_true q458
           refine start_ (n := 7) (S := fun w' => w'.cell? ⟨gb438, 0, none⟩ = some (.slice Ao10 t423.length co10) ∧ w'.cell? ⟨gb438, 1, none⟩ = some (.int .i64 t426) ∧ w'.cell? ⟨gb438, 2, none⟩ = some (.slice Ao13 t427.length co13) ∧ w'.cell? ⟨gb438, 3, none⟩ = some (.int .i64 t430) ∧ w'.cell? ⟨gb438, 4, none⟩ = some (.slice Ao14 t431.length co14) ∧ w'.cell? (ad458.add (x11_2).toNat) = some (.slice A458_0 (rd_L1 t455 x11_2).length c458_0)) (ds := []) #[false, false, false, false, false, false, false] (by kernel_rfl) rfl rfl ⟨(blk_cell BK438.out 0).trans rfl, (blk_cell BK438.out 1).trans rfl, (blk_cell BK438.out 2).trans rfl, (blk_cell BK438.out 3).trans rfl, (blk_cell BK438.out 4).trans rfl, hx458_0⟩ (fun hHeld => ?_)
           generalize wr.drew = w53 at HO_5 HO_10 HO_439000 HO_439002 HO_439004 BK438 HB HL458_0 HR458_0 hx458_0 hHeld ⊢
           refine pure_ (i := 1) (N := some 65) (v := ?_) (a' := ?_) (bz 7 2) rfl rfl (by kernel_rfl) (fun _ _ _ h => h) (Or.inl ⟨by rfl, ?_⟩) ?_ ?_
           rotate_left
           ·
            intro w'
            go_simp
            with_reducible rfl
           rotate_left
           ·
            simp only [Act.put, List.setIfInBounds_toArray, List.set_cons_zero, List.set_cons_succ, i64_w, i32_w]
            rfl
           refine pure_ (i := 2) (N := some 66) (v := ?_) (a' := ?_) (bz 7 6) rfl rfl (by kernel_rfl) (fun _ _ _ h => h) (Or.inl ⟨by rfl, ?_⟩) ?_ ?_
           rotate_left
           ·
            intro w'
            go_simp
            with_reducible rfl
           rotate_left
           ·
            simp only [Act.put, List.setIfInBounds_toArray, List.set_cons_zero, List.set_cons_succ, i64_w, i32_w]
            rfl
           refine pure_ (i := 3) (N := some 67) (v := ?_) (a' := ?_) (bz 7 14) rfl rfl (by kernel_rfl) (fun _ _ _ h => h) (Or.inl ⟨by rfl, ?_⟩) ?_ ?_
           rotate_left
           ·
            intro w'
            go_simp
            with_reducible rfl
           rotate_left
           ·
            simp only [Act.put, List.setIfInBounds_toArray, List.set_cons_zero, List.set_cons_succ, i64_w, i32_w]
            rfl
           refine take_ (i := 0) (N := some 64) (v := ?_) (a' := ?_) (bz 7 15) rfl rfl (by kernel_rfl) (fun _ _ _ h => h) (Or.inl ⟨by rfl, ?_⟩) hHeld ?_ ?_
           rotate_left
           ·
            rintro w' ⟨s0, s1, s2, s3, s4, s5⟩
            go_simp
            with_reducible rfl
           rotate_left
           ·
            simp only [Act.put, List.setIfInBounds_toArray, List.set_cons_zero, List.set_cons_succ, i64_w, i32_w]
            rfl
           refine take_ (i := 4) (N := some 68) (v := ?_) (a' := ?_) (bz 7 31) rfl rfl (by kernel_rfl) (fun _ _ _ h => h) (Or.inl ⟨by rfl, ?_⟩) hHeld ?_ ?_
           rotate_left
           ·
            rintro w' ⟨s0, s1, s2, s3, s4, s5⟩
            go_simp
            with_reducible rfl
           rotate_left
           ·
            simp only [Act.put, List.setIfInBounds_toArray, List.set_cons_zero, List.set_cons_succ, i64_w, i32_w]
            rfl
           refine one_ (i := 5) (N := some 69) (bz 7 63) rfl rfl (by kernel_rfl) (by decide) (fun K hK => ?_)
           refine goes_ Try.func31 (by kernel_rfl) rfl #[.agg #[.slice Ao10 t423.length co10, .int .i64 t426, .slice Ao13 t427.length co13, .int .i64 t430, .slice Ao14 t431.length co14], .slice A458_0 (rd_L1 t455 x11_2).length c458_0] (by rfl) rfl rfl (by (try simp only [List.map_toArray, List.map_cons, List.map_nil]); first | done | rfl | (simp only [List.length_drop, List.length_take]; rfl)) ?_
           with_reducible refine (swarfref04_Time.calls k2 _ _ t423 t426 _ _ t427 t430 _ _ t431 _ _ (rd_L1 t455 x11_2) t459 _ ?side1 ?side2 ?side3 ?side4 ?side5 ?side6 ?side7 ?side8 A43.out).mono ?_
           (case side1 => repeat (first | exact (Kd.N_reads' HO_439000.out).2.2 | (with_reducible refine Kd.C_alloc ?_ _) | (with_reducible refine Kd.C_drewN ?_ _) | (with_reducible refine Kd.C_drew ?_)))
           (case side2 => exact (Kd.N_reads' HO_439000.out).2.1)
           (case side3 => repeat (first | exact (Kd.R_reads' HO_439002.out).2.2 | (with_reducible refine Kd.C_alloc ?_ _) | (with_reducible refine Kd.C_drewN ?_ _) | (with_reducible refine Kd.C_drew ?_)))
           (case side4 => exact (Kd.R_reads' HO_439002.out).2.1)
           (case side5 => repeat (first | exact (Kd.R_reads' HO_439004.out).2.2 | (with_reducible refine Kd.C_alloc ?_ _) | (with_reducible refine Kd.C_drewN ?_ _) | (with_reducible refine Kd.C_drew ?_)))
           (case side6 => exact (Kd.R_reads' HO_439004.out).2.1)
           (case side7 => repeat (first | exact (by repeat (first | (with_reducible exact HR458_0.out) | (with_reducible refine Kd.C_alloc ?_ _) | (with_reducible refine Kd.C_drewN ?_ _) | (with_reducible refine Kd.C_drew ?_) | exact HR458_0.out)) | (with_reducible refine Kd.C_alloc ?_ _) | (with_reducible refine Kd.C_drewN ?_ _) | (with_reducible refine Kd.C_drew ?_)))
           (case side8 => exact HC458_0.out)
           rintro e w54 ⟨rfl, hb⟩
           have HS5_ := (hb.cell (World.block_lt_of_cell? _ _ (hHeld.2.2.2.2.2))).trans (hHeld.2.2.2.2.2)
           refine ⟨_, rfl, ?_⟩
           have n0_ := Aside0.mk (Kd.R_below (Kd.R_x HO_5.out) hb)
           have n1_ := Aside0.mk (Kd.N_below (Kd.N_x HO_10.out) hb)
           have n2_ := Aside0.mk (Kd.N_below (Kd.N_x HO_439000.out) hb)
           have n3_ := Aside0.mk (Kd.R_below (Kd.R_x HO_439002.out) hb)
           have n4_ := Aside0.mk (Kd.R_below (Kd.R_x HO_439004.out) hb)
           have n5_ := Aside0.mk (Kd.V_below (Kd.V_x HL458_0.out) hb)
           have n6_ := Aside0.mk (blk_below (g := gb438) (o := .cells #[.slice Ao10 t423.length co10, .int .i64 t426, .slice Ao13 t427.length co13, .int .i64 t430, .slice Ao14 t431.length co14] 26 (0, 0)) (blk_x BK438.out) hb)
           have n7_ := Aside0.mk (Kd.C_below (by repeat (first | (with_reducible exact HR458_0.out) | (with_reducible refine Kd.C_alloc ?_ _) | (with_reducible refine Kd.C_drewN ?_ _) | (with_reducible refine Kd.C_drew ?_) | exact HR458_0.out)) hb)
           have n8_ := Aside0.mk (below_step (by repeat (first | (with_reducible first | exact HB.out | apply below_alloc | apply pw_below_drewN | apply below_drew1 | refine below_set ?_ GE438.out) | exact HB.out)) hb)
           clear HO_5 HO_10 HO_439000 HO_439002 HO_439004 HL458_0 BK438 HR458_0 HB
           have HO_5 := n0_
           have HO_10 := n1_
           have HO_439000 := n2_
           have HO_439002 := n3_
           have HO_439004 := n4_
           have HL458_0 := n5_
           have BK438 := n6_
           have HR458_0 := n7_
           have HB := n8_
           clear n0_ n1_ n2_ n3_ n4_ n5_ n6_ n7_ n8_
           (try clear hb)
           (try clear hb2)
           (try clear hk)
           (try clear hi)
           refine hK.out _ _ ⟨(blk_cell BK438.out 0).trans rfl, (blk_cell BK438.out 1).trans rfl, (blk_cell BK438.out 2).trans rfl, (blk_cell BK438.out 3).trans rfl, (blk_cell BK438.out 4).trans rfl, HS5_⟩ (fun hHeld => ?_)
           clear hK K
           refine norm_ (a' := ?_) ?_ ?_
           rotate_left
           ·
            show Act.put _ (some 69) _ = _
            simp only [Act.put, List.setIfInBounds_toArray, List.set_cons_zero, List.set_cons_succ, i64_w, i32_w]
            rfl
           refine pure_ (i := 6) (N := some 12) (v := ?_) (a' := ?_) (bz 7 127) rfl rfl (by kernel_rfl) (fun _ _ _ h => h) (Or.inl ⟨by rfl, ?_⟩) ?_ ?_
           rotate_left
           ·
            intro w'
            go_simp
            with_reducible rfl
           rotate_left
           ·
            simp only [Act.put, List.setIfInBounds_toArray, List.set_cons_zero, List.set_cons_succ, i64_w, i32_w]
            rfl
           refine done_ (by kernel_rfl) ?_
           have p460 : 0 ≤ (x11_2 : Int) := of_decide_eq_true (by first | (with_reducible assumption) | assumption)
           have q460 : x11_2 < (t455.length : Int) := of_decide_eq_true (by first | (with_reducible assumption) | assumption)
           obtain ⟨ad460, A460_0, c460_0, e460, hx460_0, hl460_0, hi460_0⟩ := at_L1 (Kd.N_reads' HO_10.out).2.2 x11_2 p460 q460
           obtain rfl : ad458 = ad460 := (by injection e460)
           try (obtain ⟨rfl, rfl⟩ : A460_0 = A458_0 ∧ c460_0 = c458_0 := by have h_ := Option.some.inj (hx460_0.symm.trans (show _ = some (Value.slice A458_0 _ c458_0) by assumption)); injection h_ with h1_ _ h3_; exact ⟨h1_, h3_⟩)
           obtain ⟨ce460, hce460, hMe460, hcc460⟩ := Kd.N_get HO_10.out [] x11_2 p460 (by first | exact q460 | exact of_decide_eq_true (by first | (with_reducible assumption) | assumption) | (have e_ := (Kd.N_reads' HO_10.out).1; omega))
           obtain ⟨ua460_0, uc460_0, rfl, ul460_0, ge460_0⟩ := Kd.FK_slice_open hMe460
           have hv460_0 := hcc460 0 _ rfl
           rw [Nat.add_zero, show ((Kd.slice 3 (Kd.int .i64))).sz = 1 from rfl, Nat.mul_one] at hv460_0
           replace hv460_0 := Option.some.inj (hv460_0.symm.trans hx460_0)
           injection hv460_0 with hva_ hvn_ hvc_
           rw [hva_] at ge460_0
           rw [hvc_] at ul460_0
           have HL460_0 := Aside0.mk (show Kd.V (Kd.int .i64) 3 _ w.heap.size _ _ (rd_L1 t455 x11_2) from Kd.V_mk ul460_0 ge460_0)
           clear hva_ hvn_ hvc_ ge460_0 ul460_0 hcc460 hce460
           have HR460_0 := Aside0.mk hi460_0
           have HC460_0 := Aside0.mk hl460_0
           clear hi460_0 hl460_0
           replace p460 := eq_true p460
           replace q460 := eq_true q460
           obtain ⟨Ao55, co55, eo55⟩ := Kd.R_slice HO_5.out
           subst eo55
           try go_wp2_with (first | ((with_reducible refine gate_callee (f := 22) rfl ?_); refine goesL_ (some 81) rfl rfl Try.func22 (by kernel_rfl) rfl #[.slice Ao55 t439.length co55, .slice A460_0 (rd_L1 t455 x11_2).length c460_0] rfl (by (try simp only [List.map_toArray, List.map_cons, List.map_nil]); first | done | rfl | (simp only [List.length_drop, List.length_take]; rfl)) ?_; (with_reducible refine (swarfkit_EqualInts.calls k2 _ _ t439 _ _ (rd_L1 t455 x11_2) true _ ?side1 ?side2 ?side3 ?side4 A49.out).mono ?_); (case side1 => repeat (first | exact (Kd.R_reads' HO_5.out).2.2 | (with_reducible refine Kd.C_alloc ?_ _) | (with_reducible refine Kd.C_drewN ?_ _) | (with_reducible refine Kd.C_drew ?_))); (case side2 => exact (Kd.R_reads' HO_5.out).2.1); (case side3 => repeat (first | exact (by repeat (first | (with_reducible exact HR460_0.out) | (with_reducible refine Kd.C_alloc ?_ _) | (with_reducible refine Kd.C_drewN ?_ _) | (with_reducible refine Kd.C_drew ?_) | exact HR460_0.out)) | (with_reducible refine Kd.C_alloc ?_ _) | (with_reducible refine Kd.C_drewN ?_ _) | (with_reducible refine Kd.C_drew ?_))); (case side4 => exact HC460_0.out); rintro e w' ⟨rfl, ⟨nd, rfl⟩⟩; refine ⟨_, rfl, ?_⟩) | (go_at_call 16; (with_reducible refine (swarflaw04_awake.calls k2  t462 _ A51.out).mono ?_); rintro e w56 ⟨rfl, hb⟩; have n0_ := Aside0.mk (Kd.R_below (Kd.R_x HO_5.out) hb); have n1_ := Aside0.mk (Kd.N_below (Kd.N_x HO_10.out) hb); have n2_ := Aside0.mk (Kd.N_below (Kd.N_x HO_439000.out) hb); have n3_ := Aside0.mk (Kd.R_below (Kd.R_x HO_439002.out) hb); have n4_ := Aside0.mk (Kd.R_below (Kd.R_x HO_439004.out) hb); have n5_ := Aside0.mk (Kd.V_below (Kd.V_x HL458_0.out) hb); have n6_ := Aside0.mk (Kd.V_below (Kd.V_x HL460_0.out) hb); have n7_ := Aside0.mk (blk_below (g := gb438) (o := .cells #[.slice Ao10 t423.length co10, .int .i64 t426, .slice Ao13 t427.length co13, .int .i64 t430, .slice Ao14 t431.length co14] 26 (0, 0)) (blk_x BK438.out) hb); have n8_ := Aside0.mk (Kd.C_below (by repeat (first | (with_reducible exact HR458_0.out) | (with_reducible refine Kd.C_alloc ?_ _) | (with_reducible refine Kd.C_drewN ?_ _) | (with_reducible refine Kd.C_drew ?_) | exact HR458_0.out)) hb); have n9_ := Aside0.mk (Kd.C_below (by repeat (first | (with_reducible exact HR460_0.out) | (with_reducible refine Kd.C_alloc ?_ _) | (with_reducible refine Kd.C_drewN ?_ _) | (with_reducible refine Kd.C_drew ?_) | exact HR460_0.out)) hb); have n10_ := Aside0.mk (below_step (by repeat (first | (with_reducible first | exact HB.out | apply below_alloc | apply pw_below_drewN | apply below_drew1 | refine below_set ?_ GE438.out) | exact HB.out)) hb); clear HO_5; clear HO_10; clear HO_439000; clear HO_439002; clear HO_439004; clear HL458_0; clear HL460_0; clear BK438; clear HR458_0; clear HR460_0; clear HB; have HO_5 := n0_; have HO_10 := n1_; have HO_439000 := n2_; have HO_439002 := n3_; have HO_439004 := n4_; have HL458_0 := n5_; have HL460_0 := n6_; have BK438 := n7_; have HR458_0 := n8_; have HR460_0 := n9_; have HB := n10_; clear n0_ n1_ n2_ n3_ n4_ n5_ n6_ n7_ n8_ n9_ n10_; (try clear hb); (try clear hb2); (try clear hk); (try clear hi)))
           go_ret
           exact ⟨by first | rfl | (simp [errW_none, errW_some] <;> rfl) | (simp [*, errW_none, errW_some] <;> rfl), by repeat (first | (with_reducible first | exact HB.out | apply below_alloc | apply pw_below_drewN | apply below_drew1 | refine below_set ?_ GE438.out) | exact HB.out)⟩
          ·
           replace c50 := Bool.eq_false_iff.mpr c50
           subst c50
           have H1 : (some false) = some r := by rw [if_neg (show ¬ (false = true) by decide)] at H; exact H
           clear H
           have H := H1
           clear H1
           exact absurd ((Option.some.inj H).trans hrt.out) (by decide)
         ·
          rw [if_neg c48] at H
          have c48b0 : (t459 == t442) = false := beq_eq_false_iff_ne.mpr c48
          have c48b1 : (t459 != t442) = true := bne_iff_ne.mpr c48
          have H' := Aside0.mk H
          clear H
          obtain ⟨Ao61, co61, eo61⟩ := Kd.N_slice HO_10.out
          subst eo61
          try go_wp2
          have n0_ := Aside0.mk (Kd.R_drew HO_5.out)
          have n1_ := Aside0.mk (Kd.N_drew HO_10.out)
          have n2_ := Aside0.mk (Kd.N_drew HO_439000.out)
          have n3_ := Aside0.mk (Kd.R_drew HO_439002.out)
          have n4_ := Aside0.mk (Kd.R_drew HO_439004.out)
          have n5_ := Aside0.mk (blk_drew BK438.out)
          have n6_ := Aside0.mk (below_drew1 HB.out)
          clear HO_5 HO_10 HO_439000 HO_439002 HO_439004 BK438 HB
          have HO_5 := n0_
          have HO_10 := n1_
          have HO_439000 := n2_
          have HO_439002 := n3_
          have HO_439004 := n4_
          have BK438 := n5_
          have HB := n6_
          clear n0_ n1_ n2_ n3_ n4_ n5_ n6_
          have p458 : 0 ≤ (x11_2 : Int) := of_decide_eq_true (by first | (with_reducible assumption) | assumption)
          have q458 : x11_2 < (t455.length : Int) := of_decide_eq_true (by first | (with_reducible assumption) | assumption)
          obtain ⟨ad458, A458_0, c458_0, e458, hx458_0, hl458_0, hi458_0⟩ := at_L1 (Kd.N_reads' HO_10.out).2.2 x11_2 p458 q458
          cases e458
          obtain ⟨ce458, hce458, hMe458, hcc458⟩ := Kd.N_get HO_10.out [] x11_2 p458 (by first | exact q458 | exact of_decide_eq_true (by first | (with_reducible assumption) | assumption) | (have e_ := (Kd.N_reads' HO_10.out).1; omega))
          obtain ⟨ua458_0, uc458_0, rfl, ul458_0, ge458_0⟩ := Kd.FK_slice_open hMe458
          have hv458_0 := hcc458 0 _ rfl
          rw [Nat.add_zero, show ((Kd.slice 3 (Kd.int .i64))).sz = 1 from rfl, Nat.mul_one] at hv458_0
          replace hv458_0 := Option.some.inj (hv458_0.symm.trans hx458_0)
          injection hv458_0 with hva_ hvn_ hvc_
          rw [hva_] at ge458_0
          rw [hvc_] at ul458_0
          have HL458_0 := Aside0.mk (show Kd.V (Kd.int .i64) 3 _ w.heap.size _ _ (rd_L1 t455 x11_2) from Kd.V_mk ul458_0 ge458_0)
          clear hva_ hvn_ hvc_ ge458_0 ul458_0 hcc458 hce458
          have HR458_0 := Aside0.mk hi458_0
          have HC458_0 := Aside0.mk hl458_0
          clear hi458_0 hl458_0
          replace p458 := eq_true p458
          replace q458 := eq_true q458
          refine start_ (n := 7) (S := fun w' => w'.cell? ⟨gb438, 0, none⟩ = some (.slice Ao10 t423.length co10) ∧ w'.cell? ⟨gb438, 1, none⟩ = some (.int .i64 t426) ∧ w'.cell? ⟨gb438, 2, none⟩ = some (.slice Ao13 t427.length co13) ∧ w'.cell? ⟨gb438, 3, none⟩ = some (.int .i64 t430) ∧ w'.cell? ⟨gb438, 4, none⟩ = some (.slice Ao14 t431.length co14) ∧ w'.cell? (ad458.add (x11_2).toNat) = some (.slice A458_0 (rd_L1 t455 x11_2).length c458_0)) (ds := []) #[false, false, false, false, false, false, false] (by kernel_rfl) rfl rfl ⟨(blk_cell BK438.out 0).trans rfl, (blk_cell BK438.out 1).trans rfl, (blk_cell BK438.out 2).trans rfl, (blk_cell BK438.out 3).trans rfl, (blk_cell BK438.out 4).trans rfl, hx458_0⟩ (fun hHeld => ?_)
          generalize wr.drew = w62 at HO_5 HO_10 HO_439000 HO_439002 HO_439004 BK438 HB HL458_0 HR458_0 hx458_0 hHeld ⊢
          refine pure_ (i := 1) (N := some 65) (v := ?_) (a' := ?_) (bz 7 2) rfl rfl (by kernel_rfl) (fun _ _ _ h => h) (Or.inl ⟨by rfl, ?_⟩) ?_ ?_
          rotate_left
          ·
           intro w'
           go_simp
           with_reducible rfl
          rotate_left
          ·
           simp only [Act.put, List.setIfInBounds_toArray, List.set_cons_zero, List.set_cons_succ, i64_w, i32_w]
           rfl
          refine pure_ (i := 2) (N := some 66) (v := ?_) (a' := ?_) (bz 7 6) rfl rfl (by kernel_rfl) (fun _ _ _ h => h) (Or.inl ⟨by rfl, ?_⟩) ?_ ?_
          rotate_left
          ·
           intro w'
           go_simp
           with_reducible rfl
          rotate_left
          ·
           simp only [Act.put, List.setIfInBounds_toArray, List.set_cons_zero, List.set_cons_succ, i64_w, i32_w]
           rfl
          refine pure_ (i := 3) (N := some 67) (v := ?_) (a' := ?_) (bz 7 14) rfl rfl (by kernel_rfl) (fun _ _ _ h => h) (Or.inl ⟨by rfl, ?_⟩) ?_ ?_
          rotate_left
          ·
           intro w'
           go_simp
           with_reducible rfl
          rotate_left
          ·
           simp only [Act.put, List.setIfInBounds_toArray, List.set_cons_zero, List.set_cons_succ, i64_w, i32_w]
           rfl
          refine take_ (i := 0) (N := some 64) (v := ?_) (a' := ?_) (bz 7 15) rfl rfl (by kernel_rfl) (fun _ _ _ h => h) (Or.inl ⟨by rfl, ?_⟩) hHeld ?_ ?_
          rotate_left
          ·
           rintro w' ⟨s0, s1, s2, s3, s4, s5⟩
           go_simp
           with_reducible rfl
          rotate_left
          ·
           simp only [Act.put, List.setIfInBounds_toArray, List.set_cons_zero, List.set_cons_succ, i64_w, i32_w]
           rfl
          refine take_ (i := 4) (N := some 68) (v := ?_) (a' := ?_) (bz 7 31) rfl rfl (by kernel_rfl) (fun _ _ _ h => h) (Or.inl ⟨by rfl, ?_⟩) hHeld ?_ ?_
          rotate_left
          ·
           rintro w' ⟨s0, s1, s2, s3, s4, s5⟩
           go_simp
           with_reducible rfl
          rotate_left
          ·
           simp only [Act.put, List.setIfInBounds_toArray, List.set_cons_zero, List.set_cons_succ, i64_w, i32_w]
           rfl
          refine one_ (i := 5) (N := some 69) (bz 7 63) rfl rfl (by kernel_rfl) (by decide) (fun K hK => ?_)
          refine goes_ Try.func31 (by kernel_rfl) rfl #[.agg #[.slice Ao10 t423.length co10, .int .i64 t426, .slice Ao13 t427.length co13, .int .i64 t430, .slice Ao14 t431.length co14], .slice A458_0 (rd_L1 t455 x11_2).length c458_0] (by rfl) rfl rfl (by (try simp only [List.map_toArray, List.map_cons, List.map_nil]); first | done | rfl | (simp only [List.length_drop, List.length_take]; rfl)) ?_
          with_reducible refine (swarfref04_Time.calls k2 _ _ t423 t426 _ _ t427 t430 _ _ t431 _ _ (rd_L1 t455 x11_2) t459 _ ?side1 ?side2 ?side3 ?side4 ?side5 ?side6 ?side7 ?side8 A43.out).mono ?_
          (case side1 => repeat (first | exact (Kd.N_reads' HO_439000.out).2.2 | (with_reducible refine Kd.C_alloc ?_ _) | (with_reducible refine Kd.C_drewN ?_ _) | (with_reducible refine Kd.C_drew ?_)))
          (case side2 => exact (Kd.N_reads' HO_439000.out).2.1)
          (case side3 => repeat (first | exact (Kd.R_reads' HO_439002.out).2.2 | (with_reducible refine Kd.C_alloc ?_ _) | (with_reducible refine Kd.C_drewN ?_ _) | (with_reducible refine Kd.C_drew ?_)))
          (case side4 => exact (Kd.R_reads' HO_439002.out).2.1)
          (case side5 => repeat (first | exact (Kd.R_reads' HO_439004.out).2.2 | (with_reducible refine Kd.C_alloc ?_ _) | (with_reducible refine Kd.C_drewN ?_ _) | (with_reducible refine Kd.C_drew ?_)))
          (case side6 => exact (Kd.R_reads' HO_439004.out).2.1)
          (case side7 => repeat (first | exact (by repeat (first | (with_reducible exact HR458_0.out) | (with_reducible refine Kd.C_alloc ?_ _) | (with_reducible refine Kd.C_drewN ?_ _) | (with_reducible refine Kd.C_drew ?_) | exact HR458_0.out)) | (with_reducible refine Kd.C_alloc ?_ _) | (with_reducible refine Kd.C_drewN ?_ _) | (with_reducible refine Kd.C_drew ?_)))
          (case side8 => exact HC458_0.out)
          rintro e w63 ⟨rfl, hb⟩
          have HS5_ := (hb.cell (World.block_lt_of_cell? _ _ (hHeld.2.2.2.2.2))).trans (hHeld.2.2.2.2.2)
          refine ⟨_, rfl, ?_⟩
          have n0_ := Aside0.mk (Kd.R_below (Kd.R_x HO_5.out) hb)
          have n1_ := Aside0.mk (Kd.N_below (Kd.N_x HO_10.out) hb)
          have n2_ := Aside0.mk (Kd.N_below (Kd.N_x HO_439000.out) hb)
          have n3_ := Aside0.mk (Kd.R_below (Kd.R_x HO_439002.out) hb)
          have n4_ := Aside0.mk (Kd.R_below (Kd.R_x HO_439004.out) hb)
          have n5_ := Aside0.mk (Kd.V_below (Kd.V_x HL458_0.out) hb)
          have n6_ := Aside0.mk (blk_below (g := gb438) (o := .cells #[.slice Ao10 t423.length co10, .int .i64 t426, .slice Ao13 t427.length co13, .int .i64 t430, .slice Ao14 t431.length co14] 26 (0, 0)) (blk_x BK438.out) hb)
          have n7_ := Aside0.mk (Kd.C_below (by repeat (first | (with_reducible exact HR458_0.out) | (with_reducible refine Kd.C_alloc ?_ _) | (with_reducible refine Kd.C_drewN ?_ _) | (with_reducible refine Kd.C_drew ?_) | exact HR458_0.out)) hb)
          have n8_ := Aside0.mk (below_step (by repeat (first | (with_reducible first | exact HB.out | apply below_alloc | apply pw_below_drewN | apply below_drew1 | refine below_set ?_ GE438.out) | exact HB.out)) hb)
          clear HO_5 HO_10 HO_439000 HO_439002 HO_439004 HL458_0 BK438 HR458_0 HB
          have HO_5 := n0_
          have HO_10 := n1_
          have HO_439000 := n2_
          have HO_439002 := n3_
          have HO_439004 := n4_
          have HL458_0 := n5_
          have BK438 := n6_
          have HR458_0 := n7_
          have HB := n8_
          clear n0_ n1_ n2_ n3_ n4_ n5_ n6_ n7_ n8_
          (try clear hb)
          (try clear hb2)
          (try clear hk)
          (try clear hi)
          refine hK.out _ _ ⟨(blk_cell BK438.out 0).trans rfl, (blk_cell BK438.out 1).trans rfl, (blk_cell BK438.out 2).trans rfl, (blk_cell BK438.out 3).trans rfl, (blk_cell BK438.out 4).trans rfl, HS5_⟩ (fun hHeld => ?_)
          clear hK K
          refine norm_ (a' := ?_) ?_ ?_
          rotate_left
          ·
           show Act.put _ (some 69) _ = _
           simp only [Act.put, List.setIfInBounds_toArray, List.set_cons_zero, List.set_cons_succ, i64_w, i32_w]
           rfl
          refine pure_ (i := 6) (N := some 12) (v := ?_) (a' := ?_) (bz 7 127) rfl rfl (by kernel_rfl) (fun _ _ _ h => h) (Or.inl ⟨by rfl, ?_⟩) ?_ ?_
          rotate_left
          ·
           intro w'
           go_simp
           with_reducible rfl
          rotate_left
          ·
           simp only [Act.put, List.setIfInBounds_toArray, List.set_cons_zero, List.set_cons_succ, i64_w, i32_w]
           rfl
          refine done_ (by kernel_rfl) ?_
          try go_wp2
          go_roundg k2
          case measure => have := HJ5.out; have := HK2.out; omega
          case rel => exact ⟨(wrap64 (x11_2 + 1)), (by first | rfl | (simp; done) | (simp [*]; done)), H', ⟨by have := HJ5.out; have := HK2.out; omega⟩, ⟨by (with_reducible repeat (first | apply Kd.R_alloc | apply Kd.R_drewN | apply Kd.R_drew)); exact HO_5.out⟩, ⟨by (with_reducible repeat (first | apply Kd.N_alloc | apply Kd.N_drewN | apply Kd.N_drew)); exact HO_10.out⟩, ⟨by (with_reducible repeat (first | apply Kd.N_alloc | apply Kd.N_drewN | apply Kd.N_drew)); exact HO_439000.out⟩, ⟨by (with_reducible repeat (first | apply Kd.R_alloc | apply Kd.R_drewN | apply Kd.R_drew)); exact HO_439002.out⟩, ⟨by (with_reducible repeat (first | apply Kd.R_alloc | apply Kd.R_drewN | apply Kd.R_drew)); exact HO_439004.out⟩, ⟨by (with_reducible repeat (first | refine blk_drewN ?_ _ | refine blk_drew ?_ | refine blk_alloc ?_ _)); exact BK438.out⟩, ⟨by repeat (first | (with_reducible first | exact HB.out | apply below_alloc | apply pw_below_drewN | apply below_drew1 | refine below_set ?_ GE438.out) | exact HB.out)⟩⟩
       ·
        rw [if_neg c42] at H
        exact absurd H (by simp)
      ·
       rw [if_neg c41] at H
       have c41b0 : decide (x11_2 < (t455.length : Int)) = false := decide_eq_false c41
       clear c41
       exact absurd ((Option.some.inj H).trans hrt.out) (by decide)
def swarflaw04_StripWorked.Pure : Prop := ∀ (l0 : List Int), l0.length ≤ maxLen → l0.length * 8 ≤ 140737488351232 → (∀ x ∈ l0, (Lit.int .i64 x).wf = true) → ∃ k, swarflaw04_StripWorked.f k l0 = some true
theorem swarflaw04_StripWorked.walk (P : swarflaw04_StripWorked.Pure) (a0 : Option Addr) (len0 cap0 : Nat) (z0 : List Int) (w : World) (w0 : (a0 = none ∧ len0 = 0 ∧ cap0 = 0 ∧ z0 = []) ∨ ∃ x, a0 = some x ∧ len0 ≤ cap0 ∧ cap0 ≤ maxLen ∧ z0.length = cap0 ∧ (∀ i, i < z0.length → w.cell? (x.add i) = some (.int .i64 (z0.getD i 0))) ∧ ∀ n ∈ z0, (Lit.int .i64 n).wf = true) (y0 : len0 * 8 ≤ 140737488351232) :
  Calls Try.prog 6 #[.slice a0 len0 cap0] w fun e w' => e = .returned (.bool true) ∧ Below w.heap.size w w' := by
 obtain ⟨l0, rfl, hr0, hm0, hw0, hc0⟩ := ReadsInt.ofRowC w0
 obtain ⟨k, h⟩ := P l0 hm0 y0 hw0
 refine (swarflaw04_StripWorked.calls k _ _ l0 true ⟨rfl⟩ w (Kd.C_of_reads (d := (0 : Int)) (h1 := fun _ => rfl) hr0) hc0 h).mono ?_
 rintro e w' ⟨rfl, hd⟩
 exact ⟨rfl, hd⟩
end Go.Proofs.Ytkkmfcdikkiodaa.PC4
namespace Go.Proofs.Ytkkmfcdikkiodaa.PC4
set_option linter.unusedVariables false
open Go.RowKit Go.Proofs.YtkkmfcdikkiodaaW.PrintWords Go.Proofs.YtkkmfcdikkiodaaW.PrintLast Go.Proofs.YtkkmfcdikkiodaaW.PrintMore
structure TruthSet (parts : List S50) (T : List Nat) : Prop where
  ne : T ≠ []
  few : parts.length ≤ 9
  pok : ∀ i, i < parts.length → PartOK i (parts.getD i z50)
  lt : ∀ s, s ∈ T → s < 65536
  ok : ∀ s, s ∈ T → ∀ i, i < parts.length → s.testBit i = true → ∀ x, x ∈ (parts.getD i z50).f0 → s.testBit x.toNat = true
def partV (T : List Nat) (i : Nat) : Int := verdictS (setsI T) (rawHas (i : Int))
def carV (parts : List S50) (T : List Nat) : Int := verdictS (setsI T) (rawAll (badMask parts : Nat))
theorem truthSet {parts : List S50} {looks : List S61} {wrong : Int} (h9 : parts.length ≤ 9) (hp : ∀ i, i < parts.length → PartOK i (parts.getD i z50)) (hne : truthsL parts looks wrong ≠ []) : TruthSet parts (truthsL parts looks wrong) :=
  ⟨hne, h9, hp, fun s hs => by have h1 := ((mem_truths s).1 hs).1; have h2 := pow_le_512 h9; omega, fun s hs => (okM_iff hp s).1 ((mem_truths s).1 hs).2.1⟩
theorem CarGood.set {a1 a2 : Int} {parts : List S50} {swap : Int} {looks : List S61} {wrong : Int} {needs : List Int} {st : List Bool} (h : CarGood a1 a2 parts swap looks wrong needs st) (h9 : a1 ≤ 9) : TruthSet parts (truthsL parts looks wrong) :=
  truthSet (by have := h.few; omega) h.p.ok (fun e => by have := h.truth; rw [e] at this; cases this)
theorem CarGood.out {a1 a2 : Int} {parts : List S50} {swap : Int} {looks : List S61} {wrong : Int} {needs : List Int} {st : List Bool} (h : CarGood a1 a2 parts swap looks wrong needs st) (h9 : a1 ≤ 9) (h12 : a2 ≤ 12) :
    strip_Out.f parts swap looks wrong needs = some (outL parts.length (truthsL parts looks wrong), 0) := by
  unfold strip_Out.f outE
  rw [if_pos (h.fits h9 h12), if_pos (h.check h9 h12), if_neg (h.set h9).ne]
end Go.Proofs.Ytkkmfcdikkiodaa.PC4
namespace Go.Proofs.Ytkkmfcdikkiodaa.PC4
open Go.RowKit Go.Proofs.YtkkmfcdikkiodaaW.PrintWords Go.Proofs.YtkkmfcdikkiodaaW.PrintLast Go.Proofs.YtkkmfcdikkiodaaW.PrintMore
attribute [local go_sem] max2_int min2_int max_two min_two max_three min_three max_four min_four
set_option linter.unusedVariables false
set_option linter.unusedSimpArgs false
def swarfref04_IsClean.l0 : Nat → List Bool → Int → List (S50) → Int → List (S61) → Int → List Int → Option (Bool)
 | 0, _, _, _, _, _, _, _ => none
 | k + 1, x1, x5, x271000, x271001, x271002, x271003, x271004 => if x5 < (x1.length : Int) then (if 0 ≤ x5 then (if x5 < (x271000.length : Int) then (if (rd_T50 x271000 x5).f1 = true then (if rdOf false x1 x5 = true then (swarfref04_IsClean.l0 k x1 (wrap64 (x5 + 1)) x271000 x271001 x271002 x271003 x271004) else (some false)) else (swarfref04_IsClean.l0 k x1 (wrap64 (x5 + 1)) x271000 x271001 x271002 x271003 x271004)) else (none)) else (none)) else (some true)
def swarfref04_IsClean.f (k : Nat) (l0_0 : List (S50)) (a0_1 : Int) (l0_2 : List (S61)) (a0_3 : Int) (l0_4 : List Int) (l1 : List Bool) : Option (Bool) := swarfref04_IsClean.l0 k l1 0 l0_0 a0_1 l0_2 a0_3 l0_4
theorem swarfref04_IsClean.mono_l : ∀ k, (∀ y0 y1 y2 y3 y4 y5 y6, LeO (swarfref04_IsClean.l0 k y0 y1 y2 y3 y4 y5 y6) (swarfref04_IsClean.l0 (k + 1) y0 y1 y2 y3 y4 y5 y6))
 | 0 => fun _ _ _ _ _ _ _ r h => by simp [swarfref04_IsClean.l0] at h
 | k + 1 => by
  have ih0 := swarfref04_IsClean.mono_l k
  ·
   intro y0 y1 y2 y3 y4 y5 y6
   unfold swarfref04_IsClean.l0
   repeat' first
   | (with_reducible exact ih0 _ _ _ _ _ _ _)
   | (with_reducible exact LeO.refl _)
   | (with_reducible exact LeO.none _)
   | (with_reducible refine LeO.ite ?_ ?_)
   | (with_reducible refine LeO.bind ?_ (fun _ => ?_))
   | exact ih0 _ _ _ _ _ _ _
   | exact LeO.none _
   | refine LeO.ite ?_ ?_
   | refine LeO.bind ?_ (fun _ => ?_)
theorem swarfref04_IsClean.mono : ∀ a0 a1 a2 a3 a4 a5 k, LeO (swarfref04_IsClean.f k a0 a1 a2 a3 a4 a5) (swarfref04_IsClean.f (k + 1) a0 a1 a2 a3 a4 a5) := by
 intro a0 a1 a2 a3 a4 a5 k
 have ih0 := swarfref04_IsClean.mono_l k
 unfold swarfref04_IsClean.f
 repeat' first
   | (with_reducible exact ih0 _ _ _ _ _ _ _)
   | (with_reducible exact LeO.refl _)
   | (with_reducible exact LeO.none _)
   | (with_reducible refine LeO.ite ?_ ?_)
   | (with_reducible refine LeO.bind ?_ (fun _ => ?_))
   | exact ih0 _ _ _ _ _ _ _
   | exact LeO.none _
   | refine LeO.ite ?_ ?_
   | refine LeO.bind ?_ (fun _ => ?_)
set_option maxHeartbeats 8000000 in
set_option maxRecDepth 100000 in
theorem swarfref04_IsClean.calls (k : Nat) (A0_0 : Option Addr) (c0_0 : Nat) (l0_0 : List (S50)) (a0_1 : Int) (A0_2 : Option Addr) (c0_2 : Nat) (l0_2 : List (S61)) (a0_3 : Int) (A0_4 : Option Addr) (c0_4 : Nat) (l0_4 : List Int) (A1 : Option Addr) (c1 : Nat) (l1 : List Bool) (r : Bool) (w : World) (hr0_0 : Kd.C k50 w A0_0 l0_0.length l0_0) (hc0_0 : l0_0.length ≤ c0_0) (hr0_2 : Kd.C k61 w A0_2 l0_2.length l0_2) (hc0_2 : l0_2.length ≤ c0_2) (hr0_4 : Kd.C (Kd.int .i64) w A0_4 l0_4.length l0_4) (hc0_4 : l0_4.length ≤ c0_4) (hr1 : Kd.C Kd.bool w A1 l1.length l1) (hc1 : l1.length ≤ c1) (h : swarfref04_IsClean.f k l0_0 a0_1 l0_2 a0_3 l0_4 l1 = some r) :
  Calls Try.prog 29 #[.agg #[.slice A0_0 l0_0.length c0_0, .int .i64 a0_1, .slice A0_2 l0_2.length c0_2, .int .i64 a0_3, .slice A0_4 l0_4.length c0_4], .slice A1 l1.length c1] w fun e w' => e = .returned (.bool r) ∧ Below w.heap.size w w' := by
 have hu26 := Try.underlying26
 have HR0_0 := Aside0.mk hr0_0
 have HC0_0 := Aside0.mk hc0_0
 clear hr0_0 hc0_0
 have HR0_2 := Aside0.mk hr0_2
 have HC0_2 := Aside0.mk hc0_2
 clear hr0_2 hc0_2
 have HR0_4 := Aside0.mk hr0_4
 have HC0_4 := Aside0.mk hc0_4
 clear hr0_4 hc0_4
 have HR1 := Aside0.mk hr1
 have HC1 := Aside0.mk hc1
 clear hr1 hc1
 have HB := Aside0.mk (Below.refl w.heap.size w)
 have H : (swarfref04_IsClean.l0 k l1 0 l0_0 a0_1 l0_2 a0_3 l0_4) = some r := h
 clear h
 have H' := Aside0.mk H
 clear H
 go_enter Try.func29, Try.ntmps29
 go_wp2_with (first | ((with_reducible refine gate_dst (N := 2) rfl ?_); refine box_event ?hg (N := 2) ?hd (cs := #[.slice A0_0 l0_0.length c0_0, .int .i64 a0_1, .slice A0_2 l0_2.length c0_2, .int .i64 a0_3, .slice A0_4 l0_4.length c0_4]) (t := 26) ?hr ?_; (case hd => rfl); (case hg => rfl); (case hr => first | (go_simp; done) | (go_simp; rfl)); intro gb270 hg w3 hbox hb; have n0_ := Aside0.mk (below_step (below_x HB.out) hb); have n1_ := Aside0.mk (hbox); have n2_ := Aside0.mk ((by rw [hg]; exact (below_size (below_x HB.out)) : w.heap.size ≤ gb270)); have n3_ := Aside0.mk ((by rw [hg]; exact (below_size (below_x HB.out)) : w.heap.size ≤ gb270)); clear HB; have HB := n0_; have BK270 := n1_; have GW270 := n2_; have GE270 := n3_; clear n0_ n1_ n2_ n3_; clear hb hbox hg))
 go_loopg [5] k (fun kq v5 w' => ∃ (x5_1 : Int), v5 = .int .i64 x5_1 ∧ Aside0 (swarfref04_IsClean.l0 kq l1 x5_1 l0_0 a0_1 l0_2 a0_3 l0_4 = some r) ∧ Aside0 (kq ≤ k) ∧ Aside0 (w'.heap[gb270]? = some (.cells #[(.slice A0_0 l0_0.length c0_0), .int .i64 a0_1, (.slice A0_2 l0_2.length c0_2), .int .i64 a0_3, (.slice A0_4 l0_4.length c0_4)] 26 (0, 0))) ∧ Aside0 (Below w.heap.size w w'))
 case atStart => exact ⟨(0), (by first | rfl | (simp; done) | (simp [*]; done)), H', ⟨Nat.le_refl _⟩, ⟨by (with_reducible repeat (first | refine blk_drewN ?_ _ | refine blk_drew ?_ | refine blk_alloc ?_ _)); exact BK270.out⟩, ⟨by repeat (first | (with_reducible first | exact HB.out | apply below_alloc | apply pw_below_drewN | apply below_drew1 | refine below_set ?_ GE270.out) | exact HB.out)⟩⟩
 case round =>
  clear H'
  try clear c1
  try clear c2
  try clear p2
  obtain ⟨x5_1, rfl, HA, HK1, BK270, HB⟩ := hrel
  cases gk with
  | zero => exact absurd HA.out (by simp [swarfref04_IsClean.l0])
  | succ k1 =>
   have H := HA.out
   clear HA
   simp only [swarfref04_IsClean.l0] at H
   by_cases c4 : x5_1 < (l1.length : Int)
   ·
    rw [if_pos c4] at H
    have c4b0 : decide (x5_1 < (l1.length : Int)) = true := decide_eq_true c4
    clear c4
    by_cases c5 : 0 ≤ x5_1
    ·
     rw [if_pos c5] at H
     have c5b0 : decide (0 ≤ x5_1) = true := decide_eq_true c5
     clear c5
     by_cases c6 : x5_1 < (l0_0.length : Int)
     ·
      rw [if_pos c6] at H
      have c6b0 : decide (x5_1 < (l0_0.length : Int)) = true := decide_eq_true c6
      clear c6
      obtain ⟨bq7, hbq7⟩ : ∃ b_ : Bool, b_ = ((rd_T50 l0_0 x5_1).f1) := ⟨_, rfl⟩
      replace H : (if bq7 = true then (if rdOf false l1 x5_1 = true then (swarfref04_IsClean.l0 k1 l1 (wrap64 (x5_1 + 1)) l0_0 a0_1 l0_2 a0_3 l0_4) else (some false)) else (swarfref04_IsClean.l0 k1 l1 (wrap64 (x5_1 + 1)) l0_0 a0_1 l0_2 a0_3 l0_4)) = some r := by rw [← hbq7] at H; exact H
      have Nbq7 := Aside0.mk hbq7
      clear hbq7
      by_cases c8 : bq7 = true
      ·
       subst c8
       have H1 : (if rdOf false l1 x5_1 = true then (swarfref04_IsClean.l0 k1 l1 (wrap64 (x5_1 + 1)) l0_0 a0_1 l0_2 a0_3 l0_4) else (some false)) = some r := by rw [if_pos rfl] at H; exact H
       clear H
       have H := H1
       clear H1
       obtain ⟨bq9, hbq9⟩ : ∃ b_ : Bool, b_ = (rdOf false l1 x5_1) := ⟨_, rfl⟩
       replace H : (if bq9 = true then (swarfref04_IsClean.l0 k1 l1 (wrap64 (x5_1 + 1)) l0_0 a0_1 l0_2 a0_3 l0_4) else (some false)) = some r := by rw [← hbq9] at H; exact H
       have Nbq9 := Aside0.mk hbq9
       clear hbq9
       by_cases c10 : bq9 = true
       ·
        subst c10
        have H1 : (swarfref04_IsClean.l0 k1 l1 (wrap64 (x5_1 + 1)) l0_0 a0_1 l0_2 a0_3 l0_4) = some r := by rw [if_pos rfl] at H; exact H
        clear H
        have H := H1
        clear H1
        have H' := Aside0.mk H
        clear H
        have hcz11_0 : wr.cell? ⟨gb270, 0, none⟩ = some (.slice A0_0 l0_0.length c0_0) := (blk_cell BK270.out 0).trans rfl
        have hcz11_1 : wr.cell? ⟨gb270, 1, none⟩ = some (.int .i64 a0_1) := (blk_cell BK270.out 1).trans rfl
        have hcz11_2 : wr.cell? ⟨gb270, 2, none⟩ = some (.slice A0_2 l0_2.length c0_2) := (blk_cell BK270.out 2).trans rfl
        have hcz11_3 : wr.cell? ⟨gb270, 3, none⟩ = some (.int .i64 a0_3) := (blk_cell BK270.out 3).trans rfl
        have hcz11_4 : wr.cell? ⟨gb270, 4, none⟩ = some (.slice A0_4 l0_4.length c0_4) := (blk_cell BK270.out 4).trans rfl
        have hfz11_0 := blk_frozen BK270.out 0
        have hfz11_1 := blk_frozen BK270.out 1
        have hfz11_2 := blk_frozen BK270.out 2
        have hfz11_3 := blk_frozen BK270.out 3
        have hfz11_4 := blk_frozen BK270.out 4
        have p271 : 0 ≤ (x5_1 : Int) := of_decide_eq_true (by first | (with_reducible assumption) | assumption)
        have q271 : x5_1 < (l0_0.length : Int) := of_decide_eq_true (by first | (with_reducible assumption) | assumption)
        obtain ⟨ad271, A271_0, c271_0, e271, hx271_0, hx271_1, hx271_2, hx271_3, hl271_0, hi271_0⟩ := at_T50 HR0_0.out x5_1 p271 q271
        (try rw [← Nbq7.out] at hx271_1)
        (try rw [← Nbq9.out] at hx271_1)
        cases e271
        replace hx271_0 := (HB.out.cell (World.block_lt_of_cell? w _ hx271_0)).trans hx271_0
        replace hx271_1 := (HB.out.cell (World.block_lt_of_cell? w _ hx271_1)).trans hx271_1
        replace hx271_2 := (HB.out.cell (World.block_lt_of_cell? w _ hx271_2)).trans hx271_2
        replace hx271_3 := (HB.out.cell (World.block_lt_of_cell? w _ hx271_3)).trans hx271_3
        have HR271_0 := Aside0.mk hi271_0
        have HC271_0 := Aside0.mk hl271_0
        clear hi271_0 hl271_0
        replace p271 := eq_true p271
        replace q271 := eq_true q271
        have p272 : 0 ≤ (x5_1 : Int) := of_decide_eq_true (by first | (with_reducible assumption) | assumption)
        have q272 : x5_1 < (l1.length : Int) := of_decide_eq_true (by first | (with_reducible assumption) | assumption)
        obtain ⟨ad272, e272, hx272_0⟩ := Kd.at_bool HR1.out x5_1 p272 q272
        (try rw [← Nbq7.out] at hx272_0)
        (try rw [← Nbq9.out] at hx272_0)
        cases e272
        replace hx272_0 := (HB.out.cell (World.block_lt_of_cell? w _ hx272_0)).trans hx272_0
        replace p272 := eq_true p272
        replace q272 := eq_true q272
        go_wp2
        go_roundg k1
        case measure => have := HK1.out; omega
        case rel => exact ⟨(wrap64 (x5_1 + 1)), (by first | rfl | (simp; done) | (simp [*]; done)), H', ⟨by have := HK1.out; omega⟩, ⟨by (with_reducible repeat (first | refine blk_drewN ?_ _ | refine blk_drew ?_ | refine blk_alloc ?_ _)); exact BK270.out⟩, ⟨by repeat (first | (with_reducible first | exact HB.out | apply below_alloc | apply pw_below_drewN | apply below_drew1 | refine below_set ?_ GE270.out) | exact HB.out)⟩⟩
       ·
        replace c10 := Bool.eq_false_iff.mpr c10
        subst c10
        have H1 : (some false) = some r := by rw [if_neg (show ¬ (false = true) by decide)] at H; exact H
        clear H
        have H := H1
        clear H1
        obtain rfl := Option.some.inj H
        have hcz12_0 : wr.cell? ⟨gb270, 0, none⟩ = some (.slice A0_0 l0_0.length c0_0) := (blk_cell BK270.out 0).trans rfl
        have hcz12_1 : wr.cell? ⟨gb270, 1, none⟩ = some (.int .i64 a0_1) := (blk_cell BK270.out 1).trans rfl
        have hcz12_2 : wr.cell? ⟨gb270, 2, none⟩ = some (.slice A0_2 l0_2.length c0_2) := (blk_cell BK270.out 2).trans rfl
        have hcz12_3 : wr.cell? ⟨gb270, 3, none⟩ = some (.int .i64 a0_3) := (blk_cell BK270.out 3).trans rfl
        have hcz12_4 : wr.cell? ⟨gb270, 4, none⟩ = some (.slice A0_4 l0_4.length c0_4) := (blk_cell BK270.out 4).trans rfl
        have hfz12_0 := blk_frozen BK270.out 0
        have hfz12_1 := blk_frozen BK270.out 1
        have hfz12_2 := blk_frozen BK270.out 2
        have hfz12_3 := blk_frozen BK270.out 3
        have hfz12_4 := blk_frozen BK270.out 4
        have p271 : 0 ≤ (x5_1 : Int) := of_decide_eq_true (by first | (with_reducible assumption) | assumption)
        have q271 : x5_1 < (l0_0.length : Int) := of_decide_eq_true (by first | (with_reducible assumption) | assumption)
        obtain ⟨ad271, A271_0, c271_0, e271, hx271_0, hx271_1, hx271_2, hx271_3, hl271_0, hi271_0⟩ := at_T50 HR0_0.out x5_1 p271 q271
        (try rw [← Nbq7.out] at hx271_1)
        (try rw [← Nbq9.out] at hx271_1)
        cases e271
        replace hx271_0 := (HB.out.cell (World.block_lt_of_cell? w _ hx271_0)).trans hx271_0
        replace hx271_1 := (HB.out.cell (World.block_lt_of_cell? w _ hx271_1)).trans hx271_1
        replace hx271_2 := (HB.out.cell (World.block_lt_of_cell? w _ hx271_2)).trans hx271_2
        replace hx271_3 := (HB.out.cell (World.block_lt_of_cell? w _ hx271_3)).trans hx271_3
        have HR271_0 := Aside0.mk hi271_0
        have HC271_0 := Aside0.mk hl271_0
        clear hi271_0 hl271_0
        replace p271 := eq_true p271
        replace q271 := eq_true q271
        have p272 : 0 ≤ (x5_1 : Int) := of_decide_eq_true (by first | (with_reducible assumption) | assumption)
        have q272 : x5_1 < (l1.length : Int) := of_decide_eq_true (by first | (with_reducible assumption) | assumption)
        obtain ⟨ad272, e272, hx272_0⟩ := Kd.at_bool HR1.out x5_1 p272 q272
        (try rw [← Nbq7.out] at hx272_0)
        (try rw [← Nbq9.out] at hx272_0)
        cases e272
        replace hx272_0 := (HB.out.cell (World.block_lt_of_cell? w _ hx272_0)).trans hx272_0
        replace p272 := eq_true p272
        replace q272 := eq_true q272
        go_wp2
        go_ret
        exact ⟨by first | rfl | (simp [errW_none, errW_some] <;> rfl) | (simp [*, errW_none, errW_some] <;> rfl), by repeat (first | (with_reducible first | exact HB.out | apply below_alloc | apply pw_below_drewN | apply below_drew1 | refine below_set ?_ GE270.out) | exact HB.out)⟩
      ·
       replace c8 := Bool.eq_false_iff.mpr c8
       subst c8
       have H1 : (swarfref04_IsClean.l0 k1 l1 (wrap64 (x5_1 + 1)) l0_0 a0_1 l0_2 a0_3 l0_4) = some r := by rw [if_neg (show ¬ (false = true) by decide)] at H; exact H
       clear H
       have H := H1
       clear H1
       have H' := Aside0.mk H
       clear H
       have hcz13_0 : wr.cell? ⟨gb270, 0, none⟩ = some (.slice A0_0 l0_0.length c0_0) := (blk_cell BK270.out 0).trans rfl
       have hcz13_1 : wr.cell? ⟨gb270, 1, none⟩ = some (.int .i64 a0_1) := (blk_cell BK270.out 1).trans rfl
       have hcz13_2 : wr.cell? ⟨gb270, 2, none⟩ = some (.slice A0_2 l0_2.length c0_2) := (blk_cell BK270.out 2).trans rfl
       have hcz13_3 : wr.cell? ⟨gb270, 3, none⟩ = some (.int .i64 a0_3) := (blk_cell BK270.out 3).trans rfl
       have hcz13_4 : wr.cell? ⟨gb270, 4, none⟩ = some (.slice A0_4 l0_4.length c0_4) := (blk_cell BK270.out 4).trans rfl
       have hfz13_0 := blk_frozen BK270.out 0
       have hfz13_1 := blk_frozen BK270.out 1
       have hfz13_2 := blk_frozen BK270.out 2
       have hfz13_3 := blk_frozen BK270.out 3
       have hfz13_4 := blk_frozen BK270.out 4
       have p271 : 0 ≤ (x5_1 : Int) := of_decide_eq_true (by first | (with_reducible assumption) | assumption)
       have q271 : x5_1 < (l0_0.length : Int) := of_decide_eq_true (by first | (with_reducible assumption) | assumption)
       obtain ⟨ad271, A271_0, c271_0, e271, hx271_0, hx271_1, hx271_2, hx271_3, hl271_0, hi271_0⟩ := at_T50 HR0_0.out x5_1 p271 q271
       (try rw [← Nbq7.out] at hx271_1)
       cases e271
       replace hx271_0 := (HB.out.cell (World.block_lt_of_cell? w _ hx271_0)).trans hx271_0
       replace hx271_1 := (HB.out.cell (World.block_lt_of_cell? w _ hx271_1)).trans hx271_1
       replace hx271_2 := (HB.out.cell (World.block_lt_of_cell? w _ hx271_2)).trans hx271_2
       replace hx271_3 := (HB.out.cell (World.block_lt_of_cell? w _ hx271_3)).trans hx271_3
       have HR271_0 := Aside0.mk hi271_0
       have HC271_0 := Aside0.mk hl271_0
       clear hi271_0 hl271_0
       replace p271 := eq_true p271
       replace q271 := eq_true q271
       go_wp2
       go_roundg k1
       case measure => have := HK1.out; omega
       case rel => exact ⟨(wrap64 (x5_1 + 1)), (by first | rfl | (simp; done) | (simp [*]; done)), H', ⟨by have := HK1.out; omega⟩, ⟨by (with_reducible repeat (first | refine blk_drewN ?_ _ | refine blk_drew ?_ | refine blk_alloc ?_ _)); exact BK270.out⟩, ⟨by repeat (first | (with_reducible first | exact HB.out | apply below_alloc | apply pw_below_drewN | apply below_drew1 | refine below_set ?_ GE270.out) | exact HB.out)⟩⟩
     ·
      rw [if_neg c6] at H
      exact absurd H (by simp)
    ·
     rw [if_neg c5] at H
     exact absurd H (by simp)
   ·
    rw [if_neg c4] at H
    have c4b0 : decide (x5_1 < (l1.length : Int)) = false := decide_eq_false c4
    clear c4
    obtain rfl := Option.some.inj H
    go_wp2
    go_ret
    exact ⟨by first | rfl | (simp [errW_none, errW_some] <;> rfl) | (simp [*, errW_none, errW_some] <;> rfl), by repeat (first | (with_reducible first | exact HB.out | apply below_alloc | apply pw_below_drewN | apply below_drew1 | refine below_set ?_ GE270.out) | exact HB.out)⟩
end Go.Proofs.Ytkkmfcdikkiodaa.PC4
namespace Go.Proofs.Ytkkmfcdikkiodaa.PC4
open Go.RowKit Go.Proofs.YtkkmfcdikkiodaaW.PrintWords Go.Proofs.YtkkmfcdikkiodaaW.PrintLast Go.Proofs.YtkkmfcdikkiodaaW.PrintMore
attribute [local go_sem] max2_int min2_int max_two min_two max_three min_three max_four min_four
set_option linter.unusedVariables false
set_option linter.unusedSimpArgs false
def swarfkit_Ints.f (l0 : List Int) : Option (List Int) := (some (([] : List Int) : List Int)).bind fun y463 => (if y463.length + l0.length < 17592186044416 then (some (y463 ++ l0)) else (none))
set_option maxHeartbeats 8000000 in
set_option maxRecDepth 100000 in
theorem swarfkit_Ints.calls (A0 : Option Addr) (c0 : Nat) (l0 : List Int) (r : List Int) (w : World) (hr0 : Kd.C (Kd.int .i64) w A0 l0.length l0) (hc0 : l0.length ≤ c0) (h : swarfkit_Ints.f l0 = some r) :
  Calls Try.prog 43 #[.slice A0 l0.length c0] w fun e w' => ∃ v0_ : Value, e = .returned (v0_) ∧ Kd.R (Kd.int .i64) 3 w' w.heap.size (fun _ => True) v0_ r ∧ Below w.heap.size w w' := by
 have HR0 := Aside0.mk hr0
 have HC0 := Aside0.mk hc0
 clear hr0 hc0
 have HB := Aside0.mk (Below.refl w.heap.size w)
 have H : ((some (([] : List Int) : List Int)).bind fun y463 => (if y463.length + l0.length < 17592186044416 then (some (y463 ++ l0)) else (none))) = some r := h
 clear h
 obtain ⟨y463, hy463⟩ : ∃ y_ : List Int, y_ = (([] : List Int)) := ⟨_, rfl⟩
 replace H : (if y463.length + l0.length < 17592186044416 then (some (y463 ++ l0)) else (none)) = some r := by first | (rw [hy463]; with_reducible exact H) | (have H2_ := (Option.bind_some _ _).symm.trans H; rw [hy463]; with_reducible exact H2_) | (have H2_ := (Option.bind_some _ _).symm.trans H; with_reducible exact H2_) | with_reducible exact H | (rw [hy463]; exact H) | exact H
 have Ny463 := Aside0.mk hy463
 clear hy463
 by_cases c2 : y463.length + l0.length < 17592186044416
 ·
  rw [if_pos c2] at H
  have LMc2 := Aside0.mk c2
  clear c2
  obtain ⟨y466, hy466⟩ : ∃ y_ : List Int, y_ = (y463 ++ l0) := ⟨_, rfl⟩
  replace H : (some y466) = some r := by first | (rw [hy466]; with_reducible exact H) | (have H2_ := (Option.bind_some _ _).symm.trans H; rw [hy466]; with_reducible exact H2_) | (have H2_ := (Option.bind_some _ _).symm.trans H; with_reducible exact H2_) | with_reducible exact H | (rw [hy466]; exact H) | exact H
  have Ny466 := Aside0.mk hy466
  clear hy466
  obtain rfl := Option.some.inj H
  go_enter Try.func43, Try.ntmps43
  go_wp2_with (first | ((with_reducible refine gate_dst (N := 3) rfl ?_); refine Kd.R_lit (Kd.int .i64) _ 3 ?hg (N := 3) ?hd (xs := ([] : List Int)) (inner := []) (ok := fun _ => True) (okp := fun _ => True) ?hr ?hp (fun _ hk => hk) trivial (Below.refl _ _) (Nat.le_refl _) (by simp) ?_; (case hd => rfl); (case hg => rfl); (case hr => first | (go_simp; done) | (go_simp; rfl)); (case hp => exact (Reps.none _ _)); intro v464 w3 ho4 hb hg_ hnew_; clear hg_ hnew_; (first | rw [← Ny463.out] at ho4 | (simp only [Int.reduceToNat] at ho4; rw [← Ny463.out] at ho4)); have n0_ := Aside0.mk (Kd.R_lower ho4 (below_size (below_x HB.out))); have n1_ := Aside0.mk (below_step (below_x HB.out) hb); clear HB; have HO465 := n0_; have HB := n1_; clear n0_ n1_; clear hb ho4) | ((with_reducible refine gate_builtin (b := .append) (xs := #[.tmp 3, .tmp 4]) rfl ?_); at_builtin; refine Kd.R_append_rows (Kd.int .i64) (w0 := w) w.heap.size rfl (.tmp 3) (.tmp 4) 24 3 (.int .i64 0) 8 rfl Try.underlying24 info3 rfl (by decide) (by omega) v464 y463 l0 _ _ _ (fun _ => True) (fun _ => False) rfl rfl ?aO ?aR (fun _ _ h => h) (fun _ h => h.elim) ?aF ?aB ?aS ?aL ?_; (case aR => repeat (first | exact (Kd.C_below HR0.out HB.out) | (with_reducible refine Kd.C_alloc ?_ _) | (with_reducible refine Kd.C_drewN ?_ _) | (with_reducible refine Kd.C_drew ?_))); (case aB => exact (below_x HB.out)); (case aF => exact (fun _ _ => trivial)); (case aO => exact (Kd.R_x HO465.out)); (case aS => exact (below_size (below_x HB.out))); (case aL => have := LMc2.out; omega); intro v467 w5 ho hb hg hat; rw [← Ny466.out] at ho; have n0_ := Aside0.mk (hb); have n1_ := Aside0.mk (ho); clear HB; clear HO465; have HB := n0_; have HO468 := n1_; clear n0_ n1_; clear ho hb hg hat))
  go_ret
  exact ⟨_, by first | rfl | (simp [errW_none, errW_some] <;> rfl) | (simp [*, errW_none, errW_some] <;> rfl), by (with_reducible repeat (first | apply Kd.R_alloc | apply Kd.R_drewN | apply Kd.R_drew)); exact HO468.out, by repeat (first | (with_reducible first | exact HB.out | apply below_alloc | apply pw_below_drewN | apply below_drew1) | exact HB.out)⟩
 ·
  rw [if_neg c2] at H
  exact absurd H (by simp)
end Go.Proofs.Ytkkmfcdikkiodaa.PC4
