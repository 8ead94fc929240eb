/- Lemmas on the way to this: Which voyages and stowages are valid, how deep bow and stern may lie and whether the barge is level enough is said alike by the program and by the reference, and nothing is changed. -/
import Derived.Test.YtodmemndaaiolaaCShipDrafts1
import Derived.Test.YtodmemndaaiolaaCShipDrafts3
import Derived.Test.YtodmemndaaiolaaCShipDrafts4
import Derived.Test.YtodmemndaaiolaaCShipDrafts2
import Derived.Outline
import Derived.RegionTactic
import Derived.BigRegion
import Derived.ChangeAlike
import Derived.Deep.DeepCutAuto
import Derived.Deep.CutRange
import Derived.SizedLaws
import Derived.ChangeSlices
import Derived.Deep.Slices
import Derived.Deep.Fields
import Derived.ChangeSame
import Derived.Lib.SmallJoins
namespace Go.Proofs.Ytodmemndaaiolaa.PC7
open Go.RowKit Go.Proofs.YtodmemndaaiolaaW.PrintWords Go.Proofs.YtodmemndaaiolaaW.PrintLast Go.Proofs.YtodmemndaaiolaaW.PrintMore
attribute [local go_sem] max2_int min2_int max_two min_two max_three min_three max_four min_four
set_option linter.unusedVariables false
set_option linter.unusedSimpArgs false
def swarfref07_level.l0 : Nat → List Int → Int → Int → Int → Int → List (S85) → Int → List (S59) → List (S79) → Int → Int → Option (Bool × Int × Int)
 | 0, _, _, _, _, _, _, _, _, _, _, _ => none
 | k + 1, x1, x7, x574000, x574001, x574002, x574003, x574004, x574005, x574006, x576000, x576001 => if x7 < (x1.length : Int) then (if 0 ≤ x7 then (if (rd x1 x7) < 0 then (swarfref07_level.l0 k x1 (wrap64 (x7 + 1)) x574000 x574001 x574002 x574003 x574004 x574005 x574006 x576000 x576001) else (if 0 ≤ (rd x1 x7) then (if (rd x1 x7) < (x574003.length : Int) then (if x7 < (x574006.length : Int) then (swarfref07_level.l0 k x1 (wrap64 (x7 + 1)) x574000 x574001 x574002 x574003 x574004 x574005 x574006 (wrap64 (x576000 + (mn (wrap64 ((wrap64 (((rd_T85 x574003 (rd x1 x7)).f1) - ((rd_T85 x574003 (rd x1 x7)).f2))) * ((rd_T79 x574006 x7).f0.f0))) (wrap64 ((wrap64 (((rd_T85 x574003 (rd x1 x7)).f1) - ((rd_T85 x574003 (rd x1 x7)).f2))) * ((rd_T79 x574006 x7).f0.f1)))))) (wrap64 (x576001 + (mx (wrap64 ((wrap64 (((rd_T85 x574003 (rd x1 x7)).f1) - ((rd_T85 x574003 (rd x1 x7)).f2))) * ((rd_T79 x574006 x7).f0.f0))) (wrap64 ((wrap64 (((rd_T85 x574003 (rd x1 x7)).f1) - ((rd_T85 x574003 (rd x1 x7)).f2))) * ((rd_T79 x574006 x7).f0.f1))))))) else (none)) else (none)) else (none))) else (none)) else (if x576000 ≥ (wrap64 ((-1000) * x574002)) then (some (decide (x576001 ≤ (wrap64 (1000 * x574002))), x576000, x576001)) else (some (false, x576000, x576001)))
def swarfref07_level.f (k : Nat) (a0_0 : Int) (a0_1 : Int) (a0_2 : Int) (l0_3 : List (S85)) (a0_4 : Int) (l0_5 : List (S59)) (l0_6 : List (S79)) (l1 : List Int) : Option (Bool × Int × Int) := swarfref07_level.l0 k l1 0 a0_0 a0_1 a0_2 l0_3 a0_4 l0_5 l0_6 0 0
def swarfref07_level.T6 : Bool × List (List Nat × List Nat) := (true, [([], []), ([0], [0]), ([], []), ([], []), ([2, 3], [2, 3]), ([4], [4]), ([1, 5], [1, 5]), ([6], [6]), ([7], [7]), ([], []), ([9], [9]), ([], []), ([], []), ([11, 12], [11, 12]), ([13], [13]), ([10, 14], [10, 14]), ([15], [15]), ([16], [16]), ([8, 17], [8, 17]), ([18, 0, 1, 2, 3, 4, 5, 6, 7, 8, 9, 10, 11, 12, 13, 14, 15, 16, 17, 18], [18])])
def swarfref07_level.B6 : List Nat := [0, 1, 0, 0, 12, 28, 63, 127, 255, 0, 512, 0, 0, 6144, 14336, 32256, 65024, 130560, 262143, 524287]
theorem swarfref07_level.tab6 : rtab .any (opsOf Try.f71 6) = swarfref07_level.T6 := by kernel_rfl
theorem swarfref07_level.bits6 : waitsOk swarfref07_level.T6.2 swarfref07_level.B6 = true := by kernel_rfl
def swarfref07_level.T7 : Bool × List (List Nat × List Nat) := (true, [([], []), ([], []), ([1], [1]), ([], []), ([2, 3], [2, 3]), ([4], [4]), ([5], [5]), ([6], [6]), ([0, 7], [0, 7]), ([], []), ([], []), ([10], [10]), ([], []), ([11, 12], [11, 12]), ([13], [13]), ([14], [14]), ([15], [15]), ([9, 16], [9, 16]), ([8, 0, 1, 2, 3, 4, 5, 6, 7, 8], [8]), ([17, 18, 0, 1, 2, 3, 4, 5, 6, 7, 8, 9, 10, 11, 12, 13, 14, 15, 16, 17, 18], [17])])
def swarfref07_level.B7 : List Nat := [0, 0, 2, 0, 14, 30, 62, 126, 255, 0, 0, 1024, 0, 7168, 15360, 31744, 64512, 130560, 511, 524287]
theorem swarfref07_level.tab7 : rtab .any (opsOf Try.f71 7) = swarfref07_level.T7 := by kernel_rfl
theorem swarfref07_level.bits7 : waitsOk swarfref07_level.T7.2 swarfref07_level.B7 = true := by kernel_rfl
def swarfref07_level.T9 : Bool × List (List Nat × List Nat) := (true, [([], []), ([0], [0]), ([], []), ([2], [2]), ([3], [3]), ([1, 4], [1, 4]), ([5], [5]), ([6], [6]), ([7, 6], [6, 7]), ([6], [6]), ([9, 6], [6, 9]), ([10, 6], [6, 10]), ([8, 11, 6], [6, 8, 11]), ([6, 12], [6, 12]), ([], []), ([13, 6, 0, 1, 2, 3, 4, 5, 6, 7, 8, 9, 10, 11, 12, 13], [13]), ([14, 15, 0, 1, 2, 3, 4, 5, 6, 7, 8, 9, 10, 11, 12, 13, 14, 15], [14])])
def swarfref07_level.B9 : List Nat := [0, 1, 0, 4, 12, 31, 63, 127, 255, 127, 639, 1663, 4095, 8191, 0, 16383, 65535]
theorem swarfref07_level.tab9 : rtab .any (opsOf Try.f71 9) = swarfref07_level.T9 := by kernel_rfl
theorem swarfref07_level.bits9 : waitsOk swarfref07_level.T9.2 swarfref07_level.B9 = true := by kernel_rfl
set_option maxHeartbeats 8000000 in
set_option maxRecDepth 100000 in
theorem swarfref07_level.calls (k : Nat) (a0_0 : Int) (a0_1 : Int) (a0_2 : Int) (A0_3 : Option Addr) (c0_3 : Nat) (l0_3 : List (S85)) (a0_4 : Int) (A0_5 : Option Addr) (c0_5 : Nat) (l0_5 : List (S59)) (A0_6 : Option Addr) (c0_6 : Nat) (l0_6 : List (S79)) (A1 : Option Addr) (c1 : Nat) (l1 : List Int) (r1 : Bool) (r2 : Int) (r3 : Int) (w : World) (hr0_3 : Kd.C k85 w A0_3 l0_3.length l0_3) (hc0_3 : l0_3.length ≤ c0_3) (hr0_5 : Kd.C k59 w A0_5 l0_5.length l0_5) (hc0_5 : l0_5.length ≤ c0_5) (hr0_6 : Kd.C k79 w A0_6 l0_6.length l0_6) (hc0_6 : l0_6.length ≤ c0_6) (hr1 : Kd.C (Kd.int .i64) w A1 l1.length l1) (hc1 : l1.length ≤ c1) (h : swarfref07_level.f k a0_0 a0_1 a0_2 l0_3 a0_4 l0_5 l0_6 l1 = some (r1, r2, r3)) :
  Calls Try.prog 71 #[.agg #[.int .i64 a0_0, .int .i64 a0_1, .int .i64 a0_2, .slice A0_3 l0_3.length c0_3, .int .i64 a0_4, .slice A0_5 l0_5.length c0_5, .slice A0_6 l0_6.length c0_6], .slice A1 l1.length c1] w fun e w' => e = .returned (.tuple #[.bool r1, .agg #[.int .i64 r2, .int .i64 r3]]) ∧ Below w.heap.size w w' := by
 have hu26 := Try.underlying26
 have hu56 := Try.underlying56
 have HR0_3 := Aside0.mk hr0_3
 have HC0_3 := Aside0.mk hc0_3
 clear hr0_3 hc0_3
 have HR0_5 := Aside0.mk hr0_5
 have HC0_5 := Aside0.mk hc0_5
 clear hr0_5 hc0_5
 have HR0_6 := Aside0.mk hr0_6
 have HC0_6 := Aside0.mk hc0_6
 clear hr0_6 hc0_6
 have HR1 := Aside0.mk hr1
 have HC1 := Aside0.mk hc1
 clear hr1 hc1
 have HB := Aside0.mk (Below.refl w.heap.size w)
 have H : (swarfref07_level.l0 k l1 0 a0_0 a0_1 a0_2 l0_3 a0_4 l0_5 l0_6 0 0) = some (r1, r2, r3) := h
 clear h
 have H' := Aside0.mk H
 clear H
 go_enter Try.func71, Try.ntmps71
 go_wp2_with (first | (refine box_r (N := 2) rfl (cs := #[.int .i64 a0_0, .int .i64 a0_1, .int .i64 a0_2, .slice A0_3 l0_3.length c0_3, .int .i64 a0_4, .slice A0_5 l0_5.length c0_5, .slice A0_6 l0_6.length c0_6]) (t := 26) ?_; intro gb573 hg w3 hbox hb; have BK573 := Aside0.mk (hbox); have GW573 := gw_x hg HB; have GE573 := GW573; replace HB := Aside0.mk (below_step (below_x HB.out) hb); clear hb hbox hg) | (refine box_r (N := 5) rfl (cs := #[.int .i64 0, .int .i64 0]) (t := 56) ?_; intro gb574 hg w4 hbox hb; have BK574 := Aside0.mk (hbox); have GW574 := gw_x hg HB; have GE574 := GW574; replace HB := bl_x HB hb; have NB573_574 := nb_x hg BK573; have NB574_573 := nb_y hg BK573; replace BK573 := bk_x BK573 hb; clear hb hbox hg) | (refine box_r (N := 6) rfl (cs := #[.int .i64 0, .int .i64 0]) (t := 56) ?_; intro gb575 hg w5 hbox hb; have BK575 := Aside0.mk (hbox); have GW575 := gw_x hg HB; have GE575 := GW575; replace HB := bl_x HB hb; have NB573_575 := nb_x hg BK573; have NB575_573 := nb_y hg BK573; replace BK573 := bk_x BK573 hb; have NB574_575 := nb_x hg BK574; have NB575_574 := nb_y hg BK574; replace BK574 := bk_x BK574 hb; clear hb hbox hg))
 go_loopg [7] k (fun kq v7 w' => ∃ (x7_1 : Int) (x576000_1 : Int) (x576001_1 : Int), v7 = .int .i64 x7_1 ∧ Aside0 (swarfref07_level.l0 kq l1 x7_1 a0_0 a0_1 a0_2 l0_3 a0_4 l0_5 l0_6 x576000_1 x576001_1 = some (r1, r2, r3)) ∧ Aside0 (kq ≤ k) ∧ Aside0 (w'.heap[gb573]? = some (.cells #[.int .i64 a0_0, .int .i64 a0_1, .int .i64 a0_2, (.slice A0_3 l0_3.length c0_3), .int .i64 a0_4, (.slice A0_5 l0_5.length c0_5), (.slice A0_6 l0_6.length c0_6)] 26 (0, 0))) ∧ Aside0 (w'.heap[gb574]? = some (.cells #[.int .i64 0, .int .i64 0] 56 (0, 0))) ∧ Aside0 (w'.heap[gb575]? = some (.cells #[.int .i64 x576000_1, .int .i64 x576001_1] 56 (0, 0))) ∧ Aside0 (Below w.heap.size w w'))
 case atStart => exact ⟨(0), (0), (0), (by first | rfl | (simp; done) | (simp [*]; done)), H', ⟨Nat.le_refl _⟩, ⟨blk_x BK573.out⟩, ⟨blk_x BK574.out⟩, ⟨blk_x BK575.out⟩, ⟨by exact below_y HB.out⟩⟩
 case round =>
  clear H'; obtain ⟨x7_1, x576000_1, x576001_1, rfl, HA, HK1, BK573, BK574, BK575, HB⟩ := hrel; cases gk with
  | zero => exact absurd HA.out (by simp [swarfref07_level.l0])
  | succ k1 =>
   have H := HA.out; clear HA; simp only [swarfref07_level.l0] at H; by_cases c6 : x7_1 < (l1.length : Int)
   ·
    rw [if_pos c6] at H; have c6b0 : decide (x7_1 < (l1.length : Int)) = true := decide_eq_true c6; clear c6; by_cases c7 : 0 ≤ x7_1
    ·
     rw [if_pos c7] at H; have c7b0 : decide (0 ≤ x7_1) = true := decide_eq_true c7; clear c7; by_cases c8 : (rd l1 x7_1) < 0
     ·
      rw [if_pos c8] at H; have c8b0 : decide ((rd l1 x7_1) < 0) = true := decide_eq_true c8; clear c8; have H' := Aside0.mk H; clear H; have p576 : 0 ≤ (x7_1 : Int) := of_x; have q576 : x7_1 < (l1.length : Int) := of_x; obtain ⟨ad576, e576, hx576_0⟩ := Kd.at_int HR1.out x7_1 p576 q576; (cases e576); replace hx576_0 := cell_x HB hx576_0; replace p576 := eq_true p576; replace q576 := eq_true q576; go_wp2; go_roundg k1
      case measure => have := HK1.out; omega
      case rel => exact ⟨(wrap64 (x7_1 + 1)), (x576000_1), (x576001_1), (by first | rfl | (simp; done) | (simp [*]; done)), H', ⟨by have := HK1.out; omega⟩, ⟨blk_x BK573.out⟩, ⟨blk_x BK574.out⟩, ⟨blk_x BK575.out⟩, ⟨by exact below_y HB.out⟩⟩
     ·
      rw [if_neg c8] at H; have c8b0 : decide ((rd l1 x7_1) < 0) = false := decide_eq_false c8; clear c8; by_cases c9 : 0 ≤ (rd l1 x7_1)
      ·
       rw [if_pos c9] at H; have c9b0 : decide (0 ≤ (rd l1 x7_1)) = true := decide_eq_true c9; clear c9; by_cases c10 : (rd l1 x7_1) < (l0_3.length : Int)
       ·
        rw [if_pos c10] at H; have c10b0 : decide ((rd l1 x7_1) < (l0_3.length : Int)) = true := decide_eq_true c10; clear c10; by_cases c11 : x7_1 < (l0_6.length : Int)
        ·
         rw [if_pos c11] at H; have c11b0 : decide (x7_1 < (l0_6.length : Int)) = true := decide_eq_true c11; clear c11; obtain ⟨ji12, hji12⟩ : ∃ j_ : Int, (mn (wrap64 ((wrap64 (((rd_T85 l0_3 (rd l1 x7_1)).f1) - ((rd_T85 l0_3 (rd l1 x7_1)).f2))) * ((rd_T79 l0_6 x7_1).f0.f0))) (wrap64 ((wrap64 (((rd_T85 l0_3 (rd l1 x7_1)).f1) - ((rd_T85 l0_3 (rd l1 x7_1)).f2))) * ((rd_T79 l0_6 x7_1).f0.f1)))) = j_ := ⟨_, rfl⟩; (replace H : (swarfref07_level.l0 k1 l1 (wrap64 (x7_1 + 1)) a0_0 a0_1 a0_2 l0_3 a0_4 l0_5 l0_6 (wrap64 (x576000_1 + (ji12))) (wrap64 (x576001_1 + (mx (wrap64 ((wrap64 (((rd_T85 l0_3 (rd l1 x7_1)).f1) - ((rd_T85 l0_3 (rd l1 x7_1)).f2))) * ((rd_T79 l0_6 x7_1).f0.f0))) (wrap64 ((wrap64 (((rd_T85 l0_3 (rd l1 x7_1)).f1) - ((rd_T85 l0_3 (rd l1 x7_1)).f2))) * ((rd_T79 l0_6 x7_1).f0.f1))))))) = some (r1, r2, r3) := by first | (rw [hji12] at H; exact H) | (simp only [hji12] at H ⊢; exact H)); have hji12_ : (if (wrap64 ((wrap64 (((rd_T85 l0_3 (rd l1 x7_1)).f1) - ((rd_T85 l0_3 (rd l1 x7_1)).f2))) * ((rd_T79 l0_6 x7_1).f0.f1))) < (wrap64 ((wrap64 (((rd_T85 l0_3 (rd l1 x7_1)).f1) - ((rd_T85 l0_3 (rd l1 x7_1)).f2))) * ((rd_T79 l0_6 x7_1).f0.f0))) then (wrap64 ((wrap64 (((rd_T85 l0_3 (rd l1 x7_1)).f1) - ((rd_T85 l0_3 (rd l1 x7_1)).f2))) * ((rd_T79 l0_6 x7_1).f0.f1))) else (wrap64 ((wrap64 (((rd_T85 l0_3 (rd l1 x7_1)).f1) - ((rd_T85 l0_3 (rd l1 x7_1)).f2))) * ((rd_T79 l0_6 x7_1).f0.f0)))) = ji12 := hji12; obtain ⟨ji13, hji13⟩ : ∃ j_ : Int, (mx (wrap64 ((wrap64 (((rd_T85 l0_3 (rd l1 x7_1)).f1) - ((rd_T85 l0_3 (rd l1 x7_1)).f2))) * ((rd_T79 l0_6 x7_1).f0.f0))) (wrap64 ((wrap64 (((rd_T85 l0_3 (rd l1 x7_1)).f1) - ((rd_T85 l0_3 (rd l1 x7_1)).f2))) * ((rd_T79 l0_6 x7_1).f0.f1)))) = j_ := ⟨_, rfl⟩; (replace H : (swarfref07_level.l0 k1 l1 (wrap64 (x7_1 + 1)) a0_0 a0_1 a0_2 l0_3 a0_4 l0_5 l0_6 (wrap64 (x576000_1 + (ji12))) (wrap64 (x576001_1 + (ji13)))) = some (r1, r2, r3) := by first | (rw [hji13] at H; exact H) | (simp only [hji13] at H ⊢; exact H)); have hji13_ : (if (wrap64 ((wrap64 (((rd_T85 l0_3 (rd l1 x7_1)).f1) - ((rd_T85 l0_3 (rd l1 x7_1)).f2))) * ((rd_T79 l0_6 x7_1).f0.f0))) < (wrap64 ((wrap64 (((rd_T85 l0_3 (rd l1 x7_1)).f1) - ((rd_T85 l0_3 (rd l1 x7_1)).f2))) * ((rd_T79 l0_6 x7_1).f0.f1))) then (wrap64 ((wrap64 (((rd_T85 l0_3 (rd l1 x7_1)).f1) - ((rd_T85 l0_3 (rd l1 x7_1)).f2))) * ((rd_T79 l0_6 x7_1).f0.f1))) else (wrap64 ((wrap64 (((rd_T85 l0_3 (rd l1 x7_1)).f1) - ((rd_T85 l0_3 (rd l1 x7_1)).f2))) * ((rd_T79 l0_6 x7_1).f0.f0)))) = ji13 := hji13; have H' := Aside0.mk H; clear H; have p576 : 0 ≤ (x7_1 : Int) := of_x; have q576 : x7_1 < (l1.length : Int) := of_x; obtain ⟨ad576, e576, hx576_0⟩ := Kd.at_int HR1.out x7_1 p576 q576; (cases e576); replace hx576_0 := cell_x HB hx576_0; replace p576 := eq_true p576; replace q576 := eq_true q576
         try go_wp2
         replace BK573 := Aside0.mk (blk_drew BK573.out); replace BK574 := Aside0.mk (blk_drew BK574.out); replace BK575 := Aside0.mk (blk_drew BK575.out); replace HB := Aside0.mk (below_drew1 HB.out); have p577 : 0 ≤ (x7_1 : Int) := of_x; have q577 : x7_1 < (l1.length : Int) := of_x; obtain ⟨ad577, e577, hx577_0⟩ := Kd.at_int HR1.out x7_1 p577 q577; have hw577_0 := hx577_0; obtain rfl : ad576 = ad577 := (by injection e577); replace hx577_0 := cell_x HB hx577_0; replace p577 := eq_true p577; replace q577 := eq_true q577; have p578 : 0 ≤ ((rd l1 x7_1) : Int) := of_x; have q578 : (rd l1 x7_1) < (l0_3.length : Int) := of_x; obtain ⟨ad578, e578, hx578_0, hx578_1, hx578_2⟩ := at_T85 HR0_3.out (rd l1 x7_1) p578 q578; have hw578_2 := hx578_2; have hw578_1 := hx578_1; have hw578_0 := hx578_0; (cases e578); replace hx578_0 := cell_x HB hx578_0; replace hx578_1 := cell_x HB hx578_1; replace hx578_2 := cell_x HB hx578_2; replace p578 := eq_true p578; replace q578 := eq_true q578; have p579 : 0 ≤ (x7_1 : Int) := of_x; have q579 : x7_1 < (l1.length : Int) := of_x; obtain ⟨ad579, e579, hx579_0⟩ := Kd.at_int HR1.out x7_1 p579 q579; have hw579_0 := hx579_0; obtain rfl : ad576 = ad579 := (by injection e579); replace hx579_0 := cell_x HB hx579_0; replace p579 := eq_true p579; replace q579 := eq_true q579; have p580 : 0 ≤ ((rd l1 x7_1) : Int) := of_x; have q580 : (rd l1 x7_1) < (l0_3.length : Int) := of_x; obtain ⟨ad580, e580, hx580_0, hx580_1, hx580_2⟩ := at_T85 HR0_3.out (rd l1 x7_1) p580 q580; have hw580_2 := hx580_2; have hw580_1 := hx580_1; have hw580_0 := hx580_0; obtain rfl : ad578 = ad580 := (by injection e580); replace hx580_0 := cell_x HB hx580_0; replace hx580_1 := cell_x HB hx580_1; replace hx580_2 := cell_x HB hx580_2; replace p580 := eq_true p580; replace q580 := eq_true q580; refine start_ (n := 20) (S := fun w' => w'.cell? ⟨gb573, 0, none⟩ = some (.int .i64 a0_0) ∧ w'.cell? ⟨gb573, 1, none⟩ = some (.int .i64 a0_1) ∧ w'.cell? ⟨gb573, 2, none⟩ = some (.int .i64 a0_2) ∧ w'.cell? ⟨gb573, 3, none⟩ = some (.slice (some ad578) l0_3.length c0_3) ∧ w'.cell? ⟨gb573, 4, none⟩ = some (.int .i64 a0_4) ∧ w'.cell? ⟨gb573, 5, none⟩ = some (.slice A0_5 l0_5.length c0_5) ∧ w'.cell? ⟨gb573, 6, none⟩ = some (.slice A0_6 l0_6.length c0_6) ∧ w'.cell? (ad576.add (x7_1).toNat) = some (.int .i64 (rd l1 x7_1)) ∧ w'.cell? (ad578.add (((rd l1 x7_1)).toNat * 3)) = some (.int .i64 ((rd_T85 l0_3 (rd l1 x7_1)).f0)) ∧ w'.cell? ⟨(ad578.add (((rd l1 x7_1)).toNat * 3)).block, (ad578.add (((rd l1 x7_1)).toNat * 3)).off + 1, none⟩ = some (.int .i64 ((rd_T85 l0_3 (rd l1 x7_1)).f1)) ∧ w'.cell? ⟨(ad578.add (((rd l1 x7_1)).toNat * 3)).block, (ad578.add (((rd l1 x7_1)).toNat * 3)).off + 2, none⟩ = some (.int .i64 ((rd_T85 l0_3 (rd l1 x7_1)).f2)) ∧ w'.cell? (ad576.add (x7_1).toNat) = some (.int .i64 (rd l1 x7_1)) ∧ w'.cell? (ad578.add (((rd l1 x7_1)).toNat * 3)) = some (.int .i64 ((rd_T85 l0_3 (rd l1 x7_1)).f0)) ∧ w'.cell? ⟨(ad578.add (((rd l1 x7_1)).toNat * 3)).block, (ad578.add (((rd l1 x7_1)).toNat * 3)).off + 1, none⟩ = some (.int .i64 ((rd_T85 l0_3 (rd l1 x7_1)).f1)) ∧ w'.cell? ⟨(ad578.add (((rd l1 x7_1)).toNat * 3)).block, (ad578.add (((rd l1 x7_1)).toNat * 3)).off + 2, none⟩ = some (.int .i64 ((rd_T85 l0_3 (rd l1 x7_1)).f2))) (ds := []) #[false, false, false, false, false, false, false, false, false, false, false, false, false, false, false, false, false, false, false, false] (by kernel_rfl) rfl rfl ⟨(blk_cell BK573.out 0).trans rfl, (blk_cell BK573.out 1).trans rfl, (blk_cell BK573.out 2).trans rfl, (blk_cell BK573.out 3).trans rfl, (blk_cell BK573.out 4).trans rfl, (blk_cell BK573.out 5).trans rfl, (blk_cell BK573.out 6).trans rfl, ((HB.out.cell (World.block_lt_of_cell? w _ hw577_0)).trans hw577_0), ((HB.out.cell (World.block_lt_of_cell? w _ hw578_0)).trans hw578_0), ((HB.out.cell (World.block_lt_of_cell? w _ hw578_1)).trans hw578_1), ((HB.out.cell (World.block_lt_of_cell? w _ hw578_2)).trans hw578_2), ((HB.out.cell (World.block_lt_of_cell? w _ hw579_0)).trans hw579_0), ((HB.out.cell (World.block_lt_of_cell? w _ hw580_0)).trans hw580_0), ((HB.out.cell (World.block_lt_of_cell? w _ hw580_1)).trans hw580_1), ((HB.out.cell (World.block_lt_of_cell? w _ hw580_2)).trans hw580_2)⟩ (fun hHeld => ?_); refine with_tabW swarfref07_level.tab6 swarfref07_level.bits6 (fun HT_ HW_ => ?_); generalize wr.drew = w14 at BK573 BK574 BK575 HB hx577_0 hx578_0 hx578_1 hx578_2 hx579_0 hx580_0 hx580_1 hx580_2 hHeld ⊢; refine pure_t 0 (some 22) (bz 20 1) HT_ ?_; refine pure_t 2 (some 24) (bz 20 5) HT_ ?_; refine pure_t 3 (some 25) (bz 20 13) HT_ ?_; refine pure_t 4 (some 26) (bz 20 29) HT_ ?_; refine pure_t 9 (some 31) (bz 20 541) HT_ ?_; refine pure_t 11 (some 33) (bz 20 2589) HT_ ?_; refine pure_t 12 (some 34) (bz 20 6685) HT_ ?_; refine pure_t 13 (some 35) (bz 20 14877) HT_ ?_; refine take_t 1 (some 23) (bz 20 14879) HT_ HW_ hHeld ?_; refine take_t 5 (some 27) (bz 20 14911) HT_ HW_ hHeld ?_; refine pure_t 6 (some 28) (bz 20 14975) HT_ ?_; refine pure_t 7 (some 29) (bz 20 15103) HT_ ?_; refine take_t 8 (some 30) (bz 20 15359) HT_ HW_ hHeld ?_; refine take_t 10 (some 32) (bz 20 16383) HT_ HW_ hHeld ?_; refine take_t 14 (some 36) (bz 20 32767) HT_ HW_ hHeld ?_; refine pure_t 15 (some 37) (bz 20 65535) HT_ ?_; refine pure_t 16 (some 38) (bz 20 131071) HT_ ?_; refine take_t 17 (some 39) (bz 20 262143) HT_ HW_ hHeld ?_; refine pure_t 18 (some 40) (bz 20 524287) HT_ ?_; refine pure_t 19 (some 8) (bz 20 1048575) HT_ ?_; refine done_ (done_of HT_.out (by kernel_rfl)) ?_
         try go_wp2
         replace BK573 := Aside0.mk (blk_drew BK573.out); replace BK574 := Aside0.mk (blk_drew BK574.out); replace BK575 := Aside0.mk (blk_drew BK575.out); replace HB := Aside0.mk (below_drew1 HB.out); have p581 : 0 ≤ (x7_1 : Int) := of_x; have q581 : x7_1 < (l0_6.length : Int) := of_x; obtain ⟨ad581, e581, hx581_0, hx581_1, hx581_2⟩ := at_T79 HR0_6.out x7_1 p581 q581; have hw581_2 := hx581_2; have hw581_1 := hx581_1; have hw581_0 := hx581_0; (cases e581); replace hx581_0 := cell_x HB hx581_0; replace hx581_1 := cell_x HB hx581_1; replace hx581_2 := cell_x HB hx581_2; replace p581 := eq_true p581; replace q581 := eq_true q581; have p582 : 0 ≤ (x7_1 : Int) := of_x; have q582 : x7_1 < (l0_6.length : Int) := of_x; obtain ⟨ad582, e582, hx582_0, hx582_1, hx582_2⟩ := at_T79 HR0_6.out x7_1 p582 q582; have hw582_2 := hx582_2; have hw582_1 := hx582_1; have hw582_0 := hx582_0; obtain rfl : ad581 = ad582 := (by injection e582); replace hx582_0 := cell_x HB hx582_0; replace hx582_1 := cell_x HB hx582_1; replace hx582_2 := cell_x HB hx582_2; replace p582 := eq_true p582; replace q582 := eq_true q582; refine start_ (n := 20) (S := fun w' => w'.cell? ⟨gb573, 0, none⟩ = some (.int .i64 a0_0) ∧ w'.cell? ⟨gb573, 1, none⟩ = some (.int .i64 a0_1) ∧ w'.cell? ⟨gb573, 2, none⟩ = some (.int .i64 a0_2) ∧ w'.cell? ⟨gb573, 3, none⟩ = some (.slice (some ad578) l0_3.length c0_3) ∧ w'.cell? ⟨gb573, 4, none⟩ = some (.int .i64 a0_4) ∧ w'.cell? ⟨gb573, 5, none⟩ = some (.slice A0_5 l0_5.length c0_5) ∧ w'.cell? ⟨gb573, 6, none⟩ = some (.slice (some ad581) l0_6.length c0_6) ∧ w'.cell? (ad581.add ((x7_1).toNat * 3)) = some (.int .i64 ((rd_T79 l0_6 x7_1).f0.f0)) ∧ w'.cell? ⟨(ad581.add ((x7_1).toNat * 3)).block, (ad581.add ((x7_1).toNat * 3)).off + 1, none⟩ = some (.int .i64 ((rd_T79 l0_6 x7_1).f0.f1)) ∧ w'.cell? ⟨(ad581.add ((x7_1).toNat * 3)).block, (ad581.add ((x7_1).toNat * 3)).off + 2, none⟩ = some (.int .i64 ((rd_T79 l0_6 x7_1).f1)) ∧ w'.cell? (ad581.add ((x7_1).toNat * 3)) = some (.int .i64 ((rd_T79 l0_6 x7_1).f0.f0)) ∧ w'.cell? ⟨(ad581.add ((x7_1).toNat * 3)).block, (ad581.add ((x7_1).toNat * 3)).off + 1, none⟩ = some (.int .i64 ((rd_T79 l0_6 x7_1).f0.f1)) ∧ w'.cell? ⟨(ad581.add ((x7_1).toNat * 3)).block, (ad581.add ((x7_1).toNat * 3)).off + 2, none⟩ = some (.int .i64 ((rd_T79 l0_6 x7_1).f1))) (ds := []) #[false, false, false, false, false, false, false, false, false, false, false, false, false, false, false, false, false, false, false, false] (by kernel_rfl) rfl rfl ⟨(blk_cell BK573.out 0).trans rfl, (blk_cell BK573.out 1).trans rfl, (blk_cell BK573.out 2).trans rfl, (blk_cell BK573.out 3).trans rfl, (blk_cell BK573.out 4).trans rfl, (blk_cell BK573.out 5).trans rfl, (blk_cell BK573.out 6).trans rfl, ((HB.out.cell (World.block_lt_of_cell? w _ hw581_0)).trans hw581_0), ((HB.out.cell (World.block_lt_of_cell? w _ hw581_1)).trans hw581_1), ((HB.out.cell (World.block_lt_of_cell? w _ hw581_2)).trans hw581_2), ((HB.out.cell (World.block_lt_of_cell? w _ hw582_0)).trans hw582_0), ((HB.out.cell (World.block_lt_of_cell? w _ hw582_1)).trans hw582_1), ((HB.out.cell (World.block_lt_of_cell? w _ hw582_2)).trans hw582_2)⟩ (fun hHeld => ?_); refine with_tabW swarfref07_level.tab7 swarfref07_level.bits7 (fun HT_ HW_ => ?_); generalize w14.drew = w15 at BK573 BK574 BK575 HB hx581_0 hx581_1 hx581_2 hx582_0 hx582_1 hx582_2 hHeld ⊢; refine pure_t 0 (some 41) (bz 20 1) HT_ ?_; refine pure_t 1 (some 42) (bz 20 3) HT_ ?_; refine pure_t 3 (some 44) (bz 20 11) HT_ ?_; refine pure_t 9 (some 50) (bz 20 523) HT_ ?_; refine pure_t 10 (some 51) (bz 20 1547) HT_ ?_; refine pure_t 12 (some 53) (bz 20 5643) HT_ ?_; refine take_t 2 (some 43) (bz 20 5647) HT_ HW_ hHeld ?_; refine pure_t 4 (some 45) (bz 20 5663) HT_ ?_; refine pure_t 5 (some 46) (bz 20 5695) HT_ ?_; refine pure_t 6 (some 47) (bz 20 5759) HT_ ?_; refine take_t 7 (some 48) (bz 20 5887) HT_ HW_ hHeld ?_; refine pure_t 8 (some 49) (bz 20 6143) HT_ ?_; refine pure_t 18 (some 9) (bz 20 268287) HT_ ?_; refine take_t 11 (some 52) (bz 20 270335) HT_ HW_ hHeld ?_; refine pure_t 13 (some 54) (bz 20 278527) HT_ ?_; refine pure_t 14 (some 55) (bz 20 294911) HT_ ?_; refine pure_t 15 (some 56) (bz 20 327679) HT_ ?_; refine take_t 16 (some 57) (bz 20 393215) HT_ HW_ hHeld ?_; refine pure_t 17 (some 58) (bz 20 524287) HT_ ?_; refine pure_t 19 (some 10) (bz 20 1048575) HT_ ?_; refine done_ (done_of HT_.out (by kernel_rfl)) ?_; have hnb16 := NB575_573.out; have hnc16 := NB573_575.out; have hnb17 := NB575_574.out; have hnc17 := NB574_575.out; obtain ⟨hfz18_0, _, _⟩ := cf2 BK575
         try go_wp2
         go_roundg k1
         case measure => have := HK1.out; omega
         case rel => exact ⟨(wrap64 (x7_1 + 1)), (wrap64 (x576000_1 + (ji12))), (wrap64 (x576001_1 + (ji13))), (by first | rfl | (simp; done) | (simp [*]; done)), H', ⟨by have := HK1.out; omega⟩, ⟨blk_w BK573.out⟩, ⟨blk_w BK574.out⟩, ⟨blk_z BK575.out⟩, ⟨by exact below_y HB.out⟩⟩
        ·
         rw [if_neg c11] at H; exact absurd H (by simp)
       ·
        rw [if_neg c10] at H; exact absurd H (by simp)
      ·
       rw [if_neg c9] at H; exact absurd H (by simp)
    ·
     rw [if_neg c7] at H; exact absurd H (by simp)
   ·
    rw [if_neg c6] at H; have c6b0 : decide (x7_1 < (l1.length : Int)) = false := decide_eq_false c6; clear c6; by_cases c19 : x576000_1 ≥ (wrap64 ((-1000) * a0_2))
    ·
     rw [if_pos c19] at H; have c19b0 : decide ((wrap64 ((-1000) * a0_2)) ≤ x576000_1) = true := decide_eq_true c19; clear c19; simp only [Option.some.injEq, Prod.mk.injEq] at H; obtain ⟨rfl, rfl, rfl⟩ := H
     try go_wp2
     replace BK573 := Aside0.mk (blk_drew BK573.out); replace BK574 := Aside0.mk (blk_drew BK574.out); replace BK575 := Aside0.mk (blk_drew BK575.out); replace HB := Aside0.mk (below_drew1 HB.out); refine start_ (n := 17) (S := fun w' => w'.cell? ⟨gb575, 0, none⟩ = some (.int .i64 x576000_1) ∧ w'.cell? ⟨gb575, 1, none⟩ = some (.int .i64 x576001_1) ∧ w'.cell? ⟨gb573, 0, none⟩ = some (.int .i64 a0_0) ∧ w'.cell? ⟨gb573, 1, none⟩ = some (.int .i64 a0_1) ∧ w'.cell? ⟨gb573, 2, none⟩ = some (.int .i64 a0_2) ∧ w'.cell? ⟨gb573, 3, none⟩ = some (.slice A0_3 l0_3.length c0_3) ∧ w'.cell? ⟨gb573, 4, none⟩ = some (.int .i64 a0_4) ∧ w'.cell? ⟨gb573, 5, none⟩ = some (.slice A0_5 l0_5.length c0_5) ∧ w'.cell? ⟨gb573, 6, none⟩ = some (.slice A0_6 l0_6.length c0_6)) (ds := []) #[false, false, false, false, false, false, false, false, false, false, false, false, false, false, false, false, false] (by kernel_rfl) rfl rfl ⟨(blk_cell BK575.out 0).trans rfl, (blk_cell BK575.out 1).trans rfl, (blk_cell BK573.out 0).trans rfl, (blk_cell BK573.out 1).trans rfl, (blk_cell BK573.out 2).trans rfl, (blk_cell BK573.out 3).trans rfl, (blk_cell BK573.out 4).trans rfl, (blk_cell BK573.out 5).trans rfl, (blk_cell BK573.out 6).trans rfl⟩ (fun hHeld => ?_); refine with_tabW swarfref07_level.tab9 swarfref07_level.bits9 (fun HT_ HW_ => ?_); generalize wr.drew = w20 at BK573 BK574 BK575 HB hHeld ⊢; refine pure_t 0 (some 73) (bz 17 1) HT_ ?_; refine pure_t 2 (some 75) (bz 17 5) HT_ ?_; refine take_t 1 (some 74) (bz 17 7) HT_ HW_ hHeld ?_; refine take_t 3 (some 76) (bz 17 15) HT_ HW_ hHeld ?_; refine pure_t 4 (some 77) (bz 17 31) HT_ ?_; refine pure_t 5 (some 78) (bz 17 63) HT_ ?_; refine pure_t 6 (some 79) (bz 17 127) HT_ ?_; refine pure_t 7 (some 80) (bz 17 255) HT_ ?_; refine pure_t 9 (some 82) (bz 17 767) HT_ ?_; refine take_t 8 (some 81) (bz 17 1023) HT_ HW_ hHeld ?_; refine take_t 10 (some 83) (bz 17 2047) HT_ HW_ hHeld ?_; refine pure_t 11 (some 84) (bz 17 4095) HT_ ?_; refine pure_t 12 (some 85) (bz 17 8191) HT_ ?_; refine pure_t 13 (some 86) (bz 17 16383) HT_ ?_; refine pure_t 15 (some 4) (bz 17 49151) HT_ ?_; refine take_t 14 (some 87) (bz 17 65535) HT_ HW_ hHeld ?_; (refine one_t 16 (none) (bz 17 131071) HT_ fun K hK => ?_); have hs21 : w20.cell? ⟨gb574, 0, none⟩ = some (.int .i64 0) := (blk_cell BK574.out 0).trans rfl; have hfs21 := blk_frozen BK574.out 0; have hns21_0 := NB573_574.out; have hns21_2 := NB575_574.out; have hms21_0 := NB574_573.out; have hms21_2 := NB574_575.out; have hs22 : w20.cell? ⟨gb574, 1, none⟩ = some (.int .i64 0) := (blk_cell BK574.out 1).trans rfl; have hfs22 := blk_frozen BK574.out 1; have hns22_0 := NB573_574.out; have hns22_2 := NB575_574.out; have hms22_0 := NB574_573.out; have hms22_2 := NB574_575.out; refine skip_ (w1 := ?_) (by rfl) rfl ?_ ?_; rotate_left
     ·
      go_simp
      rfl
     refine hK.out _ _ ⟨(cf2_y NB575_574.out hHeld.1), (cf2_y NB575_574.out hHeld.2.1), (cf2_y NB573_574.out hHeld.2.2.1), (cf2_y NB573_574.out hHeld.2.2.2.1), (cf2_y NB573_574.out hHeld.2.2.2.2.1), (cf2_y NB573_574.out hHeld.2.2.2.2.2.1), (cf2_y NB573_574.out hHeld.2.2.2.2.2.2.1), (cf2_y NB573_574.out hHeld.2.2.2.2.2.2.2.1), (cf2_y NB573_574.out hHeld.2.2.2.2.2.2.2.2)⟩ (fun hHeld => ?_); clear hK K; refine done_ (done_of HT_.out (by kernel_rfl)) ?_
     try go_wp2
     refine bodyPost_ret (results_tc rfl _ _ gb574 56 #[.int .i64 x576000_1, .int .i64 x576001_1] (0, 0) _ rfl (blk_z BK574.out) Try.underlying56 rfl (by kernel_rfl)) rfl ?_; exact rt_y HB
    ·
     rw [if_neg c19] at H; have c19b0 : decide ((wrap64 ((-1000) * a0_2)) ≤ x576000_1) = false := decide_eq_false c19; clear c19; simp only [Option.some.injEq, Prod.mk.injEq] at H; obtain ⟨rfl, rfl, rfl⟩ := H
     try go_wp2
     replace BK573 := Aside0.mk (blk_drew BK573.out); replace BK574 := Aside0.mk (blk_drew BK574.out); replace BK575 := Aside0.mk (blk_drew BK575.out); replace HB := Aside0.mk (below_drew1 HB.out); refine start_ (n := 17) (S := fun w' => w'.cell? ⟨gb575, 0, none⟩ = some (.int .i64 x576000_1) ∧ w'.cell? ⟨gb575, 1, none⟩ = some (.int .i64 x576001_1) ∧ w'.cell? ⟨gb573, 0, none⟩ = some (.int .i64 a0_0) ∧ w'.cell? ⟨gb573, 1, none⟩ = some (.int .i64 a0_1) ∧ w'.cell? ⟨gb573, 2, none⟩ = some (.int .i64 a0_2) ∧ w'.cell? ⟨gb573, 3, none⟩ = some (.slice A0_3 l0_3.length c0_3) ∧ w'.cell? ⟨gb573, 4, none⟩ = some (.int .i64 a0_4) ∧ w'.cell? ⟨gb573, 5, none⟩ = some (.slice A0_5 l0_5.length c0_5) ∧ w'.cell? ⟨gb573, 6, none⟩ = some (.slice A0_6 l0_6.length c0_6)) (ds := []) #[false, false, false, false, false, false, false, false, false, false, false, false, false, false, false, false, false] (by kernel_rfl) rfl rfl ⟨(blk_cell BK575.out 0).trans rfl, (blk_cell BK575.out 1).trans rfl, (blk_cell BK573.out 0).trans rfl, (blk_cell BK573.out 1).trans rfl, (blk_cell BK573.out 2).trans rfl, (blk_cell BK573.out 3).trans rfl, (blk_cell BK573.out 4).trans rfl, (blk_cell BK573.out 5).trans rfl, (blk_cell BK573.out 6).trans rfl⟩ (fun hHeld => ?_); refine with_tabW swarfref07_level.tab9 swarfref07_level.bits9 (fun HT_ HW_ => ?_); generalize wr.drew = w23 at BK573 BK574 BK575 HB hHeld ⊢; refine pure_t 0 (some 73) (bz 17 1) HT_ ?_; refine pure_t 2 (some 75) (bz 17 5) HT_ ?_; refine take_t 1 (some 74) (bz 17 7) HT_ HW_ hHeld ?_; refine take_t 3 (some 76) (bz 17 15) HT_ HW_ hHeld ?_; refine pure_t 4 (some 77) (bz 17 31) HT_ ?_; refine pure_t 5 (some 78) (bz 17 63) HT_ ?_; refine pure_t 6 (some 79) (bz 17 127) HT_ ?_; refine dead_t 7 (some 80) (bz 17 255) HT_ ?_; refine dead_t 8 (some 81) (bz 17 511) HT_ ?_; refine dead_t 9 (some 82) (bz 17 1023) HT_ ?_; refine dead_t 10 (some 83) (bz 17 2047) HT_ ?_; refine dead_t 11 (some 84) (bz 17 4095) HT_ ?_; refine dead_t 12 (some 85) (bz 17 8191) HT_ ?_; refine pure_t 13 (some 86) (bz 17 16383) HT_ ?_; refine pure_t 15 (some 4) (bz 17 49151) HT_ ?_; refine take_t 14 (some 87) (bz 17 65535) HT_ HW_ hHeld ?_; (refine one_t 16 (none) (bz 17 131071) HT_ fun K hK => ?_); have hs24 : w23.cell? ⟨gb574, 0, none⟩ = some (.int .i64 0) := (blk_cell BK574.out 0).trans rfl; have hfs24 := blk_frozen BK574.out 0; have hns24_0 := NB573_574.out; have hns24_2 := NB575_574.out; have hms24_0 := NB574_573.out; have hms24_2 := NB574_575.out; have hs25 : w23.cell? ⟨gb574, 1, none⟩ = some (.int .i64 0) := (blk_cell BK574.out 1).trans rfl; have hfs25 := blk_frozen BK574.out 1; have hns25_0 := NB573_574.out; have hns25_2 := NB575_574.out; have hms25_0 := NB574_573.out; have hms25_2 := NB574_575.out; refine skip_ (w1 := ?_) (by rfl) rfl ?_ ?_; rotate_left
     ·
      go_simp
      rfl
     refine hK.out _ _ ⟨(cf2_y NB575_574.out hHeld.1), (cf2_y NB575_574.out hHeld.2.1), (cf2_y NB573_574.out hHeld.2.2.1), (cf2_y NB573_574.out hHeld.2.2.2.1), (cf2_y NB573_574.out hHeld.2.2.2.2.1), (cf2_y NB573_574.out hHeld.2.2.2.2.2.1), (cf2_y NB573_574.out hHeld.2.2.2.2.2.2.1), (cf2_y NB573_574.out hHeld.2.2.2.2.2.2.2.1), (cf2_y NB573_574.out hHeld.2.2.2.2.2.2.2.2)⟩ (fun hHeld => ?_); clear hK K; refine done_ (done_of HT_.out (by kernel_rfl)) ?_
     try go_wp2
     refine bodyPost_ret (results_tc rfl _ _ gb574 56 #[.int .i64 x576000_1, .int .i64 x576001_1] (0, 0) _ rfl (blk_z BK574.out) Try.underlying56 rfl (by kernel_rfl)) rfl ?_; exact rt_y HB
def swarfref07_Level.f (k : Nat) (a0_0 : Int) (a0_1 : Int) (a0_2 : Int) (l0_3 : List (S85)) (a0_4 : Int) (l0_5 : List (S59)) (l0_6 : List (S79)) (l1 : List Int) : Option (Bool × Int × Int × Int) := (swarfref07_CheckStowage.f k a0_0 a0_1 a0_2 l0_3 a0_4 l0_5 l0_6 l1).bind fun t744 => (if t744 = 0 then ((swarfref07_level.f k a0_0 a0_1 a0_2 l0_3 a0_4 l0_5 l0_6 l1).bind fun bt745 => (some (bt745.1, bt745.2.1, bt745.2.2, 0))) else (some (false, 0, 0, t744)))
set_option maxHeartbeats 8000000 in
set_option maxRecDepth 100000 in
theorem swarfref07_Level.calls (k : Nat) (a0_0 : Int) (a0_1 : Int) (a0_2 : Int) (A0_3 : Option Addr) (c0_3 : Nat) (l0_3 : List (S85)) (a0_4 : Int) (A0_5 : Option Addr) (c0_5 : Nat) (l0_5 : List (S59)) (A0_6 : Option Addr) (c0_6 : Nat) (l0_6 : List (S79)) (A1 : Option Addr) (c1 : Nat) (l1 : List Int) (r1 : Bool) (r2 : Int) (r3 : Int) (r4 : Int) (w : World) (hr0_3 : Kd.C k85 w A0_3 l0_3.length l0_3) (hc0_3 : l0_3.length ≤ c0_3) (hr0_5 : Kd.C k59 w A0_5 l0_5.length l0_5) (hc0_5 : l0_5.length ≤ c0_5) (hr0_6 : Kd.C k79 w A0_6 l0_6.length l0_6) (hc0_6 : l0_6.length ≤ c0_6) (hr1 : Kd.C (Kd.int .i64) w A1 l1.length l1) (hc1 : l1.length ≤ c1) (h : swarfref07_Level.f k a0_0 a0_1 a0_2 l0_3 a0_4 l0_5 l0_6 l1 = some (r1, r2, r3, r4)) :
  Calls Try.prog 38 #[.agg #[.int .i64 a0_0, .int .i64 a0_1, .int .i64 a0_2, .slice A0_3 l0_3.length c0_3, .int .i64 a0_4, .slice A0_5 l0_5.length c0_5, .slice A0_6 l0_6.length c0_6], .slice A1 l1.length c1] w fun e w' => e = .returned (.tuple #[.bool r1, .agg #[.int .i64 r2, .int .i64 r3], .int .i64 r4]) ∧ Below w.heap.size w w' := by
 have hu26 := Try.underlying26
 have hu56 := Try.underlying56
 have HR0_3 := Aside0.mk hr0_3
 have HC0_3 := Aside0.mk hc0_3
 clear hr0_3 hc0_3
 have HR0_5 := Aside0.mk hr0_5
 have HC0_5 := Aside0.mk hc0_5
 clear hr0_5 hc0_5
 have HR0_6 := Aside0.mk hr0_6
 have HC0_6 := Aside0.mk hc0_6
 clear hr0_6 hc0_6
 have HR1 := Aside0.mk hr1
 have HC1 := Aside0.mk hc1
 clear hr1 hc1
 have HB := Aside0.mk (Below.refl w.heap.size w)
 have H : ((swarfref07_CheckStowage.f k a0_0 a0_1 a0_2 l0_3 a0_4 l0_5 l0_6 l1).bind fun t744 => (if t744 = 0 then ((swarfref07_level.f k a0_0 a0_1 a0_2 l0_3 a0_4 l0_5 l0_6 l1).bind fun bt745 => (some (bt745.1, bt745.2.1, bt745.2.2, 0))) else (some (false, 0, 0, t744)))) = some (r1, r2, r3, r4) := h
 clear h
 replace H := Option.bind_eq_some_iff.mp H
 obtain ⟨t744, A30, H⟩ := H
 try dsimp only at H
 have A3 := Aside0.mk A30
 clear A30
 by_cases c4 : t744 = 0
 ·
  rw [if_pos c4] at H; have c4b0 : (t744 == 0) = true := beq_iff_eq.mpr c4; have c4b1 : (t744 != 0) = false := bne_eq_false_iff_eq.mpr c4; clear c4; replace H := Option.bind_eq_some_iff.mp H; obtain ⟨⟨t745, t746, t747⟩, A50, H⟩ := H; replace H : (some (t745, t746, t747, 0)) = some (r1, r2, r3, r4) := H; have A5 := Aside0.mk A50; clear A50; simp only [Option.some.injEq, Prod.mk.injEq] at H; obtain ⟨rfl, rfl, rfl, rfl⟩ := H; go_enter Try.func38, Try.ntmps38
  try go_wp2_with (first | (refine box_r (N := 2) rfl (cs := #[.int .i64 a0_0, .int .i64 a0_1, .int .i64 a0_2, .slice A0_3 l0_3.length c0_3, .int .i64 a0_4, .slice A0_5 l0_5.length c0_5, .slice A0_6 l0_6.length c0_6]) (t := 26) ?_; intro gb742 hg w6 hbox hb; have BK742 := Aside0.mk (hbox); have GW742 := gw_x hg HB; have GE742 := GW742; replace HB := Aside0.mk (below_step (below_x HB.out) hb); clear hb hbox hg) | (refine box_r (N := 5) rfl (cs := #[.int .i64 0, .int .i64 0]) (t := 56) ?_; intro gb743 hg w7 hbox hb; have BK743 := Aside0.mk (hbox); have GW743 := gw_x hg HB; have GE743 := GW743; replace HB := bl_x HB hb; have NB742_743 := nb_x hg BK742; have NB743_742 := nb_y hg BK742; replace BK742 := bk_x BK742 hb; clear hb hbox hg; have hnb8 := NB742_743.out; have hnc8 := NB743_742.out; obtain ⟨hfz9_0, _, _, _, _, _, _, _⟩ := cf7 BK742) | (refine goesG_x 41 rfl (some 12) Try.func41 #[.agg #[.int .i64 a0_0, .int .i64 a0_1, .int .i64 a0_2, .slice A0_3 l0_3.length c0_3, .int .i64 a0_4, .slice A0_5 l0_5.length c0_5, .slice A0_6 l0_6.length c0_6], .slice A1 l1.length c1] ?_; (with_reducible refine (swarfref07_CheckStowage.calls k a0_0 a0_1 a0_2 _ _ l0_3 a0_4 _ _ l0_5 _ _ l0_6 _ _ l1 t744 _ ?side1 ?side2 ?side3 ?side4 ?side5 ?side6 ?side7 ?side8 A3.out).mono ?_); (case side1 => exact Kd.C_x HR0_3.out HB.out); (case side2 => exact HC0_3.out); (case side3 => exact Kd.C_x HR0_5.out HB.out); (case side4 => exact HC0_5.out); (case side5 => exact Kd.C_x HR0_6.out HB.out); (case side6 => exact HC0_6.out); (case side7 => exact Kd.C_x HR1.out HB.out); (case side8 => exact HC1.out); rintro e w10 ⟨rfl, hb⟩; refine ⟨_, rfl, ?_⟩; replace BK742 := bk_x BK742 hb; replace BK743 := bk_x BK743 hb; replace HB := bl_x HB hb; (try clear hb); (try clear hk); (try clear hi); obtain ⟨hfz11_0, _, _, _, _, _, _, _⟩ := cf7 BK742) | (refine goesG_x 71 rfl (some 20) Try.func71 #[.agg #[.int .i64 a0_0, .int .i64 a0_1, .int .i64 a0_2, .slice A0_3 l0_3.length c0_3, .int .i64 a0_4, .slice A0_5 l0_5.length c0_5, .slice A0_6 l0_6.length c0_6], .slice A1 l1.length c1] ?_; (with_reducible refine (swarfref07_level.calls k a0_0 a0_1 a0_2 _ _ l0_3 a0_4 _ _ l0_5 _ _ l0_6 _ _ l1 t745 t746 t747 _ ?side1 ?side2 ?side3 ?side4 ?side5 ?side6 ?side7 ?side8 A5.out).mono ?_); (case side1 => exact Kd.C_x HR0_3.out HB.out); (case side2 => exact HC0_3.out); (case side3 => exact Kd.C_x HR0_5.out HB.out); (case side4 => exact HC0_5.out); (case side5 => exact Kd.C_x HR0_6.out HB.out); (case side6 => exact HC0_6.out); (case side7 => exact Kd.C_x HR1.out HB.out); (case side8 => exact HC1.out); rintro e w12 ⟨rfl, hb⟩; refine ⟨_, rfl, ?_⟩; replace BK742 := bk_x BK742 hb; replace BK743 := bk_x BK743 hb; replace HB := bl_x HB hb; (try clear hb); (try clear hk); (try clear hi)) | (refine box_r (N := 9) rfl (cs := #[.int .i64 0, .int .i64 0]) (t := 56) ?_; intro gb748 hg w13 hbox hb; have BK748 := Aside0.mk (hbox); have GW748 := gw_x hg HB; have GE748 := GW748; replace HB := bl_x HB hb; have NB742_748 := nb_x hg BK742; have NB748_742 := nb_y hg BK742; replace BK742 := bk_x BK742 hb; have NB743_748 := nb_x hg BK743; have NB748_743 := nb_y hg BK743; replace BK743 := bk_x BK743 hb; clear hb hbox hg; have hnb14 := NB748_742.out; have hnc14 := NB742_748.out; have hnb15 := NB748_743.out; have hnc15 := NB743_748.out; obtain ⟨hfz16_0, _, _⟩ := cf2 BK748))
  have n0_ : Aside0 (((w13.setCell ⟨gb748, 0, none⟩ (.int .i64 t746)).setCell ⟨gb748, 1, none⟩ (.int .i64 t747)).heap[gb742]? = some (.cells #[.int .i64 a0_0, .int .i64 a0_1, .int .i64 a0_2, .slice A0_3 l0_3.length c0_3, .int .i64 a0_4, .slice A0_5 l0_5.length c0_5, .slice A0_6 l0_6.length c0_6] 26 (0, 0))) := ⟨blk_w BK742.out⟩; have n1_ : Aside0 (((w13.setCell ⟨gb748, 0, none⟩ (.int .i64 t746)).setCell ⟨gb748, 1, none⟩ (.int .i64 t747)).heap[gb743]? = some (.cells #[.int .i64 0, .int .i64 0] 56 (0, 0))) := ⟨blk_w BK743.out⟩; have n2_ : Aside0 (((w13.setCell ⟨gb748, 0, none⟩ (.int .i64 t746)).setCell ⟨gb748, 1, none⟩ (.int .i64 t747)).heap[gb748]? = some (.cells #[.int .i64 t746, .int .i64 t747] 56 (0, 0))) := ⟨blk_z BK748.out⟩; have n3_ : Aside0 (Below w.heap.size w ((w13.setCell ⟨gb748, 0, none⟩ (.int .i64 t746)).setCell ⟨gb748, 1, none⟩ (.int .i64 t747))) := ⟨by exact below_y HB.out⟩
  (try clear BK742)
  (try clear BK743)
  (try clear BK748)
  (try clear HB)
  generalize ((w13.setCell ⟨gb748, 0, none⟩ (.int .i64 t746)).setCell ⟨gb748, 1, none⟩ (.int .i64 t747)) = w17 at n0_ n1_ n2_ n3_ ⊢; have BK742 := n0_; have BK743 := n1_; have BK748 := n2_; have HB := n3_; clear n0_ n1_ n2_ n3_; replace BK742 := Aside0.mk (blk_drew BK742.out); replace BK743 := Aside0.mk (blk_drew BK743.out); replace BK748 := Aside0.mk (blk_drew BK748.out); replace HB := Aside0.mk (below_drew1 HB.out); refine start_ (n := 5) (S := fun w' => w'.cell? ⟨gb748, 0, none⟩ = some (.int .i64 t746) ∧ w'.cell? ⟨gb748, 1, none⟩ = some (.int .i64 t747)) (ds := []) #[false, false, false, false, false] (by kernel_rfl) rfl rfl ⟨(blk_cell BK748.out 0).trans rfl, (blk_cell BK748.out 1).trans rfl⟩ (fun hHeld => ?_); generalize w17.drew = w18 at BK742 BK743 BK748 HB hHeld ⊢; refine pure_y 0 (some 23) #[true, false, false, false, false] ?_; refine pure_y 2 (some 4) #[true, false, true, false, false] ?_; refine take_y 1 (some 24) #[true, true, true, false, false] hHeld ?_; (refine one_y 3 (none) #[true, true, true, true, false] fun K hK => ?_); have hs19 : w18.cell? ⟨gb743, 0, none⟩ = some (.int .i64 0) := (blk_cell BK743.out 0).trans rfl; have hfs19 := blk_frozen BK743.out 0; have hns19_0 := NB742_743.out; have hns19_2 := NB748_743.out; have hms19_0 := NB743_742.out; have hms19_2 := NB743_748.out; have hs20 : w18.cell? ⟨gb743, 1, none⟩ = some (.int .i64 0) := (blk_cell BK743.out 1).trans rfl; have hfs20 := blk_frozen BK743.out 1; have hns20_0 := NB742_743.out; have hns20_2 := NB748_743.out; have hms20_0 := NB743_742.out; have hms20_2 := NB743_748.out; refine skip_ (w1 := ?_) (by rfl) rfl ?_ ?_; rotate_left
  ·
   go_simp
   rfl
  refine hK.out _ _ ⟨(cf2_y NB748_743.out hHeld.1), (cf2_y NB748_743.out hHeld.2)⟩ (fun hHeld => ?_); clear hK K; refine pure_y 4 (some 6) #[true, true, true, true, true] ?_; refine done_ (by kernel_rfl) ?_
  try go_wp2
  refine bodyPost_ret (results_list (rs := [.tmp 4, .cell 5 56, .tmp 6]) rfl (by simp) (.tmp (.cell gb743 56 #[.int .i64 t746, .int .i64 t747] (0, 0) _ rfl (blk_z BK743.out) Try.underlying56 rfl (by kernel_rfl) (.tmp .nil)))) rfl ?_; exact rt_y HB
 ·
  rw [if_neg c4] at H; have c4b0 : (t744 == 0) = false := beq_eq_false_iff_ne.mpr c4; have c4b1 : (t744 != 0) = true := bne_iff_ne.mpr c4; simp only [Option.some.injEq, Prod.mk.injEq] at H; obtain ⟨rfl, rfl, rfl, rfl⟩ := H; go_enter Try.func38, Try.ntmps38
  go_wp2_with (first | (refine box_r (N := 2) rfl (cs := #[.int .i64 a0_0, .int .i64 a0_1, .int .i64 a0_2, .slice A0_3 l0_3.length c0_3, .int .i64 a0_4, .slice A0_5 l0_5.length c0_5, .slice A0_6 l0_6.length c0_6]) (t := 26) ?_; intro gb742 hg w21 hbox hb; have BK742 := Aside0.mk (hbox); have GW742 := gw_x hg HB; have GE742 := GW742; replace HB := Aside0.mk (below_step (below_x HB.out) hb); clear hb hbox hg) | (refine box_r (N := 5) rfl (cs := #[.int .i64 0, .int .i64 0]) (t := 56) ?_; intro gb743 hg w22 hbox hb; have BK743 := Aside0.mk (hbox); have GW743 := gw_x hg HB; have GE743 := GW743; replace HB := bl_x HB hb; have NB742_743 := nb_x hg BK742; have NB743_742 := nb_y hg BK742; replace BK742 := bk_x BK742 hb; clear hb hbox hg; have hnb23 := NB742_743.out; have hnc23 := NB743_742.out; obtain ⟨hfz24_0, _, _, _, _, _, _, _⟩ := cf7 BK742) | (refine goesG_x 41 rfl (some 12) Try.func41 #[.agg #[.int .i64 a0_0, .int .i64 a0_1, .int .i64 a0_2, .slice A0_3 l0_3.length c0_3, .int .i64 a0_4, .slice A0_5 l0_5.length c0_5, .slice A0_6 l0_6.length c0_6], .slice A1 l1.length c1] ?_; (with_reducible refine (swarfref07_CheckStowage.calls k a0_0 a0_1 a0_2 _ _ l0_3 a0_4 _ _ l0_5 _ _ l0_6 _ _ l1 t744 _ ?side1 ?side2 ?side3 ?side4 ?side5 ?side6 ?side7 ?side8 A3.out).mono ?_); (case side1 => exact Kd.C_x HR0_3.out HB.out); (case side2 => exact HC0_3.out); (case side3 => exact Kd.C_x HR0_5.out HB.out); (case side4 => exact HC0_5.out); (case side5 => exact Kd.C_x HR0_6.out HB.out); (case side6 => exact HC0_6.out); (case side7 => exact Kd.C_x HR1.out HB.out); (case side8 => exact HC1.out); rintro e w25 ⟨rfl, hb⟩; refine ⟨_, rfl, ?_⟩; replace BK742 := bk_x BK742 hb; replace BK743 := bk_x BK743 hb; replace HB := bl_x HB hb; (try clear hb); (try clear hk); (try clear hi); obtain ⟨hfz26_0, _, _⟩ := cf2 BK743))
  refine bodyPost_ret (results_list (rs := [.tmp 4, .cell 5 56, .tmp 6]) rfl (by simp) (.tmp (.cell gb743 56 #[.int .i64 0, .int .i64 0] (0, 0) _ rfl (blk_z BK743.out) Try.underlying56 rfl (by kernel_rfl) (.tmp .nil)))) rfl ?_; exact rt_y HB
end Go.Proofs.Ytodmemndaaiolaa.PC7
namespace Go.Proofs.Ytodmemndaaiolaa.PC7
set_option linter.unusedVariables false
set_option linter.unusedSimpArgs false
open Go.RowKit Go.Proofs.YtodmemndaaiolaaW.PrintWords Go.Proofs.YtodmemndaaiolaaW.PrintLast Go.Proofs.YtodmemndaaiolaaW.PrintMore
theorem levelB_ev (L U R V : Int) (holds : List S85) (sills : List S59) (lots : List S79) (y z : Int) (hy : -1500000000000 ≤ y ∧ y ≤ 1500000000000) (hR : 0 ≤ R ∧ R ≤ 5000) : Ev (fun k => ship_level.f k L U R holds V sills lots y z) (decide (max z (-y) ≤ 1000 * R)) := by
  have hg : Ev (fun k => ship_greatest.f k z [wrap64 (-y)]) (max z (-y)) := by
    unfold ship_greatest.f
    refine Ev.succ ?_
    simp (disch := decide) only [ship_greatest.l0, List.length_singleton, if_pos]
    rw [show wrap64 (0 + 1) = 1 from wrap64_id (n := 0 + 1) (by decide) (by decide)]
    refine Ev.succ ?_
    simp (disch := decide) only [ship_greatest.l0, if_neg]
    rw [wrap64_id (n := -y) (by omega) (by omega)]
    have : rd [-y] 0 = -y := rfl
    rw [this, mx_max]
    exact Ev.now _
  unfold ship_level.f
  refine Ev.bind hg ?_
  rw [wrap64_id (n := 1000 * R) (by omega) (by omega)]
  exact Ev.now _
theorem apart_both (L U R V : Int) (hR : 0 ≤ R ∧ R ≤ 5000) (holds : List S85) (sills : List S59) (lots : List S79) (hho : ∀ h, h ∈ holds → HoldB h) (hlo : ∀ c, c ∈ lots → LotB c) (hhn : holds.length ≤ 1000) (hln : lots.length ≤ 1000) (s : List Int) (hs : s.length = lots.length) (hr : ∀ y, y ∈ s → -1 ≤ y ∧ y < (holds.length : Int)) (d : Nat) :
    ∀ (i : Nat) (a b : Int), i + d = s.length → (-50000000 * (i : Int) ≤ a ∧ a ≤ 50000000 * (i : Int)) → (-50000000 * (i : Int) ≤ b ∧ b ≤ 50000000 * (i : Int)) → ∃ y z : Int, (-1500000000000 ≤ y ∧ y ≤ 1500000000000) ∧ Ev (fun k => ship_apart.l0 k s (s.length : Int) (i : Int) L U R holds V sills lots a b) (y, z) ∧
      Ev (fun k => swarfref07_level.l0 k s (i : Int) L U R holds V sills lots a b) (decide (max z (-y) ≤ 1000 * R), y, z) := by
  induction d with
  | zero =>
    intro i a b hi ha hb
    refine ⟨a, b, by omega, Ev.succ ?_, Ev.succ ?_⟩
    · simp (disch := omega) only [ship_apart.l0, if_neg]; exact Ev.now _
    · simp (disch := omega) only [swarfref07_level.l0, if_neg]
      rw [wrap64_id (n := -1000 * R) (by omega) (by omega), wrap64_id (n := 1000 * R) (by omega) (by omega)]
      by_cases h : a ≥ -1000 * R
      · simp only [if_pos h]
        rw [show decide (b ≤ 1000 * R) = decide (max b (-a) ≤ 1000 * R) from decide_eq_decide.2 (by omega)]
        exact Ev.now _
      · simp only [if_neg h]
        rw [decide_eq_false (show ¬ max b (-a) ≤ 1000 * R by omega)]
        exact Ev.now _
  | succ d ih =>
    intro i a b hi ha hb
    have hil : i < lots.length := by omega
    have his : i < s.length := by omega
    obtain ⟨r1, r2⟩ := hr _ (getD_mem s i 0 his)
    obtain ⟨c1, c2, c3⟩ := hlo _ (getD_mem lots i z79 hil)
    by_cases h0 : s.getD i 0 < 0
    · obtain ⟨y, z, k0, k1, k2⟩ := ih (i + 1) a b (by omega) (by omega) (by omega)
      refine ⟨y, z, k0, Ev.succ ?_, Ev.succ ?_⟩
      · simp (disch := omega) only [ship_apart.l0, if_pos, rdI]; rw [wrapS (by omega)]; exact k1
      · simp (disch := omega) only [swarfref07_level.l0, if_pos, rdI]; rw [wrapS (by omega)]; exact k2
    · obtain ⟨g, hg⟩ := Int.eq_ofNat_of_zero_le (show 0 ≤ s.getD i 0 by omega)
      obtain ⟨⟨a1, a2⟩, a3, a4⟩ := hho _ (getD_mem holds g z85 (by omega))
      have hn : wrap64 ((holds.getD g z85).f1 - (holds.getD g z85).f2) = (holds.getD g z85).f1 - (holds.getD g z85).f2 := wrap64_id (by omega) (by omega)
      obtain ⟨n, hnn⟩ : ∃ n, n = (holds.getD g z85).f1 - (holds.getD g z85).f2 := ⟨_, rfl⟩
      rw [← hnn] at hn
      have m1 := mul_bd2 (a := (lots.getD i z79).f0.f0) (b := n) (A := 5000) (B := 10000) c1 (by omega) (by omega) (by omega) (by decide)
      have m2 := mul_bd2 (a := (lots.getD i z79).f0.f1) (b := n) (A := 5000) (B := 10000) (by omega) c3 (by omega) (by omega) (by decide)
      have w1 : wrap64 ((lots.getD i z79).f0.f0 * n) = (lots.getD i z79).f0.f0 * n := wrap64_id (by omega) (by omega)
      have w2 : wrap64 ((lots.getD i z79).f0.f1 * n) = (lots.getD i z79).f0.f1 * n := wrap64_id (by omega) (by omega)
      generalize hu : (lots.getD i z79).f0.f0 * n = u at *
      generalize hv : (lots.getD i z79).f0.f1 * n = v at *
      have hu' : n * (lots.getD i z79).f0.f0 = u := by rw [Int.mul_comm]; exact hu
      have hv' : n * (lots.getD i z79).f0.f1 = v := by rw [Int.mul_comm]; exact hv
      have w3 : wrap64 (a + mn u v) = a + mn u v := by rw [mn_min]; exact wrap64_id (by omega) (by omega)
      have w4 : wrap64 (b + mx u v) = b + mx u v := by rw [mx_max]; exact wrap64_id (by omega) (by omega)
      obtain ⟨y, z, k0, k1, k2⟩ := ih (i + 1) (a + mn u v) (b + mx u v) (by omega) (by rw [mn_min]; omega) (by rw [mx_max]; omega)
      refine ⟨y, z, k0, Ev.succ ?_, Ev.succ ?_⟩
      · simp (disch := omega) only [ship_apart.l0, if_pos, if_neg, rdI, rd79]
        rw [hg, rd85, ← hnn, wrapS (by omega), hn, hu, hv, w1, w2, w3, w4]; exact k1
      · simp (disch := omega) only [swarfref07_level.l0, if_pos, if_neg, rdI, rd79]
        rw [hg, rd85, ← hnn, wrapS (by omega), hn, hu', hv', w1, w2, w3, w4]; exact k2
theorem level_both {L U R V : Int} {holds : List S85} {sills : List S59} {lots : List S79} (hn : Narrow holds sills lots) (s : List Int) (hsl : s.length ≤ 1000) :
    ∃ (b : Bool) (y z e : Int), Ev (fun k => ship_Level.f k L U R holds V sills lots s) (b, y, z, e) ∧ Ev (fun k => swarfref07_Level.f k L U R holds V sills lots s) (b, y, z, e) := by
  have hc := shipCS_ev (L := L) (U := U) (R := R) (V := V) hn s hsl
  have hr := refCS_ev (L := L) (U := U) (R := R) (V := V) hn s hsl
  by_cases h0 : stowingE L U R holds V sills lots s = 0
  · obtain ⟨hv, hs, hrg⟩ := stowing_zero h0
    rw [h0] at hc hr
    obtain ⟨y, z, k0, k1, k2⟩ := apart_both L U R V hv.trim holds sills lots (fun x hx => ⟨(hv.ho x hx).2.1, (hv.ho x hx).2.2⟩) (fun c hc => by obtain ⟨a, b, c, _⟩ := hv.lo c hc; exact ⟨a, b, c⟩) hn.h hn.l s hs hrg s.length 0 0 0 (by omega) (by omega) (by omega)
    refine ⟨decide (max z (-y) ≤ 1000 * R), y, z, 0, ?_, ?_⟩
    · unfold ship_Level.f
      refine Ev.bind hc ?_
      simp only [if_true]
      refine Ev.bind (show Ev (fun k => ship_apart.f k L U R holds V sills lots s) (y, z) from k1) ?_
      exact Ev.bind (levelB_ev L U R V holds sills lots y z k0 hv.trim) (Ev.now _)
    · unfold swarfref07_Level.f
      refine Ev.bind hr ?_
      simp only [if_true]
      exact Ev.bind (show Ev (fun k => swarfref07_level.f k L U R holds V sills lots s) _ from k2) (Ev.now _)
  · refine ⟨false, 0, 0, stowingE L U R holds V sills lots s, ?_, ?_⟩
    · unfold ship_Level.f
      refine Ev.bind hc ?_
      simp only [if_neg h0]; exact Ev.now _
    · unfold swarfref07_Level.f
      refine Ev.bind hr ?_
      simp only [if_neg h0]; exact Ev.now _
end Go.Proofs.Ytodmemndaaiolaa.PC7
namespace Go.Proofs.Ytodmemndaaiolaa.PC7
open Go.RowKit Go.Proofs.YtodmemndaaiolaaW.PrintWords Go.Proofs.YtodmemndaaiolaaW.PrintLast Go.Proofs.YtodmemndaaiolaaW.PrintMore
attribute [local go_sem] max2_int min2_int max_two min_two max_three min_three max_four min_four
set_option linter.unusedVariables false
set_option linter.unusedSimpArgs false
mutual
def swarflaw07_wide.l0 : Nat → Int → Int → Int → Int → List (S85) → Int → List (S59) → List (S79) → Option (Bool)
 | 0, _, _, _, _, _, _, _, _ => none
 | k + 1, x3, x158000, x158001, x158002, x158003, x158004, x158005, x158006 => if x3 < (x158005.length : Int) then (swarflaw07_wide.j1 k x3 (decide (x3 < 20)) x158000 x158001 x158002 x158003 x158004 x158005 x158006) else (swarflaw07_wide.j1 k x3 false x158000 x158001 x158002 x158003 x158004 x158005 x158006)
def swarflaw07_wide.j1 : Nat → Int → Bool → Int → Int → Int → List (S85) → Int → List (S59) → List (S79) → Option (Bool)
 | 0, _, _, _, _, _, _, _, _, _ => none
 | k + 1, x3, x12, x158000, x158001, x158002, x158003, x158004, x158005, x158006 => if x12 = true then (if 0 ≤ x3 then (if x3 < (x158005.length : Int) then (if (((rd_T59 x158005 x3).f1).length : Int) > 20 then (some true) else (swarflaw07_wide.l0 k (wrap64 (x3 + 1)) x158000 x158001 x158002 x158003 x158004 x158005 x158006)) else (none)) else (none)) else (if (x158003.length : Int) > 20 then (some true) else (if (x158005.length : Int) > 20 then (some true) else (some (decide ((x158006.length : Int) > 20)))))
end
def swarflaw07_wide.f (k : Nat) (a0_0 : Int) (a0_1 : Int) (a0_2 : Int) (l0_3 : List (S85)) (a0_4 : Int) (l0_5 : List (S59)) (l0_6 : List (S79)) : Option (Bool) := swarflaw07_wide.l0 k 0 a0_0 a0_1 a0_2 l0_3 a0_4 l0_5 l0_6
set_option maxHeartbeats 8000000 in
set_option maxRecDepth 100000 in
theorem swarflaw07_wide.calls (k : Nat) (a0_0 : Int) (a0_1 : Int) (a0_2 : Int) (A0_3 : Option Addr) (c0_3 : Nat) (l0_3 : List (S85)) (a0_4 : Int) (A0_5 : Option Addr) (c0_5 : Nat) (l0_5 : List (S59)) (A0_6 : Option Addr) (c0_6 : Nat) (l0_6 : List (S79)) (r : Bool) (w : World) (hr0_3 : Kd.C k85 w A0_3 l0_3.length l0_3) (hc0_3 : l0_3.length ≤ c0_3) (hr0_5 : Kd.C k59 w A0_5 l0_5.length l0_5) (hc0_5 : l0_5.length ≤ c0_5) (hr0_6 : Kd.C k79 w A0_6 l0_6.length l0_6) (hc0_6 : l0_6.length ≤ c0_6) (h : swarflaw07_wide.f k a0_0 a0_1 a0_2 l0_3 a0_4 l0_5 l0_6 = some r) :
  Calls Try.prog 14 #[.agg #[.int .i64 a0_0, .int .i64 a0_1, .int .i64 a0_2, .slice A0_3 l0_3.length c0_3, .int .i64 a0_4, .slice A0_5 l0_5.length c0_5, .slice A0_6 l0_6.length c0_6]] w fun e w' => e = .returned (.bool r) ∧ Below w.heap.size w w' := by
 have hu26 := Try.underlying26
 have HR0_3 := Aside0.mk hr0_3
 have HC0_3 := Aside0.mk hc0_3
 clear hr0_3 hc0_3
 have HR0_5 := Aside0.mk hr0_5
 have HC0_5 := Aside0.mk hc0_5
 clear hr0_5 hc0_5
 have HR0_6 := Aside0.mk hr0_6
 have HC0_6 := Aside0.mk hc0_6
 clear hr0_6 hc0_6
 have HB := Aside0.mk (Below.refl w.heap.size w)
 have H : (swarflaw07_wide.l0 k 0 a0_0 a0_1 a0_2 l0_3 a0_4 l0_5 l0_6) = some r := h
 clear h
 have H' := Aside0.mk H
 clear H
 go_enter Try.func14, Try.ntmps14
 go_wp2_with (first | ((with_reducible refine gate_dst (N := 1) rfl ?_); (try (refine gate_guard (by rfl) ?_; dsimp only)); refine box_x (N := 1) (cs := #[.int .i64 a0_0, .int .i64 a0_1, .int .i64 a0_2, .slice A0_3 l0_3.length c0_3, .int .i64 a0_4, .slice A0_5 l0_5.length c0_5, .slice A0_6 l0_6.length c0_6]) (t := 26) ?_; intro gb157 hg w2 hbox hb; have BK157 := Aside0.mk (hbox); have GW157 := gw_x hg HB; have GE157 := GW157; replace HB := Aside0.mk (below_step (below_x HB.out) hb); clear hb hbox hg))
 go_loopg [3] k (fun kq v3 w' => ∃ (x3_1 : Int), v3 = .int .i64 x3_1 ∧ Aside0 (swarflaw07_wide.l0 kq x3_1 a0_0 a0_1 a0_2 l0_3 a0_4 l0_5 l0_6 = some r) ∧ Aside0 (kq ≤ k) ∧ Aside0 (w'.heap[gb157]? = some (.cells #[.int .i64 a0_0, .int .i64 a0_1, .int .i64 a0_2, (.slice A0_3 l0_3.length c0_3), .int .i64 a0_4, (.slice A0_5 l0_5.length c0_5), (.slice A0_6 l0_6.length c0_6)] 26 (0, 0))) ∧ Aside0 (Below w.heap.size w w'))
 case atStart => exact ⟨(0), (by first | rfl | (simp; done) | (simp [*]; done)), H', ⟨Nat.le_refl _⟩, ⟨blk_x BK157.out⟩, ⟨by exact below_y HB.out⟩⟩
 case round =>
  clear H'; obtain ⟨x3_1, rfl, HA, HK1, BK157, HB⟩ := hrel; cases gk with
  | zero => exact absurd HA.out (by simp [swarflaw07_wide.l0])
  | succ k1 =>
   have H := HA.out; clear HA; simp only [swarflaw07_wide.l0] at H; have HC3 := Aside0.mk H; clear H
   go_upto_region 2 with (fail)
   go_cut [12] (fun v12 wc => ∃ (kq : Nat) (x12_2 : Bool), v12 = .bool x12_2 ∧ Aside0 (swarflaw07_wide.j1 kq x3_1 x12_2 a0_0 a0_1 a0_2 l0_3 a0_4 l0_5 l0_6 = some r) ∧ Aside0 (kq ≤ k1) ∧ Aside0 (wc.heap[gb157]? = some (.cells #[.int .i64 a0_0, .int .i64 a0_1, .int .i64 a0_2, (.slice A0_3 l0_3.length c0_3), .int .i64 a0_4, (.slice A0_5 l0_5.length c0_5), (.slice A0_6 l0_6.length c0_6)] 26 (0, 0))) ∧ Aside0 (Below w.heap.size w wc))
   case first =>
    have H := HC3.out; clear HC3; by_cases c4 : x3_1 < (l0_5.length : Int)
    ·
     rw [if_pos c4] at H; have c4b0 : decide (x3_1 < (l0_5.length : Int)) = true := decide_eq_true c4; clear c4
     (first | rw [c4b0] | (simp only [i64_w, i32_w]; rw [c4b0]) | skip)
     have H' := Aside0.mk H; clear H; obtain ⟨hfz5_0, _, _, _, _, _, _, _⟩ := cf7 BK157; go_wp2; go_meet
     case rel => exact ⟨_, (decide (x3_1 < 20)), (by first | rfl | (simp; done) | (simp [*]; done)), H', ⟨by have := HK1.out; first | omega | exact Nat.le_refl _⟩, ⟨blk_x BK157.out⟩, ⟨by exact below_y HB.out⟩⟩
    ·
     rw [if_neg c4] at H; have c4b0 : decide (x3_1 < (l0_5.length : Int)) = false := decide_eq_false c4; clear c4
     (first | rw [c4b0] | (simp only [i64_w, i32_w]; rw [c4b0]) | skip)
     have H' := Aside0.mk H; clear H; obtain ⟨hfz6_0, _, _, _, _, _, _, _⟩ := cf7 BK157; go_wp2; go_meet
     case rel => exact ⟨_, (false), (by first | rfl | (simp; done) | (simp [*]; done)), H', ⟨by have := HK1.out; first | omega | exact Nat.le_refl _⟩, ⟨blk_x BK157.out⟩, ⟨by exact below_y HB.out⟩⟩
   case rest =>
    clear HC3; obtain ⟨kq, x12_2, rfl, HA, HJ2, BK157, HB⟩ := hcut; cases kq with
    | zero => exact absurd HA.out (by simp [swarflaw07_wide.j1])
    | succ kj2 =>
     have H := HA.out; clear HA; simp only [swarflaw07_wide.j1] at H; by_cases c7 : x12_2 = true
     ·
      subst c7; (have H1 : (if 0 ≤ x3_1 then (if x3_1 < (l0_5.length : Int) then (if (((rd_T59 l0_5 x3_1).f1).length : Int) > 20 then (some true) else (swarflaw07_wide.l0 kj2 (wrap64 (x3_1 + 1)) a0_0 a0_1 a0_2 l0_3 a0_4 l0_5 l0_6)) else (none)) else (none)) = some r := by rw [if_pos rfl] at H; exact H); clear H; have H := H1; clear H1; by_cases c8 : 0 ≤ x3_1
      ·
       rw [if_pos c8] at H; have c8b0 : decide (0 ≤ x3_1) = true := decide_eq_true c8; clear c8; by_cases c9 : x3_1 < (l0_5.length : Int)
       ·
        rw [if_pos c9] at H; have c9b0 : decide (x3_1 < (l0_5.length : Int)) = true := decide_eq_true c9; clear c9; by_cases c10 : (((rd_T59 l0_5 x3_1).f1).length : Int) > 20
        ·
         rw [if_pos c10] at H; have c10b0 : decide (20 < (((rd_T59 l0_5 x3_1).f1).length : Int)) = true := decide_eq_true c10; have c10b1 : decide (20 < ((rd_T59 l0_5 x3_1).f1).length) = true := decide_eq_true (by omega); clear c10; obtain rfl := Option.some.inj H; obtain ⟨hfz11_0, _, _, _, _, _, _, _⟩ := cf7 BK157; have p158 : 0 ≤ (x3_1 : Int) := of_x; have q158 : x3_1 < (l0_5.length : Int) := of_x; obtain ⟨ad158, A158_2, c158_2, e158, hx158_0, hx158_1, hx158_2, hl158_2, hi158_2⟩ := at_T59 HR0_5.out x3_1 p158 q158; (cases e158); replace hx158_0 := cell_x HB hx158_0; replace hx158_1 := cell_x HB hx158_1; replace hx158_2 := cell_x HB hx158_2; have HR158_2 := Aside0.mk hi158_2; have HC158_2 := Aside0.mk hl158_2; clear hi158_2 hl158_2; replace p158 := eq_true p158; replace q158 := eq_true q158; go_wp2; go_ret; exact rt_y HB
        ·
         rw [if_neg c10] at H; have c10b0 : decide (20 < (((rd_T59 l0_5 x3_1).f1).length : Int)) = false := decide_eq_false c10; have c10b1 : decide (20 < ((rd_T59 l0_5 x3_1).f1).length) = false := decide_eq_false (by omega); clear c10; have H' := Aside0.mk H; clear H; obtain ⟨hfz12_0, _, _, _, _, _, _, _⟩ := cf7 BK157; have p158 : 0 ≤ (x3_1 : Int) := of_x; have q158 : x3_1 < (l0_5.length : Int) := of_x; obtain ⟨ad158, A158_2, c158_2, e158, hx158_0, hx158_1, hx158_2, hl158_2, hi158_2⟩ := at_T59 HR0_5.out x3_1 p158 q158; (cases e158); replace hx158_0 := cell_x HB hx158_0; replace hx158_1 := cell_x HB hx158_1; replace hx158_2 := cell_x HB hx158_2; have HR158_2 := Aside0.mk hi158_2; have HC158_2 := Aside0.mk hl158_2; clear hi158_2 hl158_2; replace p158 := eq_true p158; replace q158 := eq_true q158; go_wp2; go_roundg kj2
         case measure => have := HK1.out; have := HJ2.out; omega
         case rel => exact ⟨(wrap64 (x3_1 + 1)), (by first | rfl | (simp; done) | (simp [*]; done)), H', ⟨by have := HK1.out; have := HJ2.out; omega⟩, ⟨blk_x BK157.out⟩, ⟨by exact below_y HB.out⟩⟩
       ·
        rw [if_neg c9] at H; exact absurd H (by simp)
      ·
       rw [if_neg c8] at H; exact absurd H (by simp)
     ·
      replace c7 := Bool.eq_false_iff.mpr c7; subst c7; replace H : (if (l0_3.length : Int) > 20 then (some true) else (if (l0_5.length : Int) > 20 then (some true) else (some (decide ((l0_6.length : Int) > 20))))) = some r := ifn_x H; by_cases c13 : (l0_3.length : Int) > 20
      ·
       rw [if_pos c13] at H; have c13b0 : decide (20 < (l0_3.length : Int)) = true := decide_eq_true c13; have c13b1 : decide (20 < l0_3.length) = true := decide_eq_true (by omega); clear c13; obtain rfl := Option.some.inj H; obtain ⟨hfz14_0, _, _, _, _, _, _, _⟩ := cf7 BK157; go_wp2; go_ret; exact rt_y HB
      ·
       rw [if_neg c13] at H; have c13b0 : decide (20 < (l0_3.length : Int)) = false := decide_eq_false c13; have c13b1 : decide (20 < l0_3.length) = false := decide_eq_false (by omega); clear c13; by_cases c15 : (l0_5.length : Int) > 20
       ·
        rw [if_pos c15] at H; have c15b0 : decide (20 < (l0_5.length : Int)) = true := decide_eq_true c15; have c15b1 : decide (20 < l0_5.length) = true := decide_eq_true (by omega); clear c15; obtain rfl := Option.some.inj H; obtain ⟨hfz16_0, _, _, _, _, _, _, _⟩ := cf7 BK157; go_wp2; go_ret; exact rt_y HB
       ·
        rw [if_neg c15] at H; have c15b0 : decide (20 < (l0_5.length : Int)) = false := decide_eq_false c15; have c15b1 : decide (20 < l0_5.length) = false := decide_eq_false (by omega); clear c15; obtain rfl := Option.some.inj H; obtain ⟨hfz17_0, _, _, _, _, _, _, _⟩ := cf7 BK157; go_wp2; go_ret; exact rt_y HB
end Go.Proofs.Ytodmemndaaiolaa.PC7
namespace Go.Proofs.Ytodmemndaaiolaa.PC7
set_option linter.unusedVariables false
set_option linter.unusedSimpArgs false
open Go.RowKit Go.Proofs.YtodmemndaaiolaaW.PrintWords Go.Proofs.YtodmemndaaiolaaW.PrintLast Go.Proofs.YtodmemndaaiolaaW.PrintMore
theorem wide_l0 (L U R V : Int) (holds : List S85) (sills : List S59) (lots : List S79) (d : Nat) :
    ∀ i : Nat, i + d = min sills.length 20 → (∀ j, j < i → (sills.getD j z59).f1.length ≤ 20) → Res (fun k => swarflaw07_wide.l0 k (i : Int) L U R holds V sills lots) (fun b => b = false → holds.length ≤ 20 ∧ sills.length ≤ 20 ∧ lots.length ≤ 20 ∧ ∀ j, j < sills.length → (sills.getD j z59).f1.length ≤ 20) := by
  induction d with
  | zero =>
    intro i hi hj
    have fin : Res (fun k => swarflaw07_wide.j1 k (i : Int) false L U R holds V sills lots) (fun b => b = false → holds.length ≤ 20 ∧ sills.length ≤ 20 ∧ lots.length ≤ 20 ∧ ∀ j, j < sills.length → (sills.getD j z59).f1.length ≤ 20) := by
      refine Res.succ ?_
      simp only [swarflaw07_wide.j1, Bool.false_eq_true, if_false]
      by_cases h1 : (holds.length : Int) > 20
      · simp only [if_pos h1]; exact Res.now (fun h => by cases h)
      · by_cases h2 : (sills.length : Int) > 20
        · simp only [if_neg h1, if_pos h2]; exact Res.now (fun h => by cases h)
        · simp only [if_neg h1, if_neg h2]
          refine Res.now (fun h => ?_)
          have h3 := of_decide_eq_false h
          exact ⟨by omega, by omega, by omega, fun j hjl => hj j (by omega)⟩
    refine Res.succ ?_
    by_cases h : (i : Int) < (sills.length : Int)
    · simp only [swarflaw07_wide.l0, if_pos h]
      rw [decide_eq_false (by omega)]; exact fin
    · simp only [swarflaw07_wide.l0, if_neg h]; exact fin
  | succ d ih =>
    intro i hi hj
    refine Res.succ ?_
    simp (disch := omega) only [swarflaw07_wide.l0, if_pos]
    rw [decide_eq_true (by omega)]
    refine Res.succ ?_
    simp (disch := omega) only [swarflaw07_wide.j1, if_true, if_pos, rd59]
    by_cases h : ((sills.getD i z59).f1.length : Int) > 20
    · simp only [if_pos h]; exact Res.now (fun h => by cases h)
    · simp only [if_neg h]
      rw [wrapS (by omega)]
      refine ih (i + 1) (by omega) (fun j hji => ?_)
      by_cases e : j = i
      · subst e; omega
      · exact hj j (by omega)
theorem wide_res (L U R V : Int) (holds : List S85) (sills : List S59) (lots : List S79) : Res (fun k => swarflaw07_wide.f k L U R holds V sills lots) (fun b => b = false → Narrow holds sills lots ∧ holds.length ≤ 20 ∧ sills.length ≤ 20 ∧ lots.length ≤ 20 ∧ ∀ s, s ∈ sills → s.f1.length ≤ 20) := by
  refine (wide_l0 L U R V holds sills lots (min sills.length 20) 0 (by omega) (fun j h => by omega)).mono fun b hb h => ?_
  obtain ⟨a, b, c, d⟩ := hb h
  have hs : ∀ s, s ∈ sills → s.f1.length ≤ 20 := fun s hs => by
    obtain ⟨i, hi, rfl⟩ := List.getElem_of_mem hs
    have := d i hi
    rwa [getD_get _ _ _ hi] at this
  exact ⟨⟨by omega, by omega, fun s h => by have := hs s h; omega, by omega⟩, a, b, c, hs⟩
end Go.Proofs.Ytodmemndaaiolaa.PC7
namespace Go.Proofs.Ytodmemndaaiolaa.PC7
open Go.RowKit Go.Proofs.YtodmemndaaiolaaW.PrintWords Go.Proofs.YtodmemndaaiolaaW.PrintLast Go.Proofs.YtodmemndaaiolaaW.PrintMore
attribute [local go_sem] max2_int min2_int max_two min_two max_three min_three max_four min_four
set_option linter.unusedVariables false
set_option linter.unusedSimpArgs false
mutual
def swarfkit_StowageOf.l0 : Nat → List Int → List Int → Int → Int → Int → Int → Int → List (S85) → Int → List (S59) → List (S79) → Option (List Int × Int)
 | 0, _, _, _, _, _, _, _, _, _, _, _ => none
 | k + 1, x5, x6, x7, x1000, x363000, x363001, x363002, x363003, x363004, x363005, x363006 => if x7 < (x363006.length : Int) then ((swarfkit_Feed_Between.f x1000 (-1) (wrap64 ((x363003.length : Int) - 1))).bind fun bt366 => (if bt366.1 ≥ 0 then (if 0 ≤ bt366.1 then (if bt366.1 < (x6.length : Int) then (if 0 ≤ x7 then (if bt366.1 < (x363003.length : Int) then (swarfkit_StowageOf.j1 k x5 x6 x7 bt366.1 (decide ((wrap64 ((rd x6 bt366.1) + ((rd_T79 x363006 x7).f0.f1))) > ((rd_T85 x363003 bt366.1).f0))) bt366.2 x363000 x363001 x363002 x363003 x363004 x363005 x363006) else (none)) else (none)) else (none)) else (none)) else (swarfkit_StowageOf.j1 k x5 x6 x7 bt366.1 false bt366.2 x363000 x363001 x363002 x363003 x363004 x363005 x363006))) else (some (x5, x1000))
def swarfkit_StowageOf.j1 : Nat → List Int → List Int → Int → Int → Bool → Int → Int → Int → Int → List (S85) → Int → List (S59) → List (S79) → Option (List Int × Int)
 | 0, _, _, _, _, _, _, _, _, _, _, _, _, _ => none
 | k + 1, x5, x6, x7, x8, x48, x1000, x363000, x363001, x363002, x363003, x363004, x363005, x363006 => if x48 = true then (if (-1) ≥ 0 then (if 0 ≤ (-1) then (if (-1) < (x6.length : Int) then (if 0 ≤ x7 then (if x7 < (x363006.length : Int) then (if x5.length < 17592186044416 then (swarfkit_StowageOf.l0 k (x5 ++ [(-1)]) (x6.set ((-1) : Int).toNat (wrap64 ((rd x6 (-1)) + ((rd_T79 x363006 x7).f0.f1)))) (wrap64 (x7 + 1)) x1000 x363000 x363001 x363002 x363003 x363004 x363005 x363006) else (none)) else (none)) else (none)) else (none)) else (none)) else (if x5.length < 17592186044416 then (swarfkit_StowageOf.l0 k (x5 ++ [(-1)]) x6 (wrap64 (x7 + 1)) x1000 x363000 x363001 x363002 x363003 x363004 x363005 x363006) else (none))) else (if x8 ≥ 0 then (if 0 ≤ x8 then (if x8 < (x6.length : Int) then (if 0 ≤ x7 then (if x7 < (x363006.length : Int) then (if x5.length < 17592186044416 then (swarfkit_StowageOf.l0 k (x5 ++ [x8]) (x6.set (x8 : Int).toNat (wrap64 ((rd x6 x8) + ((rd_T79 x363006 x7).f0.f1)))) (wrap64 (x7 + 1)) x1000 x363000 x363001 x363002 x363003 x363004 x363005 x363006) else (none)) else (none)) else (none)) else (none)) else (none)) else (if x5.length < 17592186044416 then (swarfkit_StowageOf.l0 k (x5 ++ [x8]) x6 (wrap64 (x7 + 1)) x1000 x363000 x363001 x363002 x363003 x363004 x363005 x363006) else (none)))
end
def swarfkit_StowageOf.f (k : Nat) (s0_0 : Int) (a1_0 : Int) (a1_1 : Int) (a1_2 : Int) (l1_3 : List (S85)) (a1_4 : Int) (l1_5 : List (S59)) (l1_6 : List (S79)) : Option (List Int × Int) := if 0 ≤ (l1_3.length : Int) then (if ((l1_3.length : Int) : Int).toNat ≤ 35184372088832 then (swarfkit_StowageOf.l0 k ([] : List Int) (List.replicate ((l1_3.length : Int) : Int).toNat 0) 0 s0_0 a1_0 a1_1 a1_2 l1_3 a1_4 l1_5 l1_6) else (none)) else (none)
def swarfkit_StowageOf.T7 : Bool × List (List Nat × List Nat) := (true, [([], []), ([0], [0]), ([1], [1]), ([2], [2]), ([2], [2]), ([3, 4, 2], [2, 3, 4]), ([5, 2], [2, 5]), ([2], [2]), ([7, 2], [2, 7]), ([2], [2]), ([8, 9, 2], [2, 8, 9]), ([10, 2], [2, 10]), ([11, 2], [2, 11]), ([12, 2], [2, 12]), ([6, 13, 2], [2, 6, 13]), ([2], [2]), ([15, 2], [2, 15]), ([2], [2]), ([16, 17, 2], [2, 16, 17]), ([18, 2], [2, 18]), ([19, 2], [2, 19]), ([14, 20, 2], [2, 14, 20]), ([2, 21], [2, 21])])
def swarfkit_StowageOf.B7 : List Nat := [0, 1, 3, 7, 7, 31, 63, 7, 135, 7, 903, 1927, 3975, 8071, 16383, 7, 32775, 7, 229383, 491527, 1015815, 2097151, 4194303]
theorem swarfkit_StowageOf.tab7 : rtab .any (opsOf Try.f19 7) = swarfkit_StowageOf.T7 := by kernel_rfl
theorem swarfkit_StowageOf.bits7 : waitsOk swarfkit_StowageOf.T7.2 swarfkit_StowageOf.B7 = true := by kernel_rfl
def swarfkit_StowageOf.T10 : Bool × List (List Nat × List Nat) := (true, [([], []), ([], []), ([], []), ([], []), ([2, 3], [2, 3]), ([4], [4]), ([], []), ([6], [6]), ([], []), ([7, 8], [7, 8]), ([9], [9]), ([10], [10]), ([11], [11]), ([5, 12], [5, 12]), ([0, 1, 0, 1, 2, 3, 4, 5, 6, 7, 8, 9, 10, 11, 12, 13], [0, 1]), ([14, 13, 0, 1, 2, 3, 4, 5, 6, 7, 8, 9, 10, 11, 12, 13], [13, 14])])
def swarfkit_StowageOf.B10 : List Nat := [0, 0, 0, 0, 12, 28, 0, 64, 0, 448, 960, 1984, 4032, 8188, 16383, 32767]
theorem swarfkit_StowageOf.tab10 : rtab .any (opsOf Try.f19 10) = swarfkit_StowageOf.T10 := by kernel_rfl
theorem swarfkit_StowageOf.bits10 : waitsOk swarfkit_StowageOf.T10.2 swarfkit_StowageOf.B10 = true := by kernel_rfl
set_option maxHeartbeats 8000000 in
set_option maxRecDepth 100000 in
theorem swarfkit_StowageOf.calls (k : Nat) (g : Nat) (s0_0 : Int) (a1_0 : Int) (a1_1 : Int) (a1_2 : Int) (A1_3 : Option Addr) (c1_3 : Nat) (l1_3 : List (S85)) (a1_4 : Int) (A1_5 : Option Addr) (c1_5 : Nat) (l1_5 : List (S59)) (A1_6 : Option Addr) (c1_6 : Nat) (l1_6 : List (S79)) (r1 : List Int) (r2 : Int) (w0 w : World) (hI : IsS90 w0 w g s0_0) (hB : Below w0.heap.size w0 w) (hr1_3 : ∀ W_, KeepBut w W_ g none → Kd.C k85 W_ A1_3 l1_3.length l1_3) (hc1_3 : l1_3.length ≤ c1_3) (hr1_5 : ∀ W_, KeepBut w W_ g none → Kd.C k59 W_ A1_5 l1_5.length l1_5) (hc1_5 : l1_5.length ≤ c1_5) (hr1_6 : ∀ W_, KeepBut w W_ g none → Kd.C k79 W_ A1_6 l1_6.length l1_6) (hc1_6 : l1_6.length ≤ c1_6) (h : swarfkit_StowageOf.f k s0_0 a1_0 a1_1 a1_2 l1_3 a1_4 l1_5 l1_6 = some (r1, r2)) :
  Calls Try.prog 19 #[.pointer (some ⟨g, 0, none⟩), .agg #[.int .i64 a1_0, .int .i64 a1_1, .int .i64 a1_2, .slice A1_3 l1_3.length c1_3, .int .i64 a1_4, .slice A1_5 l1_5.length c1_5, .slice A1_6 l1_6.length c1_6]] w fun e w' => ∃ v0_ : Value, e = .returned (v0_) ∧ Kd.R (Kd.int .i64) 3 w' w.heap.size (fun _ => True) v0_ r1 ∧ IsS90 w0 w' g r2 ∧ Below w0.heap.size w0 w' ∧ KeepBut w w' g none := by
 have hu26 := Try.underlying26
 have HR1_3 := Aside0.mk hr1_3
 have HC1_3 := Aside0.mk hc1_3
 clear hr1_3 hc1_3
 have HR1_5 := Aside0.mk hr1_5
 have HC1_5 := Aside0.mk hc1_5
 clear hr1_5 hc1_5
 have HR1_6 := Aside0.mk hr1_6
 have HC1_6 := Aside0.mk hc1_6
 clear hr1_6 hc1_6
 have HI0 := Aside0.mk hI
 have HK := Aside0.mk (KeepBut.refl w g none)
 have HL := Aside0.mk hB.size
 clear hI
 have HW0 := Aside0.mk hB.size
 have HB := Aside0.mk hB
 clear hB
 have H : (if 0 ≤ (l1_3.length : Int) then (if ((l1_3.length : Int) : Int).toNat ≤ 35184372088832 then (swarfkit_StowageOf.l0 k ([] : List Int) (List.replicate ((l1_3.length : Int) : Int).toNat 0) 0 s0_0 a1_0 a1_1 a1_2 l1_3 a1_4 l1_5 l1_6) else (none)) else (none)) = some (r1, r2) := h
 clear h
 by_cases c3 : 0 ≤ (l1_3.length : Int)
 ·
  rw [if_pos c3] at H; have c3b0 := eq_true c3; have c3b1 : decide (0 ≤ (l1_3.length : Int)) = true := decide_eq_true c3; clear c3; by_cases c4 : ((l1_3.length : Int) : Int).toNat ≤ 35184372088832
  ·
   rw [if_pos c4] at H; have c4b0 := eq_true c4; have c4b1 : decide (((l1_3.length : Int) : Int).toNat ≤ 35184372088832) = true := decide_eq_true c4; clear c4; obtain ⟨y363, hy363⟩ : ∃ y_ : List Int, y_ = (List.replicate ((l1_3.length : Int) : Int).toNat 0) := ⟨_, rfl⟩; (replace H : (swarfkit_StowageOf.l0 k ([] : List Int) y363 0 s0_0 a1_0 a1_1 a1_2 l1_3 a1_4 l1_5 l1_6) = some (r1, r2) := by first | (rw [hy363]; with_reducible exact H) | (have H2_ := (Option.bind_some _ _).symm.trans H; rw [hy363]; with_reducible exact H2_) | (have H2_ := (Option.bind_some _ _).symm.trans H; with_reducible exact H2_) | with_reducible exact H | (rw [hy363]; exact H) | exact H); have Ny363 := Aside0.mk hy363; clear hy363; have H' := Aside0.mk H; clear H; go_enter Try.func19, Try.ntmps19
   go_wp2_with (first | (refine box_r (N := 3) rfl (cs := #[.int .i64 a1_0, .int .i64 a1_1, .int .i64 a1_2, .slice A1_3 l1_3.length c1_3, .int .i64 a1_4, .slice A1_5 l1_5.length c1_5, .slice A1_6 l1_6.length c1_6]) (t := 26) ?_; intro gb362 hg w5 hbox hb; replace HB := bl_x HB hb; have BK362 := Aside0.mk (hbox); have GW362 := Aside0.mk ((by rw [hg]; exact (keep_size (w := w) (g := g) (row := none) (by exact keep_y HK.out)) : w.heap.size ≤ gb362)); have GE362 := Aside0.mk ((Nat.le_trans HW0.out (by rw [hg]; exact (keep_size (w := w) (g := g) (row := none) (by exact keep_y HK.out)) : w.heap.size ≤ gb362) : w0.heap.size ≤ gb362)); replace HK := Aside0.mk (KeepBut.trans (by exact keep_y HK.out) (KeepBut.of_below hb g none) (.inl rfl)); have NB0_362 := Aside0.mk ((by rw [hg]; exact Nat.ne_of_lt (IsS90.lt (show IsS90 w0 _ g s0_0 from by exact IsS90.up HI0.out)) : g ≠ gb362)); have NB362_0 := Aside0.mk ((by rw [hg]; exact Nat.ne_of_gt (IsS90.lt (show IsS90 w0 _ g s0_0 from by exact IsS90.up HI0.out)) : gb362 ≠ g)); replace HI0 := Aside0.mk (IsS90.below (by exact IsS90.up HI0.out) hb); clear hb hbox hg; have hnb6 := NB362_0.out; have hnc6 := NB0_362.out; obtain ⟨hfz7_0, _, _, _, _, _, _, _⟩ := cf7 BK362) | ((with_reducible refine gate_dst (N := 12) rfl ?_); refine Kd.R_make (Kd.int .i64) _ 3 rfl (N := 12) rfl 27 _ _ rfl (l1_3.length : Int) rfl rfl Try.underlying27 (.int .i64 0) 8 info3 rfl (by decide) (by omega) 0 (ok := fun _ => True) (okp := fun _ => True) rfl (fun _ hk => hk) trivial (of_x) (Nat.le_trans (Nat.mul_le_mul_right _ (of_x : (l1_3.length : Int).toNat ≤ 35184372088832)) (by omega)) (Below.refl _ _) (Nat.le_refl _) ?_; intro v364 w8 ho9 hb hg_ hnew_; clear hg_ hnew_; (first | rw [← Ny363.out] at ho9 | (simp only [Int.reduceToNat] at ho9; rw [← Ny363.out] at ho9)); have HO365 := Aside0.mk (Kd.R_lower ho9 (keep_size (w := w) (g := g) (row := none) (by exact keep_y HK.out))); replace HI0 := Aside0.mk (IsS90.below (by exact IsS90.up HI0.out) hb); replace BK362 := bk_x BK362 hb; replace HK := Aside0.mk (KeepBut.trans (by exact keep_y HK.out) (KeepBut.of_below hb g none) (.inl rfl)); replace HB := bl_x HB hb; clear hb ho9))
   go_loopg [5, 7] k (fun kq v5 v7 w' => ∃ (x5_1 : List Int) (x6_1 : List Int) (x7_1 : Int) (x1000_1 : Int), v7 = .int .i64 x7_1 ∧ Aside0 (swarfkit_StowageOf.l0 kq x5_1 x6_1 x7_1 x1000_1 a1_0 a1_1 a1_2 l1_3 a1_4 l1_5 l1_6 = some (r1, r2)) ∧ Aside0 (kq ≤ k) ∧ Aside0 (Kd.R (Kd.int .i64) 3 w' w.heap.size (fun k_ => some k_ ≠ (v364 : Value).ownBlock) v5 x5_1) ∧ Aside0 (Kd.R (Kd.int .i64) 3 w' w.heap.size (fun k_ => some k_ ≠ (v5 : Value).ownBlock) v364 x6_1) ∧ Aside0 (w'.heap[gb362]? = some (.cells #[.int .i64 a1_0, .int .i64 a1_1, .int .i64 a1_2, (.slice A1_3 l1_3.length c1_3), .int .i64 a1_4, (.slice A1_5 l1_5.length c1_5), (.slice A1_6 l1_6.length c1_6)] 26 (0, 0))) ∧ Aside0 (IsS90 w0 w' g x1000_1) ∧ Aside0 (KeepBut w w' g none) ∧ Aside0 (Below w0.heap.size w0 w'))
   case atStart => exact ⟨(([] : List Int)), (y363), (0), (s0_0), (by first | rfl | (simp; done) | (simp [*]; done)), H', ⟨Nat.le_refl _⟩, ⟨by first | exact Kd.R_nil _ _ _ _ _ | exact Kd.N_nil _ _ _ _ _ | exact Kd.V_nil _ _ _ _ _ | exact Kd.Q_nil _ _ _ _ _ | exact Kd.S_nil _ _ _ _ _⟩, ⟨by (with_reducible repeat (first | apply Kd.R_alloc | apply Kd.R_drewN | apply Kd.R_drew)); exact Kd.R_mono HO365.out (fun _ hk => (by simp [Value.ownBlock]))⟩, ⟨blk_x BK362.out⟩, ⟨by exact IsS90.up HI0.out⟩, ⟨by exact keep_y HK.out⟩, ⟨by exact below_y HB.out⟩⟩
   case round =>
    clear H'; obtain ⟨x5_1, x6_1, x7_1, x1000_1, rfl, HA, HK1, HO_5, HO_6, BK362, HI0, HK, HB⟩ := hrel; cases gk with
    | zero => exact absurd HA.out (by simp [swarfkit_StowageOf.l0])
    | succ k1 =>
     have H := HA.out; clear HA; simp only [swarfkit_StowageOf.l0] at H; by_cases c10 : x7_1 < (l1_6.length : Int)
     ·
      rw [if_pos c10] at H; have c10b0 : decide (x7_1 < (l1_6.length : Int)) = true := decide_eq_true c10; clear c10; replace H := Option.bind_eq_some_iff.mp H; obtain ⟨⟨t366, t367⟩, A110, H⟩ := H
      try dsimp only at H
      have A11 := Aside0.mk A110; clear A110; have HC12 := Aside0.mk H; clear H; have hnb13 := NB362_0.out; have hnc13 := NB0_362.out; obtain ⟨hfz14_0, _, _, _, _, _, _, _⟩ := cf7 BK362
      go_upto_region 7 with (first | (refine goesG_x 31 rfl (some 25) Try.func31 #[.pointer (some ⟨g, 0, none⟩), .int .i64 (-1), .int .i64 (wrap64 ((l1_3.length : Int) - 1))] ?_; (with_reducible refine (swarfkit_Feed_Between.calls g x1000_1 (-1) (wrap64 ((l1_3.length : Int) - 1)) t366 t367 w0 _ ?side1 ?side2 A11.out).mono ?_); (case side1 => exact IsS90.up HI0.out); (case side2 => exact below_y HB.out); rintro e w15 ⟨rfl, hi, hb, hk⟩; refine ⟨_, rfl, ?_⟩; replace HO_5 := Aside0.mk (Kd.R_mono (Kd.R_keep (IsS90.apart (show IsS90 w0 _ g x1000_1 from by exact IsS90.up HI0.out) (Kd.R_x HO_5.out) (by decide)) hk (fun _ h => h.2)) (fun _ h => h.1)); replace HO_6 := Aside0.mk (Kd.R_mono (Kd.R_keep (IsS90.apart (show IsS90 w0 _ g x1000_1 from by exact IsS90.up HI0.out) (Kd.R_x HO_6.out) (by decide)) hk (fun _ h => h.2)) (fun _ h => h.1)); replace BK362 := Aside0.mk (KeepBut.blk hk (blk_x BK362.out) NB362_0.out (by simp)); replace HK := Aside0.mk (KeepBut.trans (by exact keep_y HK.out) hk (.inl rfl)); replace HB := Aside0.mk (hb); replace HI0 := Aside0.mk (hi); (try clear hb); (try clear hk); (try clear hi)))
      (try simp only [Act.put, put_x])
      go_cut [48] (fun v48 wc => ∃ (kq : Nat) (x48_11 : Bool), v48 = .bool x48_11 ∧ Aside0 (swarfkit_StowageOf.j1 kq x5_1 x6_1 x7_1 t366 x48_11 t367 a1_0 a1_1 a1_2 l1_3 a1_4 l1_5 l1_6 = some (r1, r2)) ∧ Aside0 (kq ≤ k1) ∧ Aside0 (Kd.R (Kd.int .i64) 3 wc w.heap.size (fun k_ => some k_ ≠ (v364 : Value).ownBlock) u5 x5_1) ∧ Aside0 (Kd.R (Kd.int .i64) 3 wc w.heap.size (fun k_ => some k_ ≠ (u5 : Value).ownBlock) v364 x6_1) ∧ Aside0 (wc.heap[gb362]? = some (.cells #[.int .i64 a1_0, .int .i64 a1_1, .int .i64 a1_2, (.slice A1_3 l1_3.length c1_3), .int .i64 a1_4, (.slice A1_5 l1_5.length c1_5), (.slice A1_6 l1_6.length c1_6)] 26 (0, 0))) ∧ Aside0 (IsS90 w0 wc g t367) ∧ Aside0 (KeepBut w wc g none) ∧ Aside0 (Below w0.heap.size w0 wc))
      case first =>
       have H := HC12.out; clear HC12; by_cases c16 : t366 ≥ 0
       ·
        rw [if_pos c16] at H; have c16b0 : decide (0 ≤ t366) = true := decide_eq_true c16; clear c16
        (first | rw [c16b0] | (simp only [i64_w, i32_w]; rw [c16b0]) | skip)
        by_cases c17 : 0 ≤ t366
        ·
         rw [if_pos c17] at H; have c17b0 : decide (0 ≤ t366) = true := decide_eq_true c17; clear c17; by_cases c18 : t366 < (x6_1.length : Int)
         ·
          rw [if_pos c18] at H; have c18b0 : decide (t366 < (x6_1.length : Int)) = true := decide_eq_true c18; clear c18; by_cases c19 : 0 ≤ x7_1
          ·
           rw [if_pos c19] at H; have c19b0 : decide (0 ≤ x7_1) = true := decide_eq_true c19; clear c19; by_cases c20 : t366 < (l1_3.length : Int)
           ·
            rw [if_pos c20] at H; have c20b0 : decide (t366 < (l1_3.length : Int)) = true := decide_eq_true c20; clear c20; have H' := Aside0.mk H; clear H
            try go_wp2
            replace HO_5 := Aside0.mk (Kd.R_drew HO_5.out); replace HO_6 := Aside0.mk (Kd.R_drew HO_6.out); replace BK362 := Aside0.mk (blk_drew BK362.out); replace HI0 := Aside0.mk (IsS90.drew HI0.out); replace HK := Aside0.mk (keep_drew HK.out); replace HB := Aside0.mk (below_drew1 HB.out); obtain ⟨Ao22, co22, eo22⟩ := Kd.R_slice HO_6.out
            (first | subst eo22 | (injection eo22 with f1_ f2_ f3_; have f4_ := f1_.symm; have f5_ := f3_.symm; clear f1_ f2_ f3_; subst f4_; subst f5_))
            have p368 : 0 ≤ (t366 : Int) := of_x; have q368 : t366 < (x6_1.length : Int) := of_x; obtain ⟨ad368, e368, hx368_0⟩ := Kd.at_int (Kd.R_reads' HO_6.out).2.2 t366 p368 q368; (cases e368); replace p368 := eq_true p368; replace q368 := eq_true q368; have p369 : 0 ≤ (x7_1 : Int) := of_x; have q369 : x7_1 < (l1_6.length : Int) := of_x; obtain ⟨ad369, e369, hx369_0, hx369_1, hx369_2⟩ := at_T79 (Kd.C_foot_now HR1_6.out HK.out) x7_1 p369 q369; have hw369_2 := hx369_2; have hw369_1 := hx369_1; have hw369_0 := hx369_0; (cases e369); have hne369_2 := (show (⟨(ad369.add ((x7_1).toNat * 3)).block, (ad369.add ((x7_1).toNat * 3)).off + 2, none⟩ : Addr).block ≠ g from by first | (rw [add_block]; exact Kd.foot_ne HR1_6.out (by omega) (by decide)) | (show (Addr.add _ _).block ≠ _; rw [add_block]; exact Kd.foot_ne HR1_6.out (by omega) (by decide)) | exact Kd.foot_ne HR1_6.out (by omega) (by decide) | (dsimp only; exact Kd.foot_ne HR1_6.out (by omega) (by decide))); have hlt369_2 := (Kd.foot_lt HR1_6.out (by omega) (by decide)); have hne369_1 := (show (⟨(ad369.add ((x7_1).toNat * 3)).block, (ad369.add ((x7_1).toNat * 3)).off + 1, none⟩ : Addr).block ≠ g from by first | (rw [add_block]; exact Kd.foot_ne HR1_6.out (by omega) (by decide)) | (show (Addr.add _ _).block ≠ _; rw [add_block]; exact Kd.foot_ne HR1_6.out (by omega) (by decide)) | exact Kd.foot_ne HR1_6.out (by omega) (by decide) | (dsimp only; exact Kd.foot_ne HR1_6.out (by omega) (by decide))); have hlt369_1 := (Kd.foot_lt HR1_6.out (by omega) (by decide)); have hne369_0 := (show ((ad369.add ((x7_1).toNat * 3)) : Addr).block ≠ g from by first | (rw [add_block]; exact Kd.foot_ne HR1_6.out (by omega) (by decide)) | (show (Addr.add _ _).block ≠ _; rw [add_block]; exact Kd.foot_ne HR1_6.out (by omega) (by decide)) | exact Kd.foot_ne HR1_6.out (by omega) (by decide) | (dsimp only; exact Kd.foot_ne HR1_6.out (by omega) (by decide))); have hlt369_0 := (Kd.foot_lt HR1_6.out (by omega) (by decide)); replace p369 := eq_true p369; replace q369 := eq_true q369; have p370 : 0 ≤ (t366 : Int) := of_x; have q370 : t366 < (l1_3.length : Int) := of_x; obtain ⟨ad370, e370, hx370_0, hx370_1, hx370_2⟩ := at_T85 (Kd.C_foot_now HR1_3.out HK.out) t366 p370 q370; have hw370_2 := hx370_2; have hw370_1 := hx370_1; have hw370_0 := hx370_0; (cases e370); have hne370_2 := (show (⟨(ad370.add ((t366).toNat * 3)).block, (ad370.add ((t366).toNat * 3)).off + 2, none⟩ : Addr).block ≠ g from by first | (rw [add_block]; exact Kd.foot_ne HR1_3.out (by omega) (by decide)) | (show (Addr.add _ _).block ≠ _; rw [add_block]; exact Kd.foot_ne HR1_3.out (by omega) (by decide)) | exact Kd.foot_ne HR1_3.out (by omega) (by decide) | (dsimp only; exact Kd.foot_ne HR1_3.out (by omega) (by decide))); have hlt370_2 := (Kd.foot_lt HR1_3.out (by omega) (by decide)); have hne370_1 := (show (⟨(ad370.add ((t366).toNat * 3)).block, (ad370.add ((t366).toNat * 3)).off + 1, none⟩ : Addr).block ≠ g from by first | (rw [add_block]; exact Kd.foot_ne HR1_3.out (by omega) (by decide)) | (show (Addr.add _ _).block ≠ _; rw [add_block]; exact Kd.foot_ne HR1_3.out (by omega) (by decide)) | exact Kd.foot_ne HR1_3.out (by omega) (by decide) | (dsimp only; exact Kd.foot_ne HR1_3.out (by omega) (by decide))); have hlt370_1 := (Kd.foot_lt HR1_3.out (by omega) (by decide)); have hne370_0 := (show ((ad370.add ((t366).toNat * 3)) : Addr).block ≠ g from by first | (rw [add_block]; exact Kd.foot_ne HR1_3.out (by omega) (by decide)) | (show (Addr.add _ _).block ≠ _; rw [add_block]; exact Kd.foot_ne HR1_3.out (by omega) (by decide)) | exact Kd.foot_ne HR1_3.out (by omega) (by decide) | (dsimp only; exact Kd.foot_ne HR1_3.out (by omega) (by decide))); have hlt370_0 := (Kd.foot_lt HR1_3.out (by omega) (by decide)); replace p370 := eq_true p370; replace q370 := eq_true q370; refine start_ (n := 23) (S := fun w' => w'.cell? ⟨gb362, 0, none⟩ = some (.int .i64 a1_0) ∧ w'.cell? ⟨gb362, 1, none⟩ = some (.int .i64 a1_1) ∧ w'.cell? ⟨gb362, 2, none⟩ = some (.int .i64 a1_2) ∧ w'.cell? ⟨gb362, 3, none⟩ = some (.slice (some ad370) l1_3.length c1_3) ∧ w'.cell? ⟨gb362, 4, none⟩ = some (.int .i64 a1_4) ∧ w'.cell? ⟨gb362, 5, none⟩ = some (.slice A1_5 l1_5.length c1_5) ∧ w'.cell? ⟨gb362, 6, none⟩ = some (.slice (some ad369) l1_6.length c1_6) ∧ w'.cell? (ad368.add (t366).toNat) = some (.int .i64 (rd x6_1 t366)) ∧ w'.cell? (ad369.add ((x7_1).toNat * 3)) = some (.int .i64 ((rd_T79 l1_6 x7_1).f0.f0)) ∧ w'.cell? ⟨(ad369.add ((x7_1).toNat * 3)).block, (ad369.add ((x7_1).toNat * 3)).off + 1, none⟩ = some (.int .i64 ((rd_T79 l1_6 x7_1).f0.f1)) ∧ w'.cell? ⟨(ad369.add ((x7_1).toNat * 3)).block, (ad369.add ((x7_1).toNat * 3)).off + 2, none⟩ = some (.int .i64 ((rd_T79 l1_6 x7_1).f1)) ∧ w'.cell? (ad370.add ((t366).toNat * 3)) = some (.int .i64 ((rd_T85 l1_3 t366).f0)) ∧ w'.cell? ⟨(ad370.add ((t366).toNat * 3)).block, (ad370.add ((t366).toNat * 3)).off + 1, none⟩ = some (.int .i64 ((rd_T85 l1_3 t366).f1)) ∧ w'.cell? ⟨(ad370.add ((t366).toNat * 3)).block, (ad370.add ((t366).toNat * 3)).off + 2, none⟩ = some (.int .i64 ((rd_T85 l1_3 t366).f2))) (ds := []) #[false, false, false, false, false, false, false, false, false, false, false, false, false, false, false, false, false, false, false, false, false, false, false] (by kernel_rfl) rfl rfl ⟨(blk_cell BK362.out 0).trans rfl, (blk_cell BK362.out 1).trans rfl, (blk_cell BK362.out 2).trans rfl, (blk_cell BK362.out 3).trans rfl, (blk_cell BK362.out 4).trans rfl, (blk_cell BK362.out 5).trans rfl, (blk_cell BK362.out 6).trans rfl, hx368_0, hx369_0, hx369_1, hx369_2, hx370_0, hx370_1, hx370_2⟩ (fun hHeld => ?_); refine with_tabW swarfkit_StowageOf.tab7 swarfkit_StowageOf.bits7 (fun HT_ HW_ => ?_); generalize w15.drew = w21 at HO_5 HO_6 BK362 HI0 HK HB hx368_0 hx369_0 hx369_1 hx369_2 hx370_0 hx370_1 hx370_2 hHeld ⊢; refine pure_t 0 (some 26) (bz 23 1) HT_ ?_; refine pure_t 1 (some 27) (bz 23 3) HT_ ?_; refine pure_t 2 (some 28) (bz 23 7) HT_ ?_; refine pure_t 3 (some 29) (bz 23 15) HT_ ?_; refine pure_t 4 (some 30) (bz 23 31) HT_ ?_; refine pure_t 5 (some 31) (bz 23 63) HT_ ?_; refine pure_t 7 (some 33) (bz 23 191) HT_ ?_; refine pure_t 9 (some 35) (bz 23 703) HT_ ?_; refine pure_t 15 (some 41) (bz 23 33471) HT_ ?_; refine pure_t 17 (some 43) (bz 23 164543) HT_ ?_; refine take_t 6 (some 32) (bz 23 164607) HT_ HW_ hHeld ?_; refine take_t 8 (some 34) (bz 23 164863) HT_ HW_ hHeld ?_; refine pure_t 10 (some 36) (bz 23 165887) HT_ ?_; refine pure_t 11 (some 37) (bz 23 167935) HT_ ?_; refine pure_t 12 (some 38) (bz 23 172031) HT_ ?_; refine take_t 13 (some 39) (bz 23 180223) HT_ HW_ hHeld ?_; refine pure_t 14 (some 40) (bz 23 196607) HT_ ?_; refine take_t 16 (some 42) (bz 23 262143) HT_ HW_ hHeld ?_; refine pure_t 18 (some 44) (bz 23 524287) HT_ ?_; refine pure_t 19 (some 45) (bz 23 1048575) HT_ ?_; refine take_t 20 (some 46) (bz 23 2097151) HT_ HW_ hHeld ?_; refine pure_t 21 (some 47) (bz 23 4194303) HT_ ?_; refine pure_t 22 (some 48) (bz 23 8388607) HT_ ?_; refine done_ (done_of HT_.out (by kernel_rfl)) ?_
            try go_wp2
            go_meet
            case rel => exact ⟨_, (decide ((wrap64 ((rd x6_1 t366) + ((rd_T79 l1_6 x7_1).f0.f1))) > ((rd_T85 l1_3 t366).f0))), (by first | rfl | (simp; done) | (simp [*]; done)), H', ⟨by have := HK1.out; first | omega | exact Nat.le_refl _⟩, ⟨by (with_reducible repeat (first | apply Kd.R_alloc | apply Kd.R_drewN | apply Kd.R_drew)); exact HO_5.out⟩, ⟨by (with_reducible repeat (first | apply Kd.R_alloc | apply Kd.R_drewN | apply Kd.R_drew)); exact HO_6.out⟩, ⟨blk_x BK362.out⟩, ⟨by exact IsS90.up HI0.out⟩, ⟨by exact keep_y HK.out⟩, ⟨by exact below_y HB.out⟩⟩
           ·
            rw [if_neg c20] at H; exact absurd H (by simp)
          ·
           rw [if_neg c19] at H; exact absurd H (by simp)
         ·
          rw [if_neg c18] at H; exact absurd H (by simp)
        ·
         rw [if_neg c17] at H; exact absurd H (by simp)
       ·
        rw [if_neg c16] at H; have c16b0 : decide (0 ≤ t366) = false := decide_eq_false c16; clear c16
        (first | rw [c16b0] | (simp only [i64_w, i32_w]; rw [c16b0]) | skip)
        have H' := Aside0.mk H; clear H
        try go_wp2
        replace HO_5 := Aside0.mk (Kd.R_drew HO_5.out); replace HO_6 := Aside0.mk (Kd.R_drew HO_6.out); replace BK362 := Aside0.mk (blk_drew BK362.out); replace HI0 := Aside0.mk (IsS90.drew HI0.out); replace HK := Aside0.mk (keep_drew HK.out); replace HB := Aside0.mk (below_drew1 HB.out); refine start_ (n := 23) (S := fun w' => True) (ds := []) #[false, false, false, false, false, false, false, false, false, false, false, false, false, false, false, false, false, false, false, false, false, false, false] (by kernel_rfl) rfl rfl trivial (fun hHeld => ?_); refine with_tabW swarfkit_StowageOf.tab7 swarfkit_StowageOf.bits7 (fun HT_ HW_ => ?_); generalize w15.drew = w23 at HO_5 HO_6 BK362 HI0 HK HB hHeld ⊢; refine pure_t 0 (some 26) (bz 23 1) HT_ ?_; refine pure_t 1 (some 27) (bz 23 3) HT_ ?_; refine pure_t 2 (some 28) (bz 23 7) HT_ ?_; refine dead_t 3 (some 29) (bz 23 15) HT_ ?_; refine dead_t 4 (some 30) (bz 23 31) HT_ ?_; refine dead_t 5 (some 31) (bz 23 63) HT_ ?_; refine dead_t 6 (some 32) (bz 23 127) HT_ ?_; refine dead_t 7 (some 33) (bz 23 255) HT_ ?_; refine dead_t 8 (some 34) (bz 23 511) HT_ ?_; refine dead_t 9 (some 35) (bz 23 1023) HT_ ?_; refine dead_t 10 (some 36) (bz 23 2047) HT_ ?_; refine dead_t 11 (some 37) (bz 23 4095) HT_ ?_; refine dead_t 12 (some 38) (bz 23 8191) HT_ ?_; refine dead_t 13 (some 39) (bz 23 16383) HT_ ?_; refine dead_t 14 (some 40) (bz 23 32767) HT_ ?_; refine dead_t 15 (some 41) (bz 23 65535) HT_ ?_; refine dead_t 16 (some 42) (bz 23 131071) HT_ ?_; refine dead_t 17 (some 43) (bz 23 262143) HT_ ?_; refine dead_t 18 (some 44) (bz 23 524287) HT_ ?_; refine dead_t 19 (some 45) (bz 23 1048575) HT_ ?_; refine dead_t 20 (some 46) (bz 23 2097151) HT_ ?_; refine dead_t 21 (some 47) (bz 23 4194303) HT_ ?_; refine pure_t 22 (some 48) (bz 23 8388607) HT_ ?_; refine done_ (done_of HT_.out (by kernel_rfl)) ?_
        try go_wp2
        go_meet
        case rel => exact ⟨_, (false), (by first | rfl | (simp; done) | (simp [*]; done)), H', ⟨by have := HK1.out; first | omega | exact Nat.le_refl _⟩, ⟨by (with_reducible repeat (first | apply Kd.R_alloc | apply Kd.R_drewN | apply Kd.R_drew)); exact HO_5.out⟩, ⟨by (with_reducible repeat (first | apply Kd.R_alloc | apply Kd.R_drewN | apply Kd.R_drew)); exact HO_6.out⟩, ⟨blk_x BK362.out⟩, ⟨by exact IsS90.up HI0.out⟩, ⟨by exact keep_y HK.out⟩, ⟨by exact below_y HB.out⟩⟩
      case rest =>
       clear HC12; obtain ⟨kq, x48_11, rfl, HA, HJ11, HO_5, HO_6, BK362, HI0, HK, HB⟩ := hcut; cases kq with
       | zero => exact absurd HA.out (by simp [swarfkit_StowageOf.j1])
       | succ kj11 =>
        have H := HA.out; clear HA; simp only [swarfkit_StowageOf.j1] at H; by_cases c24 : x48_11 = true
        ·
         subst c24; (have H1 : (if (-1) ≥ 0 then (if 0 ≤ (-1) then (if (-1) < (x6_1.length : Int) then (if 0 ≤ x7_1 then (if x7_1 < (l1_6.length : Int) then (if x5_1.length < 17592186044416 then (swarfkit_StowageOf.l0 kj11 (x5_1 ++ [(-1)]) (x6_1.set ((-1) : Int).toNat (wrap64 ((rd x6_1 (-1)) + ((rd_T79 l1_6 x7_1).f0.f1)))) (wrap64 (x7_1 + 1)) t367 a1_0 a1_1 a1_2 l1_3 a1_4 l1_5 l1_6) else (none)) else (none)) else (none)) else (none)) else (none)) else (if x5_1.length < 17592186044416 then (swarfkit_StowageOf.l0 kj11 (x5_1 ++ [(-1)]) x6_1 (wrap64 (x7_1 + 1)) t367 a1_0 a1_1 a1_2 l1_3 a1_4 l1_5 l1_6) else (none))) = some (r1, r2) := by rw [if_pos rfl] at H; exact H); clear H; have H := H1; clear H1; by_cases c25 : (-1) ≥ 0
         ·
          exact absurd c25 (by decide)
         ·
          rw [if_neg c25] at H; have c25b0 : decide (0 ≤ (-1)) = false := decide_eq_false c25; clear c25; by_cases c36 : x5_1.length < 17592186044416
          ·
           rw [if_pos c36] at H; have LMc36 := Aside0.mk c36; clear c36; obtain ⟨y377, hy377⟩ : ∃ y_ : List Int, y_ = (x5_1 ++ [(-1)]) := ⟨_, rfl⟩; (replace H : (swarfkit_StowageOf.l0 kj11 y377 x6_1 (wrap64 (x7_1 + 1)) t367 a1_0 a1_1 a1_2 l1_3 a1_4 l1_5 l1_6) = some (r1, r2) := by first | (rw [hy377]; with_reducible exact H) | (have H2_ := (Option.bind_some _ _).symm.trans H; rw [hy377]; with_reducible exact H2_) | (have H2_ := (Option.bind_some _ _).symm.trans H; with_reducible exact H2_) | with_reducible exact H | (rw [hy377]; exact H) | exact H); have Ny377 := Aside0.mk hy377; clear hy377; have H' := Aside0.mk H; clear H
           go_wp2_with (first | ((with_reducible refine gate_builtin (b := .append) (xs := #[.tmp 66, .tmp 68]) rfl ?_); at_builtin; refine Kd.R_append (Kd.int .i64) w.heap.size rfl (.tmp 66) (.tmp 68) 27 3 (.int .i64 0) 8 rfl Try.underlying27 info3 rfl (by decide) (by omega) u5 x5_1 (-1) [.int .i64 (-1)] (fun k_ => some k_ ≠ (v364 : Value).ownBlock) (fun _ => False) rfl rfl ?aP (fun _ hk => hk.elim) ?aF ?aO (Below.refl _ _) ?aS ?aL ?_; (case aP => exact rfl); (case aF => exact (fun k_ hk => Kd.fresh' (Kd.R_lt (Kd.R_x HO_6.out)) k_ hk)); (case aO => exact (Kd.R_x HO_5.out)); (case aS => exact (keep_size (w := w) (g := g) (row := none) (by exact keep_y HK.out))); (case aL => have := LMc36.out; omega); intro v378 w37 ho hb hg hat; rw [← Ny377.out] at ho; replace HO_6 := Aside0.mk (Kd.R_after (ok := (fun _ => True)) (by (with_reducible repeat (first | apply Kd.R_alloc | apply Kd.R_drewN | apply Kd.R_drew)); exact Kd.R_mono HO_6.out (fun _ hk => ⟨trivial, hk⟩)) hg hat); replace BK362 := Aside0.mk (blk_grown (blk_x BK362.out) hg (Kd.R_ne HO_5.out BK362.out (by decide))); replace HI0 := Aside0.mk (IsS90.grown (by exact IsS90.up HI0.out) hg (IsS90.own_ne HI0.out HO_5.out (by decide))); replace HB := Aside0.mk (below_weaken (by exact below_y HB.out) HL.out hb); replace HK := Aside0.mk (KeepBut.trans (by exact keep_y HK.out) (KeepBut.of_grown hg g) (Kd.R_base2 HO_5.out)); have HO379 := Aside0.mk (ho); clear HO_5; clear ho hb hg hat))
           go_roundg kj11
           case measure => have := HK1.out; have := HJ11.out; omega
           case rel => exact ⟨(y377), (x6_1), (wrap64 (x7_1 + 1)), (t367), (by first | rfl | (simp; done) | (simp [*]; done)), H', ⟨by have := HK1.out; have := HJ11.out; omega⟩, ⟨by (with_reducible repeat (first | apply Kd.R_alloc | apply Kd.R_drewN | apply Kd.R_drew)); exact HO379.out⟩, ⟨by (with_reducible repeat (first | apply Kd.R_alloc | apply Kd.R_drewN | apply Kd.R_drew)); exact Kd.R_mono HO_6.out (fun _ hk => hk.2)⟩, ⟨blk_x BK362.out⟩, ⟨by exact IsS90.up HI0.out⟩, ⟨by exact keep_y HK.out⟩, ⟨by exact below_y HB.out⟩⟩
          ·
           rw [if_neg c36] at H; exact absurd H (by simp)
        ·
         replace c24 := Bool.eq_false_iff.mpr c24; subst c24; replace H : (if t366 ≥ 0 then (if 0 ≤ t366 then (if t366 < (x6_1.length : Int) then (if 0 ≤ x7_1 then (if x7_1 < (l1_6.length : Int) then (if x5_1.length < 17592186044416 then (swarfkit_StowageOf.l0 kj11 (x5_1 ++ [t366]) (x6_1.set (t366 : Int).toNat (wrap64 ((rd x6_1 t366) + ((rd_T79 l1_6 x7_1).f0.f1)))) (wrap64 (x7_1 + 1)) t367 a1_0 a1_1 a1_2 l1_3 a1_4 l1_5 l1_6) else (none)) else (none)) else (none)) else (none)) else (none)) else (if x5_1.length < 17592186044416 then (swarfkit_StowageOf.l0 kj11 (x5_1 ++ [t366]) x6_1 (wrap64 (x7_1 + 1)) t367 a1_0 a1_1 a1_2 l1_3 a1_4 l1_5 l1_6) else (none))) = some (r1, r2) := ifn_x H; by_cases c38 : t366 ≥ 0
         ·
          rw [if_pos c38] at H; have c38b0 : decide (0 ≤ t366) = true := decide_eq_true c38; clear c38; by_cases c39 : 0 ≤ t366
          ·
           rw [if_pos c39] at H; have c39b0 : decide (0 ≤ t366) = true := decide_eq_true c39; clear c39; by_cases c40 : t366 < (x6_1.length : Int)
           ·
            rw [if_pos c40] at H; have c40b0 : decide (t366 < (x6_1.length : Int)) = true := decide_eq_true c40; clear c40; by_cases c41 : 0 ≤ x7_1
            ·
             rw [if_pos c41] at H; have c41b0 : decide (0 ≤ x7_1) = true := decide_eq_true c41; clear c41; by_cases c42 : x7_1 < (l1_6.length : Int)
             ·
              rw [if_pos c42] at H; have c42b0 : decide (x7_1 < (l1_6.length : Int)) = true := decide_eq_true c42; clear c42; obtain ⟨y382, hy382⟩ : ∃ y_ : List Int, y_ = (x6_1.set (t366 : Int).toNat (wrap64 ((rd x6_1 t366) + ((rd_T79 l1_6 x7_1).f0.f1)))) := ⟨_, rfl⟩; (replace H : (if x5_1.length < 17592186044416 then (swarfkit_StowageOf.l0 kj11 (x5_1 ++ [t366]) y382 (wrap64 (x7_1 + 1)) t367 a1_0 a1_1 a1_2 l1_3 a1_4 l1_5 l1_6) else (none)) = some (r1, r2) := by first | (rw [hy382]; with_reducible exact H) | (have H2_ := (Option.bind_some _ _).symm.trans H; rw [hy382]; with_reducible exact H2_) | (have H2_ := (Option.bind_some _ _).symm.trans H; with_reducible exact H2_) | with_reducible exact H | (rw [hy382]; exact H) | exact H); have Ny382 := Aside0.mk hy382; clear hy382; by_cases c44 : x5_1.length < 17592186044416
              ·
               rw [if_pos c44] at H; have LMc44 := Aside0.mk c44; clear c44; obtain ⟨y383, hy383⟩ : ∃ y_ : List Int, y_ = (x5_1 ++ [t366]) := ⟨_, rfl⟩; (replace H : (swarfkit_StowageOf.l0 kj11 y383 y382 (wrap64 (x7_1 + 1)) t367 a1_0 a1_1 a1_2 l1_3 a1_4 l1_5 l1_6) = some (r1, r2) := by first | (rw [hy383]; with_reducible exact H) | (have H2_ := (Option.bind_some _ _).symm.trans H; rw [hy383]; with_reducible exact H2_) | (have H2_ := (Option.bind_some _ _).symm.trans H; with_reducible exact H2_) | with_reducible exact H | (rw [hy383]; exact H) | exact H); have Ny383 := Aside0.mk hy383; clear hy383; have H' := Aside0.mk H; clear H
               try go_wp2
               replace HO_5 := Aside0.mk (Kd.R_drew HO_5.out); replace HO_6 := Aside0.mk (Kd.R_drew HO_6.out); replace BK362 := Aside0.mk (blk_drew BK362.out); replace HI0 := Aside0.mk (IsS90.drew HI0.out); replace HK := Aside0.mk (keep_drew HK.out); replace HB := Aside0.mk (below_drew1 HB.out); obtain ⟨Ao46, co46, eo46⟩ := Kd.R_slice HO_6.out
               (first | subst eo46 | (injection eo46 with f1_ f2_ f3_; have f4_ := f1_.symm; have f5_ := f3_.symm; clear f1_ f2_ f3_; subst f4_; subst f5_))
               have p380 : 0 ≤ (t366 : Int) := of_x; have q380 : t366 < (x6_1.length : Int) := of_x; obtain ⟨ad380, e380, hx380_0⟩ := Kd.at_int (Kd.R_reads' HO_6.out).2.2 t366 p380 q380; (cases e380); replace p380 := eq_true p380; replace q380 := eq_true q380; have p381 : 0 ≤ (x7_1 : Int) := of_x; have q381 : x7_1 < (l1_6.length : Int) := of_x; obtain ⟨ad381, e381, hx381_0, hx381_1, hx381_2⟩ := at_T79 (Kd.C_foot_now HR1_6.out HK.out) x7_1 p381 q381; have hw381_2 := hx381_2; have hw381_1 := hx381_1; have hw381_0 := hx381_0; (cases e381); have hne381_2 := (show (⟨(ad381.add ((x7_1).toNat * 3)).block, (ad381.add ((x7_1).toNat * 3)).off + 2, none⟩ : Addr).block ≠ g from by first | (rw [add_block]; exact Kd.foot_ne HR1_6.out (by omega) (by decide)) | (show (Addr.add _ _).block ≠ _; rw [add_block]; exact Kd.foot_ne HR1_6.out (by omega) (by decide)) | exact Kd.foot_ne HR1_6.out (by omega) (by decide) | (dsimp only; exact Kd.foot_ne HR1_6.out (by omega) (by decide))); have hlt381_2 := (Kd.foot_lt HR1_6.out (by omega) (by decide)); have hne381_1 := (show (⟨(ad381.add ((x7_1).toNat * 3)).block, (ad381.add ((x7_1).toNat * 3)).off + 1, none⟩ : Addr).block ≠ g from by first | (rw [add_block]; exact Kd.foot_ne HR1_6.out (by omega) (by decide)) | (show (Addr.add _ _).block ≠ _; rw [add_block]; exact Kd.foot_ne HR1_6.out (by omega) (by decide)) | exact Kd.foot_ne HR1_6.out (by omega) (by decide) | (dsimp only; exact Kd.foot_ne HR1_6.out (by omega) (by decide))); have hlt381_1 := (Kd.foot_lt HR1_6.out (by omega) (by decide)); have hne381_0 := (show ((ad381.add ((x7_1).toNat * 3)) : Addr).block ≠ g from by first | (rw [add_block]; exact Kd.foot_ne HR1_6.out (by omega) (by decide)) | (show (Addr.add _ _).block ≠ _; rw [add_block]; exact Kd.foot_ne HR1_6.out (by omega) (by decide)) | exact Kd.foot_ne HR1_6.out (by omega) (by decide) | (dsimp only; exact Kd.foot_ne HR1_6.out (by omega) (by decide))); have hlt381_0 := (Kd.foot_lt HR1_6.out (by omega) (by decide)); replace p381 := eq_true p381; replace q381 := eq_true q381; have p43 : 0 ≤ (t366 : Int) := of_x; have q43 : (t366 : Int) < ((x6_1.length : Int) : Int) := of_x; obtain ⟨go43, co43, eo43, gb43, gl43, cl43, HG43⟩ := Kd.R_form HO_6.out (by omega)
               (first | cases eo43 | (injection eo43 with ea_ en_ ec_; (first | subst ea_ | (injection ea_ with ea_; subst ea_)); subst ec_; clear en_))
               have GB43 := Aside0.mk gb43; have GG43 := Aside0.mk HG43; clear gb43 gl43 HG43
               (first | simp only [add_plain] at hx380_0 | skip)
               obtain ⟨hx43_0, hf43_0⟩ := Kd.R_celln 0 HO_6.out (t366 : Int) p43 q43; replace p43 := eq_true p43; replace q43 := eq_true q43; have HN0_go43 := Aside0.mk (show g ≠ go43 from by have h_ := IsS90.own_ne HI0.out HO_6.out (by decide); intro e_; exact h_ (by rw [e_]; rfl)); have HP47 := Kd.R_putn HO_6.out (t366 : Int) (wrap64 ((rd x6_1 t366) + ((rd_T79 l1_6 x7_1).f0.f1))); rw [← Ny382.out] at HP47; have HQ47 := Aside0.mk HP47; clear HP47; refine start_ (n := 16) (S := fun w' => w'.cell? ⟨gb362, 0, none⟩ = some (.int .i64 a1_0) ∧ w'.cell? ⟨gb362, 1, none⟩ = some (.int .i64 a1_1) ∧ w'.cell? ⟨gb362, 2, none⟩ = some (.int .i64 a1_2) ∧ w'.cell? ⟨gb362, 3, none⟩ = some (.slice A1_3 l1_3.length c1_3) ∧ w'.cell? ⟨gb362, 4, none⟩ = some (.int .i64 a1_4) ∧ w'.cell? ⟨gb362, 5, none⟩ = some (.slice A1_5 l1_5.length c1_5) ∧ w'.cell? ⟨gb362, 6, none⟩ = some (.slice (some ad381) l1_6.length c1_6) ∧ w'.cell? ⟨go43, (t366).toNat, none⟩ = some (.int .i64 (rd x6_1 t366)) ∧ w'.cell? (ad381.add ((x7_1).toNat * 3)) = some (.int .i64 ((rd_T79 l1_6 x7_1).f0.f0)) ∧ w'.cell? ⟨(ad381.add ((x7_1).toNat * 3)).block, (ad381.add ((x7_1).toNat * 3)).off + 1, none⟩ = some (.int .i64 ((rd_T79 l1_6 x7_1).f0.f1)) ∧ w'.cell? ⟨(ad381.add ((x7_1).toNat * 3)).block, (ad381.add ((x7_1).toNat * 3)).off + 2, none⟩ = some (.int .i64 ((rd_T79 l1_6 x7_1).f1))) (ds := [15]) #[false, false, false, false, false, false, false, false, false, false, false, false, false, false, false, false] (by kernel_rfl) rfl rfl ⟨(blk_cell BK362.out 0).trans rfl, (blk_cell BK362.out 1).trans rfl, (blk_cell BK362.out 2).trans rfl, (blk_cell BK362.out 3).trans rfl, (blk_cell BK362.out 4).trans rfl, (blk_cell BK362.out 5).trans rfl, (blk_cell BK362.out 6).trans rfl, hx380_0, hx381_0, hx381_1, hx381_2⟩ (fun hHeld => ?_); refine with_tabW swarfkit_StowageOf.tab10 swarfkit_StowageOf.bits10 (fun HT_ HW_ => ?_); generalize wc.drew = w45 at HO_5 HO_6 BK362 HI0 HK HB GG43 HQ47 hf43_0 hx380_0 hx381_0 hx381_1 hx381_2 hx43_0 hHeld ⊢; refine pure_t 0 (some 51) (bz 16 1) HT_ ?_; refine pure_t 1 (some 52) (bz 16 3) HT_ ?_; refine pure_t 2 (some 53) (bz 16 7) HT_ ?_; refine pure_t 3 (some 54) (bz 16 15) HT_ ?_; refine pure_t 4 (some 55) (bz 16 31) HT_ ?_; refine pure_t 6 (some 57) (bz 16 95) HT_ ?_; refine pure_t 8 (some 59) (bz 16 351) HT_ ?_; refine take_t 5 (some 56) (bz 16 383) HT_ HW_ hHeld ?_; refine take_t 7 (some 58) (bz 16 511) HT_ HW_ hHeld ?_; refine pure_t 9 (some 60) (bz 16 1023) HT_ ?_; refine pure_t 10 (some 61) (bz 16 2047) HT_ ?_; refine pure_t 11 (some 62) (bz 16 4095) HT_ ?_; refine take_t 12 (some 63) (bz 16 8191) HT_ HW_ hHeld ?_; refine pure_t 13 (some 64) (bz 16 16383) HT_ ?_; refine pure_t 14 (some 65) (bz 16 32767) HT_ ?_; refine last_ (i := 15) (N := none) (bz 16 65535) rfl rfl (one_of HT_.out (by kernel_rfl)) (by decide) (fun K hK => ?_); refine skip_ (w1 := ?_) (by rfl) rfl ?_ ?_; rotate_left
               ·
                go_simp
                rfl
               refine hK.out _ _ ?_; clear hK K; refine done_ (done_of HT_.out (by kernel_rfl)) ?_
               try go_wp2_with (first | ((with_reducible refine gate_builtin (b := .append) (xs := #[.tmp 66, .tmp 68]) rfl ?_); at_builtin; refine Kd.R_append (Kd.int .i64) w.heap.size rfl (.tmp 66) (.tmp 68) 27 3 (.int .i64 0) 8 rfl Try.underlying27 info3 rfl (by decide) (by omega) u5 x5_1 t366 [.int .i64 t366] (fun k_ => some k_ ≠ (.slice (some ⟨go43, 0, none⟩) x6_1.length co46 : Value).ownBlock) (fun _ => False) rfl (by first | (go_simp; done) | (go_simp; rfl)) ?aP (fun _ hk => hk.elim) ?aF ?aO (Below.refl _ _) ?aS ?aL ?_; (case aP => exact rfl); (case aF => exact (fun k_ hk => Kd.fresh' (Kd.R_lt (Kd.R_x HQ47.out)) k_ hk)); (case aO => exact (by (with_reducible repeat (first | apply Kd.R_alloc | apply Kd.R_drewN | apply Kd.R_drew)); exact Kd.R_mono (Kd.R_far (p := ⟨go43, (t366 : Int).toNat, none⟩) (Kd.R_mono HO_5.out (fun k_ hk => (⟨hk, fun e_ => hk (by rw [e_]; rfl)⟩ : _ ∧ k_ ≠ go43))) (fun _ hk => hk.2) (.int .i64 (wrap64 ((rd x6_1 t366) + ((rd_T79 l1_6 x7_1).f0.f1))))) (fun _ hk => hk.1))); (case aS => exact (keep_size (w := w) (g := g) (row := none) (by exact keep_y HK.out))); (case aL => have := LMc44.out; omega); intro v384 w48 ho hb hg hat; rw [← Ny383.out] at ho; replace BK362 := Aside0.mk (blk_grown (g := gb362) (o := .cells #[.int .i64 a1_0, .int .i64 a1_1, .int .i64 a1_2, .slice A1_3 l1_3.length c1_3, .int .i64 a1_4, .slice A1_5 l1_5.length c1_5, .slice (some ad381) l1_6.length c1_6] 26 (0, 0)) (by (with_reducible repeat (first | refine blk_drewN ?_ _ | refine blk_drew ?_ | refine blk_alloc ?_ _)); refine blk_far ?_ (by have h_ := Kd.R_ne HO_6.out BK362.out (by decide); intro e_; exact h_ (by rw [e_]; rfl)) _; (with_reducible repeat (first | refine blk_drewN ?_ _ | refine blk_drew ?_ | refine blk_alloc ?_ _)); exact BK362.out) hg (Kd.R_ne HO_5.out BK362.out (by decide))); replace HO_6 := Aside0.mk (Kd.R_after (ok := (fun _ => True)) (by (with_reducible repeat (first | apply Kd.R_alloc | apply Kd.R_drewN | apply Kd.R_drew)); exact Kd.R_mono HQ47.out (fun _ hk => ⟨trivial, hk⟩)) hg hat); replace HB := Aside0.mk (below_weaken (by repeat (first | (with_reducible first | exact HB.out | apply below_alloc | apply pw_below_drewN | apply below_drew1 | refine below_set ?_ (Nat.le_trans HL.out GB43.out) | refine below_set ?_ (IsS90.ge HI0.out) | refine below_set ?_ GE362.out) | exact HB.out)) HL.out hb); replace HI0 := Aside0.mk (IsS90.grown (w0 := w0) (f0 := t367) (by exact IsS90.up HI0.out) hg (IsS90.own_ne HI0.out HO_5.out (by decide))); replace HK := Aside0.mk (KeepBut.trans (by exact keep_y HK.out) (KeepBut.of_grown hg g) (Kd.R_base2 HO_5.out)); have HO385 := Aside0.mk (ho); clear HO_5; clear ho hb hg hat))
               go_roundg kj11
               case measure => have := HK1.out; have := HJ11.out; omega
               case rel => exact ⟨(y383), (y382), (wrap64 (x7_1 + 1)), (t367), (by first | rfl | (simp; done) | (simp [*]; done)), H', ⟨by have := HK1.out; have := HJ11.out; omega⟩, ⟨by (with_reducible repeat (first | apply Kd.R_alloc | apply Kd.R_drewN | apply Kd.R_drew)); exact HO385.out⟩, ⟨by (with_reducible repeat (first | apply Kd.R_alloc | apply Kd.R_drewN | apply Kd.R_drew)); exact Kd.R_mono HO_6.out (fun _ hk => hk.2)⟩, ⟨blk_x BK362.out⟩, ⟨by exact IsS90.up HI0.out⟩, ⟨by exact keep_y HK.out⟩, ⟨by exact below_y HB.out⟩⟩
              ·
               rw [if_neg c44] at H; exact absurd H (by simp)
             ·
              rw [if_neg c42] at H; exact absurd H (by simp)
            ·
             rw [if_neg c41] at H; exact absurd H (by simp)
           ·
            rw [if_neg c40] at H; exact absurd H (by simp)
          ·
           rw [if_neg c39] at H; exact absurd H (by simp)
         ·
          rw [if_neg c38] at H; have c38b0 : decide (0 ≤ t366) = false := decide_eq_false c38; clear c38; by_cases c49 : x5_1.length < 17592186044416
          ·
           rw [if_pos c49] at H; have LMc49 := Aside0.mk c49; clear c49; obtain ⟨y386, hy386⟩ : ∃ y_ : List Int, y_ = (x5_1 ++ [t366]) := ⟨_, rfl⟩; (replace H : (swarfkit_StowageOf.l0 kj11 y386 x6_1 (wrap64 (x7_1 + 1)) t367 a1_0 a1_1 a1_2 l1_3 a1_4 l1_5 l1_6) = some (r1, r2) := by first | (rw [hy386]; with_reducible exact H) | (have H2_ := (Option.bind_some _ _).symm.trans H; rw [hy386]; with_reducible exact H2_) | (have H2_ := (Option.bind_some _ _).symm.trans H; with_reducible exact H2_) | with_reducible exact H | (rw [hy386]; exact H) | exact H); have Ny386 := Aside0.mk hy386; clear hy386; have H' := Aside0.mk H; clear H
           go_wp2_with (first | ((with_reducible refine gate_builtin (b := .append) (xs := #[.tmp 66, .tmp 68]) rfl ?_); at_builtin; refine Kd.R_append (Kd.int .i64) w.heap.size rfl (.tmp 66) (.tmp 68) 27 3 (.int .i64 0) 8 rfl Try.underlying27 info3 rfl (by decide) (by omega) u5 x5_1 t366 [.int .i64 t366] (fun k_ => some k_ ≠ (v364 : Value).ownBlock) (fun _ => False) rfl rfl ?aP (fun _ hk => hk.elim) ?aF ?aO (Below.refl _ _) ?aS ?aL ?_; (case aP => exact rfl); (case aF => exact (fun k_ hk => Kd.fresh' (Kd.R_lt (Kd.R_x HO_6.out)) k_ hk)); (case aO => exact (Kd.R_x HO_5.out)); (case aS => exact (keep_size (w := w) (g := g) (row := none) (by exact keep_y HK.out))); (case aL => have := LMc49.out; omega); intro v387 w50 ho hb hg hat; rw [← Ny386.out] at ho; replace HO_6 := Aside0.mk (Kd.R_after (ok := (fun _ => True)) (by (with_reducible repeat (first | apply Kd.R_alloc | apply Kd.R_drewN | apply Kd.R_drew)); exact Kd.R_mono HO_6.out (fun _ hk => ⟨trivial, hk⟩)) hg hat); replace BK362 := Aside0.mk (blk_grown (blk_x BK362.out) hg (Kd.R_ne HO_5.out BK362.out (by decide))); replace HI0 := Aside0.mk (IsS90.grown (by exact IsS90.up HI0.out) hg (IsS90.own_ne HI0.out HO_5.out (by decide))); replace HB := Aside0.mk (below_weaken (by exact below_y HB.out) HL.out hb); replace HK := Aside0.mk (KeepBut.trans (by exact keep_y HK.out) (KeepBut.of_grown hg g) (Kd.R_base2 HO_5.out)); have HO388 := Aside0.mk (ho); clear HO_5; clear ho hb hg hat))
           go_roundg kj11
           case measure => have := HK1.out; have := HJ11.out; omega
           case rel => exact ⟨(y386), (x6_1), (wrap64 (x7_1 + 1)), (t367), (by first | rfl | (simp; done) | (simp [*]; done)), H', ⟨by have := HK1.out; have := HJ11.out; omega⟩, ⟨by (with_reducible repeat (first | apply Kd.R_alloc | apply Kd.R_drewN | apply Kd.R_drew)); exact HO388.out⟩, ⟨by (with_reducible repeat (first | apply Kd.R_alloc | apply Kd.R_drewN | apply Kd.R_drew)); exact Kd.R_mono HO_6.out (fun _ hk => hk.2)⟩, ⟨blk_x BK362.out⟩, ⟨by exact IsS90.up HI0.out⟩, ⟨by exact keep_y HK.out⟩, ⟨by exact below_y HB.out⟩⟩
          ·
           rw [if_neg c49] at H; exact absurd H (by simp)
     ·
      rw [if_neg c10] at H; have c10b0 : decide (x7_1 < (l1_6.length : Int)) = false := decide_eq_false c10; clear c10; simp only [Option.some.injEq, Prod.mk.injEq] at H; obtain ⟨rfl, rfl⟩ := H; have hnb51 := NB362_0.out; have hnc51 := NB0_362.out; obtain ⟨hfz52_0, _, _, _, _, _, _, _⟩ := cf7 BK362; go_wp2; go_ret; exact ⟨_, by first | rfl | (simp [errW_none, errW_some] <;> rfl) | (simp [*, errW_none, errW_some] <;> rfl), by (with_reducible repeat (first | apply Kd.R_alloc | apply Kd.R_drewN | apply Kd.R_drew)); exact Kd.R_mono HO_5.out (fun _ hk => trivial), by exact IsS90.up HI0.out, by exact below_y HB.out, by exact keep_y HK.out⟩
  ·
   rw [if_neg c4] at H; exact absurd H (by simp)
 ·
  rw [if_neg c3] at H; exact absurd H (by simp)
end Go.Proofs.Ytodmemndaaiolaa.PC7
namespace Go.Proofs.Ytodmemndaaiolaa.PC7
set_option linter.unusedVariables false
set_option linter.unusedSimpArgs false
open Go.RowKit Go.Proofs.YtodmemndaaiolaaW.PrintWords Go.Proofs.YtodmemndaaiolaaW.PrintLast Go.Proofs.YtodmemndaaiolaaW.PrintMore
structure StowTo (holds : List S85) (lots : List S79) (s room : List Int) : Prop where
  rl : room.length = holds.length
  rg : ∀ y, y ∈ s → -1 ≤ y ∧ y < (holds.length : Int)
  ro : ∀ h : Nat, h < holds.length → room.getD h 0 = used lots h 0 s ∧ used lots h 0 s ≤ (holds.getD h z85).f0 ∧ 0 ≤ used lots h 0 s
theorem StowTo.skip {holds : List S85} {lots : List S79} {s room : List Int} (h : StowTo holds lots s room) : StowTo holds lots (s ++ [-1]) room :=
  ⟨h.rl, mem_snoc h.rg ⟨by omega, by omega⟩, fun k hk => by
    have := h.ro k hk
    rw [used_snoc, if_neg (by omega)]
    simpa using this⟩
theorem StowTo.put {holds : List S85} {lots : List S79} {s room : List Int} (h : StowTo holds lots s room) (g : Nat) (hg : g < holds.length) (h0 : 0 ≤ (lots.getD s.length z79).f0.f1) (hle : room.getD g 0 + (lots.getD s.length z79).f0.f1 ≤ (holds.getD g z85).f0) :
    StowTo holds lots (s ++ [(g : Int)]) (room.set g (room.getD g 0 + (lots.getD s.length z79).f0.f1)) := by
  refine ⟨by rw [List.length_set]; exact h.rl, mem_snoc h.rg ⟨by omega, by omega⟩, fun k hk => ?_⟩
  have hk1 := h.ro k hk
  have hl : k < room.length := by rw [h.rl]; exact hk
  rw [used_snoc, Nat.zero_add]
  by_cases e : k = g
  · subst e
    rw [if_pos rfl, List.getD, List.getElem?_set_self hl]
    refine ⟨?_, ?_, ?_⟩
    · show room.getD k 0 + _ = _; rw [hk1.1]
    · rw [← hk1.1]; exact hle
    · omega
  · rw [if_neg (by omega), List.getD, List.getElem?_set_ne (by omega)]
    simpa using hk1
theorem stow_l0 (L U R V : Int) (holds : List S85) (sills : List S59) (lots : List S79) {T : Int} (hT : T ≤ 1000) (hho : ∀ h, h ∈ holds → HoldV T h) (hlo : ∀ c, c ∈ lots → LotV T c) (hh : 1 ≤ holds.length ∧ holds.length ≤ 1000) (hl : lots.length ≤ 1000) (d : Nat) :
    ∀ (l room : List Int) (s : Int), l.length + d = lots.length → StowTo holds lots l room → Res (fun k => swarfkit_StowageOf.l0 k l room (l.length : Int) s L U R holds V sills lots) (fun r => StowOK holds lots r.1) := by
  induction d with
  | zero =>
    intro l room s hd hs
    refine Res.succ ?_
    simp (disch := omega) only [swarfkit_StowageOf.l0, if_neg]
    exact Res.now ⟨by show l.length = lots.length; omega, hs.rg, fun h hh => (hs.ro h hh).2.1⟩
  | succ d ih =>
    intro l room s hd hs
    have hrl := hs.rl
    obtain ⟨c1, c2, c3, c4, c5⟩ := hlo _ (getD_mem lots l.length z79 (by omega))
    have hskip : ∀ s2 : Int, Res (fun k => swarfkit_StowageOf.l0 k (l ++ [-1]) room (wrap64 ((l.length : Int) + 1)) s2 L U R holds V sills lots) (fun r => StowOK holds lots r.1) := fun s2 => by
      have := ih (l ++ [-1]) room s2 (by simp; omega) hs.skip
      rw [wrapS (by omega)]
      simpa using this
    refine Res.succ ?_
    have hw : wrap64 ((holds.length : Int) - 1) = (holds.length : Int) - 1 := wrap64_id (by omega) (by omega)
    obtain ⟨r, s1, e1, r1, r2⟩ := between_ok s (-1) ((holds.length : Int) - 1) (by omega) (by decide) (by omega)
    simp (disch := omega) only [swarfkit_StowageOf.l0, if_pos, hw]
    refine Res.take e1 ?_
    by_cases hr : r ≥ 0
    · obtain ⟨g, rfl⟩ := Int.eq_ofNat_of_zero_le hr
      have hg : g < holds.length := by omega
      obtain ⟨b1, b2, _⟩ := hho _ (getD_mem holds g z85 hg)
      obtain ⟨q1, q2, q3⟩ := hs.ro g hg
      have hwr : wrap64 (room.getD g 0 + (lots.getD l.length z79).f0.f1) = room.getD g 0 + (lots.getD l.length z79).f0.f1 := wrap64_id (by omega) (by omega)
      simp (disch := omega) only [if_pos, rdI, rd79, rd85, hwr]
      refine Res.succ ?_
      by_cases hgt : room.getD g 0 + (lots.getD l.length z79).f0.f1 > (holds.getD g z85).f0
      · rw [decide_eq_true hgt]
        simp (disch := omega) only [swarfkit_StowageOf.j1, if_true, if_pos, if_neg]
        exact hskip s1
      · rw [decide_eq_false hgt]
        simp (disch := omega) only [swarfkit_StowageOf.j1, Bool.false_eq_true, if_false, if_pos, rdI, rd79, hwr, Int.toNat_natCast]
        have := ih (l ++ [(g : Int)]) (room.set g (room.getD g 0 + (lots.getD l.length z79).f0.f1)) s1 (by simp; omega) (hs.put g hg (by omega) (by omega))
        rw [wrapS (by omega)]
        simpa using this
    · have : r = -1 := by omega
      subst this
      simp (disch := omega) only [if_neg]
      refine Res.succ ?_
      simp (disch := omega) only [swarfkit_StowageOf.j1, Bool.false_eq_true, if_false, if_pos, if_neg]
      exact hskip s1
theorem stowageOf_res {H S L' : Nat} {T L U R V : Int} {holds : List S85} {sills : List S59} {lots : List S79} (h : VoyOK H S L' T L U R holds V sills lots) (hH : H ≤ 100) (hL : L' ≤ 100) (hT : T ≤ 1000) (s : Int) :
    Res (fun k => swarfkit_StowageOf.f k s L U R holds V sills lots) (fun r => StowOK holds lots r.1) := by
  have h5 := h.hn; have h7 := h.ln
  unfold swarfkit_StowageOf.f
  simp (disch := omega) only [if_pos, Int.toNat_natCast]
  refine stow_l0 L U R V holds sills lots hT h.ho h.lo ⟨h5.1, by omega⟩ (by omega) lots.length [] _ s (by simp) ⟨by simp, fun y hy => by (cases hy), fun k hk => ?_⟩
  obtain ⟨b1, _⟩ := h.ho _ (getD_mem holds k z85 hk)
  refine ⟨?_, b1, Int.le_refl _⟩
  rw [List.getD, List.getElem?_replicate, if_pos hk]; rfl
end Go.Proofs.Ytodmemndaaiolaa.PC7
namespace Go.Proofs.Ytodmemndaaiolaa.PC7
open Go.RowKit Go.Proofs.YtodmemndaaiolaaW.PrintWords Go.Proofs.YtodmemndaaiolaaW.PrintLast Go.Proofs.YtodmemndaaiolaaW.PrintMore
attribute [local go_sem] max2_int min2_int max_two min_two max_three min_three max_four min_four
set_option linter.unusedVariables false
set_option linter.unusedSimpArgs false
attribute [local go_sem high] eqA56
noncomputable def swarflaw07_awake.f (k : Nat)  : Option (Bool) := (swarflaw07_voyage.f).bind fun bt198 => ((ship_Drafts.f bt198.1 bt198.2.1 bt198.2.2.1 bt198.2.2.2.1 bt198.2.2.2.2.1 bt198.2.2.2.2.2.1 bt198.2.2.2.2.2.2 (([0, 1, (-1)] : List Int))).bind fun bt214 => ((swarflaw07_voyage.f).bind fun bt221 => ((ship_Sail.f bt221.1 bt221.2.1 bt221.2.2.1 bt221.2.2.2.1 bt221.2.2.2.2.1 bt221.2.2.2.2.2.1 bt221.2.2.2.2.2.2 (([0, 1, (-1)] : List Int))).bind fun bt237 => ((swarflaw07_voyage.f).bind fun bt242 => ((ship_Best.f bt242.1 bt242.2.1 bt242.2.2.1 bt242.2.2.2.1 bt242.2.2.2.2.1 bt242.2.2.2.2.2.1 bt242.2.2.2.2.2.2).bind fun bt255 => (if bt214.2.2.2.2 = 0 then (if bt237.2.2 = 0 then (if bt255.2.2 = 0 then ((swarflaw07_rng.f 1290000 1340000).bind fun bt260 => (if (bt214.1 == bt260.1 && (bt214.2.1 == bt260.2)) = true then ((swarflaw07_rng.f 1260000 1310000).bind fun bt262 => (if (bt214.2.2.1 == bt262.1 && (bt214.2.2.2.1 == bt262.2)) = true then (if bt237.1 = 1 then (if bt255.2.1 = 95 then ((swarfkit_EqualInts.f k bt255.1 (([0, (-1), 1] : List Int))).bind fun t267 => (if t267 = true then ((swarflaw07_rng.f 90 100).bind fun bt268 => ((swarflaw07_rng.f 240 250).bind fun bt270 => ((swarfkit_EqualRanges.f k bt237.2.1 (([(⟨bt268.1, bt268.2⟩ : S56), (⟨bt270.1, bt270.2⟩ : S56)] : List (S56)))).bind fun t275 => (some t275)))) else (some false))) else (some false)) else (some false)) else (some false))) else (some false))) else (some false)) else (some false)) else (some false)))))))
theorem swarflaw07_awake.mono : ∀ k, LeO (swarflaw07_awake.f k ) (swarflaw07_awake.f (k + 1) ) := by
 intro  k
 unfold swarflaw07_awake.f
 repeat' (with_reducible first | exact swarfkit_EqualInts.mono _ _ _ | exact swarfkit_EqualRanges.mono _ _ _ | exact LeO.refl _ | exact LeO.none _ | refine LeO.ite ?_ ?_ | refine LeO.bind ?_ (fun _ => ?_))
def swarflaw07_awake.T4 : Bool × List (List Nat × List Nat) := (true, [([], []), ([0], [0]), ([1], [1]), ([2], [2]), ([3, 2], [2, 3]), ([2, 4], [2, 4]), ([5, 2], [5]), ([6], [6]), ([7, 6], [6, 7]), ([6, 8], [6, 8]), ([9, 6], [9]), ([10], [10]), ([10, 10], [10]), ([11, 12, 10], [10, 11, 12]), ([10, 13], [10, 13]), ([14, 12], [14]), ([15], [15]), ([15, 15], [15]), ([16, 17, 15], [15, 16, 17]), ([15, 18], [15, 18]), ([19, 17], [19]), ([20], [20]), ([21, 20], [20, 21]), ([20, 22], [20, 22]), ([23, 20], [23]), ([24], [24]), ([25, 24], [24, 25]), ([24, 26], [24, 26]), ([27, 24], [27]), ([28], [28]), ([28], [28]), ([29, 30, 28, 28], [28, 29, 30]), ([28, 31], [28, 31]), ([32, 31], [32]), ([33], [33]), ([33, 33], [33]), ([35, 33], [33]), ([35, 36, 33], [33, 35, 36]), ([34, 37, 36, 33], [33, 34, 37]), ([33, 38], [33, 38]), ([39, 38, 0, 1, 2, 3, 4, 5, 6, 7, 8, 9, 10, 11, 12, 13, 14, 15, 16, 17, 18, 19, 20, 21, 22, 23, 24, 25, 26, 27, 28, 29, 30, 31, 32, 33, 34, 35, 36, 37, 38, 39], [39])])
def swarflaw07_awake.B4 : List Nat := [0, 1, 3, 7, 15, 31, 63, 127, 255, 511, 1023, 2047, 2047, 8191, 16383, 32767, 65535, 65535, 262143, 524287, 1048575, 2097151, 4194303, 8388607, 16777215, 33554431, 67108863, 134217727, 268435455, 536870911, 536870911, 2147483647, 4294967295, 8589934591, 17179869183, 17179869183, 51539607551, 120259084287, 274877906943, 549755813887, 1099511627775]
theorem swarflaw07_awake.tab4 : rtab .any (opsOf Try.f15 4) = swarflaw07_awake.T4 := by kernel_rfl
theorem swarflaw07_awake.bits4 : waitsOk swarflaw07_awake.T4.2 swarflaw07_awake.B4 = true := by kernel_rfl
end Go.Proofs.Ytodmemndaaiolaa.PC7
namespace Go.Proofs.Ytodmemndaaiolaa.PC7
set_option linter.unusedVariables false
set_option linter.unusedSimpArgs false
open Go.RowKit Go.Proofs.YtodmemndaaiolaaW.PrintWords Go.Proofs.YtodmemndaaiolaaW.PrintLast Go.Proofs.YtodmemndaaiolaaW.PrintMore
theorem awake_ev : Ev (fun k => swarflaw07_awake.f k) true := by
  have h1 : ∀ k, swarflaw07_awake.f k = ((swarfkit_EqualInts.f k [0, -1, 1] [0, -1, 1]).bind fun t267 => if t267 = true then (swarfkit_EqualRanges.f k [⟨90, 100⟩, ⟨240, 250⟩] [⟨90, 100⟩, ⟨240, 250⟩]).bind fun t275 => some t275 else some false) := by
    intro k
    unfold swarflaw07_awake.f
    rw [voyage_f]
    simp only [Option.bind_some]
    rw [v_drafts]
    simp only [Option.bind_some]
    rw [v_sail]
    simp only [Option.bind_some]
    rw [v_best]
    simp only [Option.bind_some, swarflaw07_rng.f, if_true, beq_self_eq_true, Bool.and_self]
  have e1 : Ev (fun k => swarfkit_EqualInts.f k [0, -1, 1] [0, -1, 1]) true := ev_of_mono (fun k => swarfkit_EqualInts.mono _ _ k) (K := 10) (by kernel_rfl)
  have e2 : Ev (fun k => swarfkit_EqualRanges.f k [⟨90, 100⟩, ⟨240, 250⟩] [⟨90, 100⟩, ⟨240, 250⟩]) true := ev_of_mono (fun k => swarfkit_EqualRanges.mono _ _ k) (K := 10) (by kernel_rfl)
  have e3 : Ev (fun k => (swarfkit_EqualInts.f k [0, -1, 1] [0, -1, 1]).bind fun t267 => if t267 = true then (swarfkit_EqualRanges.f k [⟨90, 100⟩, ⟨240, 250⟩] [⟨90, 100⟩, ⟨240, 250⟩]).bind fun t275 => some t275 else some false) true := by
    refine Ev.bind e1 ?_
    simp only [if_true]
    exact Ev.tail e2
  obtain ⟨K, hK⟩ := e3
  exact ⟨K, fun k hk => (h1 k).trans (hK k hk)⟩
theorem leO_up {α : Type} {g : Nat → Option α} (hm : ∀ k, LeO (g k) (g (k + 1))) {k K : Nat} (hk : k ≤ K) {r : α} (h : g k = some r) : g K = some r := by
  induction hk with
  | refl => exact h
  | step _ ih => exact hm _ _ ih
theorem awake_true {k : Nat} {r : Bool} (h : swarflaw07_awake.f k = some r) : r = true := by
  obtain ⟨K, hK⟩ := awake_ev
  have h1 := leO_up (g := fun k => swarflaw07_awake.f k) swarflaw07_awake.mono (Nat.le_max_left k K) h
  have h2 := hK (max k K) (Nat.le_max_right k K)
  exact Option.some.inj (h1.symm.trans h2)
end Go.Proofs.Ytodmemndaaiolaa.PC7
namespace Go.Proofs.Ytodmemndaaiolaa.PC7
open Go.RowKit Go.Proofs.YtodmemndaaiolaaW.PrintWords Go.Proofs.YtodmemndaaiolaaW.PrintLast Go.Proofs.YtodmemndaaiolaaW.PrintMore
attribute [local go_sem] max2_int min2_int max_two min_two max_three min_three max_four min_four
set_option linter.unusedVariables false
set_option linter.unusedSimpArgs false
end Go.Proofs.Ytodmemndaaiolaa.PC7
namespace Go.Proofs.Ytodmemndaaiolaa.PC7
set_option linter.unusedVariables false
set_option linter.unusedSimpArgs false
open Go.RowKit Go.Proofs.YtodmemndaaiolaaW.PrintWords Go.Proofs.YtodmemndaaiolaaW.PrintLast Go.Proofs.YtodmemndaaiolaaW.PrintMore
def copyOK (holds : List S85) (sills : List S59) (lots : List S79) : Prop := holds.length ≤ 100000 ∧ lots.length ≤ 100000 ∧ lensOK sills
instance (holds : List S85) (sills : List S59) (lots : List S79) : Decidable (copyOK holds sills lots) := by unfold copyOK; infer_instance
def swarfkit_CopyVoyage.f (a0_0 : Int) (a0_1 : Int) (a0_2 : Int) (l0_3 : List (S85)) (a0_4 : Int) (l0_5 : List (S59)) (l0_6 : List (S79)) : Option (Int × Int × Int × (List (S85)) × Int × (List (S59)) × (List (S79))) :=
 if copyOK l0_3 l0_5 l0_6 then some (a0_0, a0_1, a0_2, l0_3, a0_4, l0_5, l0_6) else none
set_option maxHeartbeats 8000000 in
set_option maxRecDepth 100000 in
theorem copy_calls (x : VoyV) (w : World) (hx : x.Ok w) (hn : copyOK x.holds x.sills x.lots) :
  Calls Try.prog 20 #[.agg #[.int .i64 x.light, .int .i64 x.under, .int .i64 x.trim, .slice x.A3 x.holds.length x.c3, .int .i64 x.leaves, .slice x.A5 x.sills.length x.c5, .slice x.A6 x.lots.length x.c6]] w fun e w' => ∃ v3_ v5_ v6_ : Value, e = .returned (.agg #[.int .i64 x.light, .int .i64 x.under, .int .i64 x.trim, v3_, .int .i64 x.leaves, v5_, v6_]) ∧ Kd.R k85 85 w' w.heap.size (fun _ => True) v3_ x.holds ∧ Kd.S k59 59 w' w.heap.size (fun _ => True) v5_ x.sills ∧ Kd.R k79 79 w' w.heap.size (fun _ => True) v6_ x.lots ∧ Below w.heap.size w w' := by
 have hu26 := Try.underlying26
 have hu23 := Try.underlying23
 have hu59 := Try.underlying59
 obtain ⟨hn1, hn2, hn3⟩ := hn
 have HX := Aside0.mk hx
 have HL := Aside0.mk (SailLens.of hn3)
 have hsl : x.sills.length ≤ 100000 := HL.out.s
 have hcc5 := hx.sc
 obtain ⟨A5, hA5⟩ : ∃ A5, A5 = x.A5 := ⟨_, rfl⟩
 have hs5 := hx.s
 rw [← hA5] at hs5 ⊢
 have HS5 := Aside0.mk hs5
 clear hx hA5 hs5 hn3
 go_enter Try.func20, Try.ntmps20
 go_upto_region 2 with (first
  | (refine box_r (N := 1) rfl (cs := #[.int .i64 x.light, .int .i64 x.under, .int .i64 x.trim, .slice x.A3 x.holds.length x.c3, .int .i64 x.leaves, .slice A5 x.sills.length x.c5, .slice x.A6 x.lots.length x.c6]) (t := 26) ?_; intro gb hg w2 hbox hb; have BK := Aside0.mk hbox; have GEb : Aside0 (w.heap.size ≤ gb) := ⟨by rw [hg]; exact Nat.le_refl _⟩; have HB := Aside0.mk hb; have hz3_ := (blk_cell BK.out 3).trans rfl; have hz5_ := (blk_cell BK.out 5).trans rfl; have hz6_ := (blk_cell BK.out 6).trans rfl; clear hg hbox hb)
  | (refine box_r (N := 2) rfl (cs := #[.int .i64 0, .int .i64 0, .int .i64 0, .slice none 0 0, .int .i64 0, .slice none 0 0, .slice none 0 0]) (t := 26) ?_; intro ge hg w3 hbox hb; have BE := Aside0.mk hbox; have NBE : Aside0 (gb ≠ ge) := ⟨by have := blk_lt BK.out; omega⟩; replace BK := Aside0.mk (blk_below BK.out hb); have GEe : Aside0 (w.heap.size ≤ ge) := ⟨by rw [hg]; exact HB.out.size⟩; replace HB := Aside0.mk (below_step HB.out hb); clear hz3_ hz5_ hz6_; have hz3_ := (blk_cell BK.out 3).trans rfl; have hz5_ := (blk_cell BK.out 5).trans rfl; have hz6_ := (blk_cell BK.out 6).trans rfl; clear hg hbox hb))
 have hd_ := below_drew1 (Below.refl w3.heap.size w3)
 replace BK := Aside0.mk (blk_drew BK.out)
 replace BE := Aside0.mk (blk_drew BE.out)
 replace HB := Aside0.mk (below_step HB.out hd_)
 clear hd_
 refine start_ (n := 14) (S := fun w' => w'.cell? ⟨gb, 3, none⟩ = some (.slice x.A3 x.holds.length x.c3) ∧ w'.cell? ⟨gb, 6, none⟩ = some (.slice x.A6 x.lots.length x.c6)) (ds := [9, 11, 13]) #[false, false, false, false, false, false, false, false, false, false, false, false, false, false] (by kernel_rfl) rfl rfl ⟨hz3_, hz6_⟩ (fun hHeld => ?_)
 generalize w3.drew = wd at BK BE HB hHeld ⊢
 refine pure_y 1 (some 8) (bz 14 2) ?_
 refine pure_y 5 (some 12) (bz 14 34) ?_
 refine take_y 2 (some 9) (bz 14 38) hHeld ?_
 refine take_y 6 (some 13) (bz 14 102) hHeld ?_
 refine join_ (σ := Value × Value × Value) 6 (bz 14 383) (fun s_ => [(7, s_.1), (10, s_.2.1), (11, s_.2.2), (15, .pointer (some ⟨gb, 3, none⟩))]) (fun s_ w' => (w'.cell? ⟨gb, 3, none⟩ = some (.slice x.A3 x.holds.length x.c3) ∧ w'.cell? ⟨gb, 6, none⟩ = some (.slice x.A6 x.lots.length x.c6)) ∧ Aside0 (Kd.R k85 85 w' wd.heap.size (fun _ => True) s_.2.1 x.holds) ∧ Aside0 (Kd.R k79 79 w' wd.heap.size (fun _ => True) s_.2.2 []) ∧ Aside0 (Below wd.heap.size wd w')) ?_ ?_
 rotate_left
 ·
  intro hCont; refine two_ (i := 0) (j := 4) (Ni := some 7) (Nj := some 11) (bz 14 103) (bz 14 118) rfl rfl rfl rfl (by kernel_rfl) (by decide) (by decide) (fun K hK => ?_) (fun K hK => ?_)
  ·
   skip
   have HBd := Aside0.mk (Below.refl wd.heap.size wd); refine Kd.R_lit_step k85 _ 85 ?hg (N := 7) ?hd (xs := ([] : List S85)) (inner := []) (ok := fun _ => True) (okp := fun _ => True) ?hr ?hp (fun _ hk => hk) trivial (Below.refl _ _) (Nat.le_refl _) (by simp) ?_; (case hd => rfl); (case hg => rfl); (case hr => first | (go_simp; done) | (go_simp; rfl)); (case hp => exact (Reps.none _ _)); intro v7 wq0 ho_ hb_ hg_ hnew_; clear hg_ hnew_; have R7 := Aside0.mk (Kd.R_lower ho_ HBd.out.size); replace HBd := Aside0.mk (below_step HBd.out hb_); clear ho_ hb_; refine hK.out _ _ ⟨(HBd.out.cell (blk_lt BK.out)).trans ((blk_cell BK.out 3).trans rfl), (HBd.out.cell (blk_lt BK.out)).trans ((blk_cell BK.out 6).trans rfl)⟩ (fun hHeld => ?_); clear hK K; refine norm_y (some 7) ?_; refine two_ (i := 3) (j := 4) (Ni := some 10) (Nj := some 11) (bz 14 111) (bz 14 119) rfl rfl rfl rfl (by kernel_rfl) (by decide) (by decide) (fun K hK => ?_) (fun K hK => ?_)
   ·
    skip
    refine Kd.R_append_rows_step k85 (w0 := wd) wd.heap.size (by rfl) (.tmp 7) (.tmp 9) 22 85 (.agg #[(.int .i64 0), (.int .i64 0), (.int .i64 0)]) 24 rfl Try.underlying22 info85 rfl (by decide) (by omega) v7 [] x.holds x.A3 _ x.c3 (fun _ => True) (fun _ => False) rfl rfl ?aO ?aR (fun _ _ h => h) (fun _ h => h.elim) ?aF ?aB ?aS ?aL ?_
    (case aR => exact (Kd.C_below (Kd.C_below HX.out.h HB.out) HBd.out))
    (case aB => exact HBd.out)
    (case aF => exact (fun _ _ => trivial))
    (case aO => exact R7.out)
    (case aS => exact HBd.out.size)
    (case aL => simp only [List.length_nil]; omega)
    intro v10 wq1 ho_ hb_ hg_ hat_; rw [List.nil_append] at ho_; have R10 := Aside0.mk ho_; replace HBd := Aside0.mk hb_; clear ho_ hb_ hg_ hat_ R7; refine hK.out _ _ ⟨(HBd.out.cell (blk_lt BK.out)).trans ((blk_cell BK.out 3).trans rfl), (HBd.out.cell (blk_lt BK.out)).trans ((blk_cell BK.out 6).trans rfl)⟩ (fun hHeld => ?_); clear hK K; refine norm_y (some 10) ?_; refine pure_y 8 (some 15) (bz 14 367) ?_; (refine one_y 4 (some 11) (bz 14 383) fun K hK => ?_); refine Kd.R_lit_step k79 _ 79 ?hg (N := 11) ?hd (xs := ([] : List S79)) (inner := []) (ok := fun _ => True) (okp := fun _ => True) ?hr ?hp (fun _ hk => hk) trivial (Below.refl _ _) (Nat.le_refl _) (by simp) ?_; (case hd => rfl); (case hg => rfl); (case hr => first | (go_simp; done) | (go_simp; rfl)); (case hp => exact (Reps.none _ _)); intro v11 wq2 ho_ hb_ hg_ hnew_; clear hg_ hnew_; have R11 := Aside0.mk (Kd.R_lower ho_ HBd.out.size); replace R10 := Aside0.mk (Kd.R_below R10.out hb_); replace HBd := Aside0.mk (below_step HBd.out hb_); clear ho_ hb_; refine hK.out _ _ ⟨(HBd.out.cell (blk_lt BK.out)).trans ((blk_cell BK.out 3).trans rfl), (HBd.out.cell (blk_lt BK.out)).trans ((blk_cell BK.out 6).trans rfl)⟩ (fun hHeld => ?_); clear hK K; refine norm_y (some 11) ?_; exact norm_ (by simp only [putAll, Act.put, put_x]) (hCont (v7, v10, v11) _ ⟨hHeld, R10, R11, HBd⟩)
   ·
    skip
    refine Kd.R_lit_step k79 _ 79 ?hg (N := 11) ?hd (xs := ([] : List S79)) (inner := []) (ok := fun _ => True) (okp := fun _ => True) ?hr ?hp (fun _ hk => hk) trivial (Below.refl _ _) (Nat.le_refl _) (by simp) ?_; (case hd => rfl); (case hg => rfl); (case hr => first | (go_simp; done) | (go_simp; rfl)); (case hp => exact (Reps.none _ _)); intro v11 wq1 ho_ hb_ hg_ hnew_; clear hg_ hnew_; have R11 := Aside0.mk (Kd.R_lower ho_ HBd.out.size); replace R7 := Aside0.mk (Kd.R_below R7.out hb_); replace HBd := Aside0.mk (below_step HBd.out hb_); clear ho_ hb_; refine hK.out _ _ ⟨(HBd.out.cell (blk_lt BK.out)).trans ((blk_cell BK.out 3).trans rfl), (HBd.out.cell (blk_lt BK.out)).trans ((blk_cell BK.out 6).trans rfl)⟩ (fun hHeld => ?_); clear hK K; refine norm_y (some 11) ?_; (refine one_y 3 (some 10) (bz 14 127) fun K hK => ?_); refine Kd.R_append_rows_step k85 (w0 := wd) wd.heap.size (by rfl) (.tmp 7) (.tmp 9) 22 85 (.agg #[(.int .i64 0), (.int .i64 0), (.int .i64 0)]) 24 rfl Try.underlying22 info85 rfl (by decide) (by omega) v7 [] x.holds x.A3 _ x.c3 (fun _ => True) (fun _ => False) rfl rfl ?aO ?aR (fun _ _ h => h) (fun _ h => h.elim) ?aF ?aB ?aS ?aL ?_
    (case aR => exact (Kd.C_below (Kd.C_below HX.out.h HB.out) HBd.out))
    (case aB => exact HBd.out)
    (case aF => exact (fun _ _ => trivial))
    (case aO => exact R7.out)
    (case aS => exact HBd.out.size)
    (case aL => simp only [List.length_nil]; omega)
    intro v10 wq2 ho_ hb_ hg_ hat_; rw [List.nil_append] at ho_; have R10 := Aside0.mk ho_; replace R11 := Aside0.mk (Kd.R_over' R11.out (Kd.R_typed R7.out) (by decide) hg_); replace HBd := Aside0.mk hb_; clear ho_ hb_ hg_ hat_ R7; refine hK.out _ _ ⟨(HBd.out.cell (blk_lt BK.out)).trans ((blk_cell BK.out 3).trans rfl), (HBd.out.cell (blk_lt BK.out)).trans ((blk_cell BK.out 6).trans rfl)⟩ (fun hHeld => ?_); clear hK K; refine norm_y (some 10) ?_; refine pure_y 8 (some 15) (bz 14 383) ?_; exact norm_ (by simp only [putAll, Act.put, put_x]) (hCont (v7, v10, v11) _ ⟨hHeld, R10, R11, HBd⟩)
  ·
   skip
   have HBd := Aside0.mk (Below.refl wd.heap.size wd); refine Kd.R_lit_step k79 _ 79 ?hg (N := 11) ?hd (xs := ([] : List S79)) (inner := []) (ok := fun _ => True) (okp := fun _ => True) ?hr ?hp (fun _ hk => hk) trivial (Below.refl _ _) (Nat.le_refl _) (by simp) ?_; (case hd => rfl); (case hg => rfl); (case hr => first | (go_simp; done) | (go_simp; rfl)); (case hp => exact (Reps.none _ _)); intro v11 wq0 ho_ hb_ hg_ hnew_; clear hg_ hnew_; have R11 := Aside0.mk (Kd.R_lower ho_ HBd.out.size); replace HBd := Aside0.mk (below_step HBd.out hb_); clear ho_ hb_; refine hK.out _ _ ⟨(HBd.out.cell (blk_lt BK.out)).trans ((blk_cell BK.out 3).trans rfl), (HBd.out.cell (blk_lt BK.out)).trans ((blk_cell BK.out 6).trans rfl)⟩ (fun hHeld => ?_); clear hK K; refine norm_y (some 11) ?_; (refine one_y 0 (some 7) (bz 14 119) fun K hK => ?_); refine Kd.R_lit_step k85 _ 85 ?hg (N := 7) ?hd (xs := ([] : List S85)) (inner := []) (ok := fun _ => True) (okp := fun _ => True) ?hr ?hp (fun _ hk => hk) trivial (Below.refl _ _) (Nat.le_refl _) (by simp) ?_; (case hd => rfl); (case hg => rfl); (case hr => first | (go_simp; done) | (go_simp; rfl)); (case hp => exact (Reps.none _ _)); intro v7 wq1 ho_ hb_ hg_ hnew_; clear hg_ hnew_; have R7 := Aside0.mk (Kd.R_lower ho_ HBd.out.size); replace R11 := Aside0.mk (Kd.R_below R11.out hb_); replace HBd := Aside0.mk (below_step HBd.out hb_); clear ho_ hb_; refine hK.out _ _ ⟨(HBd.out.cell (blk_lt BK.out)).trans ((blk_cell BK.out 3).trans rfl), (HBd.out.cell (blk_lt BK.out)).trans ((blk_cell BK.out 6).trans rfl)⟩ (fun hHeld => ?_); clear hK K; refine norm_y (some 7) ?_; (refine one_y 3 (some 10) (bz 14 127) fun K hK => ?_); refine Kd.R_append_rows_step k85 (w0 := wd) wd.heap.size (by rfl) (.tmp 7) (.tmp 9) 22 85 (.agg #[(.int .i64 0), (.int .i64 0), (.int .i64 0)]) 24 rfl Try.underlying22 info85 rfl (by decide) (by omega) v7 [] x.holds x.A3 _ x.c3 (fun _ => True) (fun _ => False) rfl rfl ?aO ?aR (fun _ _ h => h) (fun _ h => h.elim) ?aF ?aB ?aS ?aL ?_
   (case aR => exact (Kd.C_below (Kd.C_below HX.out.h HB.out) HBd.out))
   (case aB => exact HBd.out)
   (case aF => exact (fun _ _ => trivial))
   (case aO => exact R7.out)
   (case aS => exact HBd.out.size)
   (case aL => simp only [List.length_nil]; omega)
   intro v10 wq2 ho_ hb_ hg_ hat_; rw [List.nil_append] at ho_; have R10 := Aside0.mk ho_; replace R11 := Aside0.mk (Kd.R_over' R11.out (Kd.R_typed R7.out) (by decide) hg_); replace HBd := Aside0.mk hb_; clear ho_ hb_ hg_ hat_ R7; refine hK.out _ _ ⟨(HBd.out.cell (blk_lt BK.out)).trans ((blk_cell BK.out 3).trans rfl), (HBd.out.cell (blk_lt BK.out)).trans ((blk_cell BK.out 6).trans rfl)⟩ (fun hHeld => ?_); clear hK K; refine norm_y (some 10) ?_; refine pure_y 8 (some 15) (bz 14 383) ?_; exact norm_ (by simp only [putAll, Act.put, put_x]) (hCont (v7, v10, v11) _ ⟨hHeld, R10, R11, HBd⟩)
 rintro ⟨v7, v10, v11⟩ wj ⟨hHeld, R10, R11, HBd⟩
 obtain ⟨A10, c10, hv10_⟩ := Kd.R_slice R10.out
 dsimp only at R10 R11 hv10_ ⊢
 subst hv10_
 refine norm_ (a' := ?_) ?_ ?_
 rotate_left
 ·
  simp only [putAll, Act.put, put_x]; rfl
 refine one_y 7 (some 14) (bz 14 511) fun K hK => ?_
 refine Kd.R_append_rows_step k79 (w0 := wd) wd.heap.size (by rfl) (.tmp 11) (.tmp 13) 24 79 (.agg #[(.int .i64 0), (.int .i64 0), (.int .i64 0)]) 24 rfl Try.underlying24 info79 rfl (by decide) (by omega) v11 [] x.lots x.A6 _ x.c6 (fun _ => True) (fun _ => False) rfl rfl ?aO ?aR (fun _ _ h => h) (fun _ h => h.elim) ?aF ?aB ?aS ?aL ?_
 (case aR => exact (Kd.C_below (Kd.C_below HX.out.l HB.out) HBd.out))
 (case aB => exact HBd.out)
 (case aF => exact (fun _ _ => trivial))
 (case aO => exact R11.out)
 (case aS => exact HBd.out.size)
 (case aL => simp only [List.length_nil]; omega)
 intro v14 w4 ho_ hb_ hg_ hat_
 rw [List.nil_append] at ho_
 obtain ⟨A14, c14, rfl⟩ := Kd.R_slice ho_
 have R14 := Aside0.mk ho_
 replace R10 := Aside0.mk (Kd.R_over' R10.out (Kd.R_typed R11.out) (by decide) hg_)
 have BK4 := Aside0.mk (blk_below BK.out hb_)
 have BE4 := Aside0.mk (blk_below BE.out hb_)
 replace HBd := Aside0.mk hb_
 clear ho_ hb_ hg_ hat_ R11
 refine hK.out _ _ ⟨(HBd.out.cell (blk_lt BK.out)).trans ((blk_cell BK.out 3).trans rfl), (HBd.out.cell (blk_lt BK.out)).trans ((blk_cell BK.out 6).trans rfl)⟩ (fun hHeld => ?_)
 clear hK K
 refine norm_y (some 14) ?_
 refine last_ (i := 9) (N := none) (bz 14 1023) rfl rfl (by kernel_rfl) (by decide) (fun K hK => ?_)
 have hy0_ := (blk_cell BK4.out 3).trans rfl
 have hf_ := blk_frozen BK4.out
 refine skip_ (w1 := ?_) (by rfl) rfl ?_ ?_; rotate_left; (go_simp; rfl)
 clear hy0_ hf_
 refine hK.out _ _ ?_
 clear hK K
 refine pure_y 10 (some 16) (bz 14 2047) ?_
 refine last_ (i := 11) (N := none) (bz 14 4095) rfl rfl (by kernel_rfl) (by decide) (fun K hK => ?_)
 have BK5 := Aside0.mk (blk_put (cs' := #[.int .i64 x.light, .int .i64 x.under, .int .i64 x.trim, .slice A10 x.holds.length c10, .int .i64 x.leaves, .slice A5 x.sills.length x.c5, .slice x.A6 x.lots.length x.c6]) BK4.out 3 (.slice A10 x.holds.length c10) rfl)
 have hy0_ := (blk_cell BK5.out 6).trans rfl
 have hf_ := blk_frozen BK5.out
 refine skip_ (w1 := ?_) (by rfl) rfl ?_ ?_; rotate_left; (go_simp; rfl)
 clear hy0_ hf_
 refine hK.out _ _ ?_
 clear hK K
 refine pure_y 12 (some 17) (bz 14 8191) ?_
 refine last_ (i := 13) (N := none) (bz 14 16383) rfl rfl (by kernel_rfl) (by decide) (fun K hK => ?_)
 have BK6 := Aside0.mk (blk_put (cs' := #[.int .i64 x.light, .int .i64 x.under, .int .i64 x.trim, .slice A10 x.holds.length c10, .int .i64 x.leaves, .slice A5 x.sills.length x.c5, .slice A14 x.lots.length c14]) BK5.out 6 (.slice A14 x.lots.length c14) rfl)
 have hy0_ := (blk_cell BK6.out 5).trans rfl
 have hf_ := blk_frozen BK6.out
 refine skip_ (w1 := ?_) (by rfl) rfl ?_ ?_; rotate_left; (go_simp; rfl)
 clear hy0_ hf_
 refine hK.out _ _ ?_
 clear hK K
 refine done_ (by kernel_rfl) ?_
 clear hHeld hz3_ hz5_ hz6_
 have BK7 := Aside0.mk (blk_put (cs' := #[.int .i64 x.light, .int .i64 x.under, .int .i64 x.trim, .slice A10 x.holds.length c10, .int .i64 x.leaves, .slice none 0 0, .slice A14 x.lots.length c14]) BK6.out 5 (.slice none 0 0) rfl)
 have BE7 := Aside0.mk (blk_far (blk_far (blk_far BE4.out (p := ⟨gb, 3, none⟩) NBE.out.symm (.slice A10 x.holds.length c10)) (p := ⟨gb, 6, none⟩) NBE.out.symm (.slice A14 x.lots.length c14)) (p := ⟨gb, 5, none⟩) NBE.out.symm (.slice none 0 0))
 have HB7 := Aside0.mk (below_set (below_set (below_set (below_step HB.out HBd.out) GEb.out (j := 3) (v := (.slice A10 x.holds.length c10))) GEb.out (j := 6) (v := (.slice A14 x.lots.length c14))) GEb.out (j := 5) (v := .slice none 0 0))
 replace R10 := Aside0.mk (Kd.R_set (Kd.R_set (Kd.R_set R10.out BK4.out (by decide) 3 (.slice A10 x.holds.length c10)) BK5.out (by decide) 6 (.slice A14 x.lots.length c14)) BK6.out (by decide) 5 (.slice none 0 0))
 replace R14 := Aside0.mk (Kd.R_set (Kd.R_set (Kd.R_set R14.out BK4.out (by decide) 3 (.slice A10 x.holds.length c10)) BK5.out (by decide) 6 (.slice A14 x.lots.length c14)) BK6.out (by decide) 5 (.slice none 0 0))
 replace R10 := Aside0.mk (Kd.R_lower R10.out HB.out.size)
 replace R14 := Aside0.mk (Kd.R_lower R14.out HB.out.size)
 generalize hW_ : ((w4.setCell ⟨gb, 3, none⟩ (.slice A10 x.holds.length c10)).setCell ⟨gb, 6, none⟩ (.slice A14 x.lots.length c14)).setCell ⟨gb, 5, none⟩ (.slice none 0 0) = w5 at *
 clear hW_ BK4 BK5 BK6 BE4 HBd BK BE HB
 go_wp2
 go_loopg [4] x.sills.length (fun gk v4 wr => ∃ k : Nat, k ≤ x.sills.length ∧ x.sills.length - k ≤ gk ∧ v4 = .int .i64 k ∧ Aside0 (∃ v5, wr.heap[gb]? = some (.cells #[.int .i64 x.light, .int .i64 x.under, .int .i64 x.trim, .slice A10 x.holds.length c10, .int .i64 x.leaves, v5, .slice A14 x.lots.length c14] 26 (0, 0)) ∧ Kd.S k59 59 wr w.heap.size (fun _ => True) v5 (x.sills.take k)) ∧ Aside0 (wr.heap[ge]? = some (.cells #[.int .i64 0, .int .i64 0, .int .i64 0, .slice none 0 0, .int .i64 0, .slice none 0 0, .slice none 0 0] 26 (0, 0))) ∧ Aside0 (Kd.R k85 85 wr w.heap.size (fun _ => True) (.slice A10 x.holds.length c10) x.holds) ∧ Aside0 (Kd.R k79 79 wr w.heap.size (fun _ => True) (.slice A14 x.lots.length c14) x.lots) ∧ Aside0 (Below w.heap.size w wr))
 case atStart => exact ⟨0, by omega, by omega, rfl, ⟨⟨_, BK7.out, Kd.S_nil _ _ _ _ _⟩⟩, BE7, R10, R14, HB7⟩
 case round =>
  clear BK7 BE7 R10 R14 HB7; obtain ⟨k, hk, hgk, rfl, HI, BE, R10, R14, HB⟩ := hrel; obtain ⟨v5, hbk, hs5⟩ := HI.out; obtain ⟨Av, cv, hv5_⟩ := Kd.S_slice hs5; rw [List.length_take, Nat.min_eq_left hk] at hv5_; subst hv5_; have BK := Aside0.mk hbk; have HO := Aside0.mk hs5; clear hbk hs5 HI; by_cases hlt : k < x.sills.length
  ·
   (have hlz : (k : Int) < (x.sills.length : Int) := by omega); obtain ⟨ads, A2, c2, e, h0, h1, h2, l2, g2⟩ := at_T59 HS5.out (k : Int) (by omega) hlz; (cases e); rw [Int.toNat_natCast] at h0 h1 h2; have hlen := HL.out.l k hlt
   have htk : Aside0 (x.sills.take (k + 1) = x.sills.take k ++ [rd_T59 x.sills (k : Int)]) := ⟨by
    rw [List.take_succ_eq_append_getElem hlt]; (have : rd_T59 x.sills (k : Int) = x.sills[k] := by simp [rd_T59, List.getD, hlt]); rw [this]⟩
   (have htl : (x.sills.take k).length = k := by rw [List.length_take]; omega); have HTL := Aside0.mk htl; have hrd : x.sills.getD k z59 = rd_T59 x.sills (k : Int) := rfl; rw [hrd] at hlen; clear hrd htl; generalize rd_T59 x.sills (k : Int) = sl at *; have LT0 := Aside0.mk (World.block_lt_of_cell? w _ h0); have LT1 := Aside0.mk (World.block_lt_of_cell? w _ h1); have LT2 := Aside0.mk (World.block_lt_of_cell? w _ h2); have E0 := Aside0.mk h0; have E1 := Aside0.mk h1; have E2 := Aside0.mk h2; have G2 := Aside0.mk g2; clear g2; replace h0 := (HB.out.cell LT0.out).trans h0; replace h1 := (HB.out.cell LT1.out).trans h1; replace h2 := (HB.out.cell LT2.out).trans h2; have hz5_ := (blk_cell BK.out 5).trans rfl
   go_upto_region 6 with (fail)
   have hd_ := below_drew1 (Below.refl wr.heap.size wr); replace BK := Aside0.mk (blk_drew BK.out); replace BE := Aside0.mk (blk_drew BE.out); replace HO := Aside0.mk (Kd.S_drew HO.out); replace R10 := Aside0.mk (Kd.R_drew R10.out); replace R14 := Aside0.mk (Kd.R_drew R14.out); replace HB := Aside0.mk (below_step HB.out hd_); clear hd_; refine start_ (n := 19) (S := fun w' => w'.cell? ⟨gb, 5, none⟩ = some (.slice Av k cv) ∧ w'.cell? (ads.add (k * 3)) = some (.int .i64 sl.f0.f0) ∧ w'.cell? ⟨(ads.add (k * 3)).block, (ads.add (k * 3)).off + 1, none⟩ = some (.int .i64 sl.f0.f1) ∧ w'.cell? ⟨(ads.add (k * 3)).block, (ads.add (k * 3)).off + 2, none⟩ = some (.slice A2 sl.f1.length c2)) (ds := [16, 18]) #[false, false, false, false, false, false, false, false, false, false, false, false, false, false, false, false, false, false, false] (by kernel_rfl) rfl rfl ⟨hz5_, h0, h1, h2⟩ (fun hHeld => ?_); generalize wr.drew = wd at BK BE HO R10 R14 HB hHeld ⊢; refine pure_y 0 (some 24) (bz 19 1) ?_; refine pure_y 2 (some 26) (bz 19 5) ?_; refine pure_y 3 (some 27) (bz 19 13) ?_; refine pure_y 4 (some 28) (bz 19 29) ?_; refine pure_y 5 (some 29) (bz 19 61) ?_; refine pure_y 8 (some 32) (bz 19 317) ?_; refine pure_y 9 (some 33) (bz 19 829) ?_; refine pure_y 10 (some 34) (bz 19 1853) ?_; refine pure_y 11 (some 35) (bz 19 3901) ?_; refine take_y 1 (some 25) (bz 19 3903) hHeld ?_; refine take_y 6 (some 30) (bz 19 3967) hHeld ?_; refine take_y 12 (some 36) (bz 19 8063) hHeld ?_; (refine one_y 7 (some 31) (bz 19 8191) fun K hK => ?_); refine Kd.R_lit_step k62 _ 62 ?hg (N := 31) ?hd (xs := ([] : List S62)) (inner := []) (ok := fun _ => True) (okp := fun _ => True) ?hr ?hp (fun _ hk => hk) trivial (Below.refl _ _) (Nat.le_refl _) (by simp) ?_; (case hd => rfl); (case hg => rfl); (case hr => first | (go_simp; done) | (go_simp; rfl)); (case hp => exact (Reps.none _ _)); intro v31 w6 ho_ hb_ hg_ hnew_; clear hg_ hnew_; have R31 := Aside0.mk ho_; have HBd := Aside0.mk hb_; clear ho_ hb_; refine hK.out _ _ ⟨(HBd.out.cell (blk_lt BK.out)).trans ((blk_cell BK.out 5).trans rfl), (HBd.out.cell (Nat.lt_of_lt_of_le LT0.out HB.out.size)).trans ((HB.out.cell LT0.out).trans E0.out), (HBd.out.cell (Nat.lt_of_lt_of_le LT1.out HB.out.size)).trans ((HB.out.cell LT1.out).trans E1.out), (HBd.out.cell (Nat.lt_of_lt_of_le LT2.out HB.out.size)).trans ((HB.out.cell LT2.out).trans E2.out)⟩ (fun hHeld => ?_); clear hK K; refine norm_y (some 31) ?_; (refine one_y 13 (some 37) (bz 19 16383) fun K hK => ?_); refine Kd.R_append_rows_step k62 (w0 := wd) wd.heap.size (by rfl) (.tmp 31) (.tmp 36) 57 62 (.agg #[(.int .i64 0), (.int .i64 0), (.int .i64 0)]) 24 rfl Try.underlying57 info62 rfl (by decide) (by omega) v31 [] sl.f1 A2 _ c2 (fun _ => True) (fun _ => False) rfl rfl ?aO ?aR (fun _ _ h => h) (fun _ h => h.elim) ?aF ?aB ?aS ?aL ?_
   (case aR => exact (Kd.C_below (Kd.C_below G2.out HB.out) HBd.out))
   (case aB => exact HBd.out)
   (case aF => exact (fun _ _ => trivial))
   (case aO => exact R31.out)
   (case aS => exact HBd.out.size)
   (case aL => simp only [List.length_nil]; omega)
   intro v37 w7 ho_ hb_ hg_ hat_; rw [List.nil_append] at ho_; obtain ⟨A37, c37, rfl⟩ := Kd.R_slice ho_; have R37 := Aside0.mk ho_; replace HBd := Aside0.mk hb_; clear ho_ hb_ hg_ hat_ R31; refine hK.out _ _ ⟨(HBd.out.cell (blk_lt BK.out)).trans ((blk_cell BK.out 5).trans rfl), (HBd.out.cell (Nat.lt_of_lt_of_le LT0.out HB.out.size)).trans ((HB.out.cell LT0.out).trans E0.out), (HBd.out.cell (Nat.lt_of_lt_of_le LT1.out HB.out.size)).trans ((HB.out.cell LT1.out).trans E1.out), (HBd.out.cell (Nat.lt_of_lt_of_le LT2.out HB.out.size)).trans ((HB.out.cell LT2.out).trans E2.out)⟩ (fun hHeld => ?_); clear hK K; refine norm_y (some 37) ?_; refine pure_y 14 (some 38) (bz 19 32767) ?_; (refine one_y 15 (some 39) (bz 19 65535) fun K hK => ?_); refine value_ (w1 := ?_) (v := ?_) (by rfl) rfl ?_ ?_; rotate_left 2
   ·
    (go_simp; constructor <;> rfl)
   refine hK.out _ _ ⟨((below_alloc HBd.out _).cell (blk_lt BK.out)).trans ((blk_cell BK.out 5).trans rfl), ((below_alloc HBd.out _).cell (Nat.lt_of_lt_of_le LT0.out HB.out.size)).trans ((HB.out.cell LT0.out).trans E0.out), ((below_alloc HBd.out _).cell (Nat.lt_of_lt_of_le LT1.out HB.out.size)).trans ((HB.out.cell LT1.out).trans E1.out), ((below_alloc HBd.out _).cell (Nat.lt_of_lt_of_le LT2.out HB.out.size)).trans ((HB.out.cell LT2.out).trans E2.out)⟩ (fun hHeld => ?_); clear hK K; refine norm_y (some 39) ?_; refine last_ (i := 16) (N := some 40) (bz 19 131071) rfl rfl (by kernel_rfl) (by decide) (fun K hK => ?_); refine Kd.S_append_step k59 (w0 := w) w.heap.size (by rfl) (.tmp 25) (.tmp 39) 23 59 (.agg #[(.int .i64 0), (.int .i64 0), (.slice none 0 0)]) 40 rfl Try.underlying23 info59 rfl (by decide) (by omega) (.slice Av k cv) (x.sills.take k) sl [.int .i64 sl.f0.f0, .int .i64 sl.f0.f1, .slice A37 sl.f1.length c37] (fun _ => True) (fun k_ => wd.heap.size ≤ k_) rfl rfl ?aP ?aK ?aF ?aO ?aB ?aS ?aL ?_
   (case aP => exact k59_mkM _ _ _ sl (Kd.R_mono (Kd.R_bound (Kd.R_lower (Kd.R_mono (Kd.R_bound R37.out) (fun _ hk => hk.2.1)) HB.out.size)) (fun _ hk => hk.1)))
   (case aK => exact (fun k_ hk => ⟨trivial, fun he => by have := Kd.S_lt HO.out k_ he.symm; omega⟩))
   (case aF => exact (fun _ _ => trivial))
   (case aO => exact Kd.S_mono (Kd.S_old HO.out HBd.out) (fun _ hk => ⟨trivial, by have := hk.2; omega⟩))
   (case aB => exact below_step HB.out HBd.out)
   (case aS => exact Nat.le_trans HB.out.size HBd.out.size)
   (case aL => have := HTL.out; omega)
   intro v40 w8 ho_ hb_ hg_ hat_; obtain ⟨A40, c40, hv40_⟩ := Kd.S_slice ho_; rw [List.length_append, HTL.out, List.length_singleton] at hv40_; subst hv40_; have HO2 := Aside0.mk ho_; have BK2 := Aside0.mk (blk_grown (blk_below BK.out HBd.out) hg_ (Kd.S_ne HO.out BK.out (by decide))); have BE2 := Aside0.mk (blk_grown (blk_below BE.out HBd.out) hg_ (Kd.S_ne HO.out BE.out (by decide))); have T_ := Aside0.mk (fun k_ he => (Kd.S_typed HO.out k_ he).imp fun _ hc => blk_below hc HBd.out); replace R10 := Aside0.mk (Kd.R_over' (Kd.R_below R10.out HBd.out) T_.out (by decide) hg_); replace R14 := Aside0.mk (Kd.R_over' (Kd.R_below R14.out HBd.out) T_.out (by decide) hg_); have HB2 := Aside0.mk hb_; clear ho_ hb_ hg_ hat_ T_ R37; refine hK.out _ _ ?_; clear hK K; refine norm_y (some 40) ?_; refine pure_y 17 (some 41) (bz 19 262143) ?_; refine last_ (i := 18) (N := none) (bz 19 524287) rfl rfl (by kernel_rfl) (by decide) (fun K hK => ?_); have hy0_ := (blk_cell BK2.out 5).trans rfl; have hf_ := blk_frozen BK2.out; refine skip_ (w1 := ?_) (by rfl) rfl ?_ ?_; rotate_left; (go_simp; rfl); clear hy0_ hf_; refine hK.out _ _ ?_; clear hK K; refine done_ (by kernel_rfl) ?_; clear hHeld hz5_ h0 h1 h2; have BK3 := Aside0.mk (blk_put (cs' := #[.int .i64 x.light, .int .i64 x.under, .int .i64 x.trim, .slice A10 x.holds.length c10, .int .i64 x.leaves, .slice A40 (k + 1) c40, .slice A14 x.lots.length c14]) BK2.out 5 (.slice A40 (k + 1) c40) rfl); have BE3 := Aside0.mk (blk_far BE2.out (p := ⟨gb, 5, none⟩) NBE.out.symm (.slice A40 (k + 1) c40)); have HB3 := Aside0.mk (below_set HB2.out GEb.out (j := 5) (v := (.slice A40 (k + 1) c40))); have HO3 := Aside0.mk (Kd.S_set HO2.out BK2.out (by decide) 5 (.slice A40 (k + 1) c40)); replace R10 := Aside0.mk (Kd.R_set R10.out BK2.out (by decide) 5 (.slice A40 (k + 1) c40)); replace R14 := Aside0.mk (Kd.R_set R14.out BK2.out (by decide) 5 (.slice A40 (k + 1) c40)); generalize hW_ : w8.setCell ⟨gb, 5, none⟩ (.slice A40 (k + 1) c40) = w9 at *; clear hW_ BK BE HO HB BK2 BE2 HB2 HO2 HBd; go_wp2; go_roundg (x.sills.length - (k + 1))
   case measure => omega
   case rel => exact ⟨k + 1, by omega, by omega, by go_num, ⟨⟨_, BK3.out, by rw [htk.out]; exact HO3.out⟩⟩, BE3, R10, R14, HB3⟩
  ·
   (have : k = x.sills.length := by omega); subst this; have HOe := HO.out; rw [List.take_length] at HOe; have HO2 := Aside0.mk HOe; clear HOe HO; have hz0_ := (blk_cell BK.out 0).trans rfl; have hz1_ := (blk_cell BK.out 1).trans rfl; have hz2_ := (blk_cell BK.out 2).trans rfl; have hz3_ := (blk_cell BK.out 3).trans rfl; have hz4_ := (blk_cell BK.out 4).trans rfl; have hz5_ := (blk_cell BK.out 5).trans rfl; have hz6_ := (blk_cell BK.out 6).trans rfl; have hy0_ := (blk_cell BE.out 0).trans rfl; have hy1_ := (blk_cell BE.out 1).trans rfl; have hy2_ := (blk_cell BE.out 2).trans rfl; have hy3_ := (blk_cell BE.out 3).trans rfl; have hy4_ := (blk_cell BE.out 4).trans rfl; have hy5_ := (blk_cell BE.out 5).trans rfl; have hy6_ := (blk_cell BE.out 6).trans rfl; have hf_ := blk_frozen BE.out; go_wp2; have BR := BE; have BR0 := BR; replace BR := Aside0.mk (blk_put (cs' := #[.int .i64 x.light, .int .i64 0, .int .i64 0, .slice none 0 0, .int .i64 0, .slice none 0 0, .slice none 0 0]) BR.out 0 (.int .i64 x.light) rfl); have BR1 := BR; replace BR := Aside0.mk (blk_put (cs' := #[.int .i64 x.light, .int .i64 x.under, .int .i64 0, .slice none 0 0, .int .i64 0, .slice none 0 0, .slice none 0 0]) BR.out 1 (.int .i64 x.under) rfl); have BR2 := BR; replace BR := Aside0.mk (blk_put (cs' := #[.int .i64 x.light, .int .i64 x.under, .int .i64 x.trim, .slice none 0 0, .int .i64 0, .slice none 0 0, .slice none 0 0]) BR.out 2 (.int .i64 x.trim) rfl); have BR3 := BR; replace BR := Aside0.mk (blk_put (cs' := #[.int .i64 x.light, .int .i64 x.under, .int .i64 x.trim, .slice A10 x.holds.length c10, .int .i64 0, .slice none 0 0, .slice none 0 0]) BR.out 3 (.slice A10 x.holds.length c10) rfl); have BR4 := BR; replace BR := Aside0.mk (blk_put (cs' := #[.int .i64 x.light, .int .i64 x.under, .int .i64 x.trim, .slice A10 x.holds.length c10, .int .i64 x.leaves, .slice none 0 0, .slice none 0 0]) BR.out 4 (.int .i64 x.leaves) rfl); have BR5 := BR; replace BR := Aside0.mk (blk_put (cs' := #[.int .i64 x.light, .int .i64 x.under, .int .i64 x.trim, .slice A10 x.holds.length c10, .int .i64 x.leaves, .slice Av x.sills.length cv, .slice none 0 0]) BR.out 5 (.slice Av x.sills.length cv) rfl); have BR6 := BR; replace BR := Aside0.mk (blk_put (cs' := #[.int .i64 x.light, .int .i64 x.under, .int .i64 x.trim, .slice A10 x.holds.length c10, .int .i64 x.leaves, .slice Av x.sills.length cv, .slice A14 x.lots.length c14]) BR.out 6 (.slice A14 x.lots.length c14) rfl); have HBe := Aside0.mk (show Below w.heap.size w (((((((wr.setCell ⟨ge, 0, none⟩ (.int .i64 x.light)).setCell ⟨ge, 1, none⟩ (.int .i64 x.under)).setCell ⟨ge, 2, none⟩ (.int .i64 x.trim)).setCell ⟨ge, 3, none⟩ (.slice A10 x.holds.length c10)).setCell ⟨ge, 4, none⟩ (.int .i64 x.leaves)).setCell ⟨ge, 5, none⟩ (.slice Av x.sills.length cv)).setCell ⟨ge, 6, none⟩ (.slice A14 x.lots.length c14)) from below_set (below_set (below_set (below_set (below_set (below_set (below_set (HB.out) GEe.out) GEe.out) GEe.out) GEe.out) GEe.out) GEe.out) GEe.out); have HOe := Aside0.mk (Kd.S_set (Kd.S_set (Kd.S_set (Kd.S_set (Kd.S_set (Kd.S_set (Kd.S_set HO2.out BR0.out (by decide) 0 (.int .i64 x.light)) BR1.out (by decide) 1 (.int .i64 x.under)) BR2.out (by decide) 2 (.int .i64 x.trim)) BR3.out (by decide) 3 (.slice A10 x.holds.length c10)) BR4.out (by decide) 4 (.int .i64 x.leaves)) BR5.out (by decide) 5 (.slice Av x.sills.length cv)) BR6.out (by decide) 6 (.slice A14 x.lots.length c14)); have R10e := Aside0.mk (Kd.R_set (Kd.R_set (Kd.R_set (Kd.R_set (Kd.R_set (Kd.R_set (Kd.R_set R10.out BR0.out (by decide) 0 (.int .i64 x.light)) BR1.out (by decide) 1 (.int .i64 x.under)) BR2.out (by decide) 2 (.int .i64 x.trim)) BR3.out (by decide) 3 (.slice A10 x.holds.length c10)) BR4.out (by decide) 4 (.int .i64 x.leaves)) BR5.out (by decide) 5 (.slice Av x.sills.length cv)) BR6.out (by decide) 6 (.slice A14 x.lots.length c14)); have R14e := Aside0.mk (Kd.R_set (Kd.R_set (Kd.R_set (Kd.R_set (Kd.R_set (Kd.R_set (Kd.R_set R14.out BR0.out (by decide) 0 (.int .i64 x.light)) BR1.out (by decide) 1 (.int .i64 x.under)) BR2.out (by decide) 2 (.int .i64 x.trim)) BR3.out (by decide) 3 (.slice A10 x.holds.length c10)) BR4.out (by decide) 4 (.int .i64 x.leaves)) BR5.out (by decide) 5 (.slice Av x.sills.length cv)) BR6.out (by decide) 6 (.slice A14 x.lots.length c14)); clear hf_ BR0 BR1 BR2 BR3 BR4 BR5 BR6 BE HB HO2 R10 R14 BK hz0_ hz1_ hz2_ hz3_ hz4_ hz5_ hz6_ hy0_ hy1_ hy2_ hy3_ hy4_ hy5_ hy6_; generalize hW_ : ((((((wr.setCell ⟨ge, 0, none⟩ (.int .i64 x.light)).setCell ⟨ge, 1, none⟩ (.int .i64 x.under)).setCell ⟨ge, 2, none⟩ (.int .i64 x.trim)).setCell ⟨ge, 3, none⟩ (.slice A10 x.holds.length c10)).setCell ⟨ge, 4, none⟩ (.int .i64 x.leaves)).setCell ⟨ge, 5, none⟩ (.slice Av x.sills.length cv)).setCell ⟨ge, 6, none⟩ (.slice A14 x.lots.length c14) = we at *; clear hW_; have hr0_ := (blk_cell BR.out 0).trans rfl; have hr1_ := (blk_cell BR.out 1).trans rfl; have hr2_ := (blk_cell BR.out 2).trans rfl; have hr3_ := (blk_cell BR.out 3).trans rfl; have hr4_ := (blk_cell BR.out 4).trans rfl; have hr5_ := (blk_cell BR.out 5).trans rfl; have hr6_ := (blk_cell BR.out 6).trans rfl; exact bodyPost_ret (results_single (r := .cell 2 26) rfl (.cell ge 26 #[.int .i64 x.light, .int .i64 x.under, .int .i64 x.trim, .slice A10 x.holds.length c10, .int .i64 x.leaves, .slice Av x.sills.length cv, .slice A14 x.lots.length c14] (0, 0) _ rfl BR.out hu26 rfl (by kernel_rfl) .nil)) rfl ⟨_, _, _, rfl, R10e.out, HOe.out, R14e.out, HBe.out⟩
theorem swarfkit_CopyVoyage.calls (a0_0 : Int) (a0_1 : Int) (a0_2 : Int) (A0_3 : Option Addr) (c0_3 : Nat) (l0_3 : List (S85)) (a0_4 : Int) (A0_5 : Option Addr) (c0_5 : Nat) (l0_5 : List (S59)) (A0_6 : Option Addr) (c0_6 : Nat) (l0_6 : List (S79)) (r1 : Int) (r2 : Int) (r3 : Int) (r4 : List (S85)) (r5 : Int) (r6 : List (S59)) (r7 : List (S79)) (w : World) (hr0_3 : Kd.C k85 w A0_3 l0_3.length l0_3) (hc0_3 : l0_3.length ≤ c0_3) (hr0_5 : Kd.C k59 w A0_5 l0_5.length l0_5) (hc0_5 : l0_5.length ≤ c0_5) (hr0_6 : Kd.C k79 w A0_6 l0_6.length l0_6) (hc0_6 : l0_6.length ≤ c0_6) (h : swarfkit_CopyVoyage.f a0_0 a0_1 a0_2 l0_3 a0_4 l0_5 l0_6 = some (r1, r2, r3, r4, r5, r6, r7)) :
  Calls Try.prog 20 #[.agg #[.int .i64 a0_0, .int .i64 a0_1, .int .i64 a0_2, .slice A0_3 l0_3.length c0_3, .int .i64 a0_4, .slice A0_5 l0_5.length c0_5, .slice A0_6 l0_6.length c0_6]] w fun e w' => ∃ v3_ v5_ v6_ : Value, e = .returned (.agg #[.int .i64 r1, .int .i64 r2, .int .i64 r3, v3_, .int .i64 r5, v5_, v6_]) ∧ Kd.R k85 85 w' w.heap.size (fun _ => True) v3_ r4 ∧ Kd.S k59 59 w' w.heap.size (fun _ => True) v5_ r6 ∧ Kd.R k79 79 w' w.heap.size (fun _ => True) v6_ r7 ∧ Below w.heap.size w w' := by
 unfold swarfkit_CopyVoyage.f at h
 by_cases hn : copyOK l0_3 l0_5 l0_6
 ·
  rw [if_pos hn] at h; simp only [Option.some.injEq, Prod.mk.injEq] at h; obtain ⟨rfl, rfl, rfl, rfl, rfl, rfl, rfl⟩ := h; exact copy_calls ⟨_, _, _, A0_3, c0_3, _, _, A0_5, c0_5, _, A0_6, c0_6, _⟩ w ⟨hr0_3, hc0_3, hr0_5, hc0_5, hr0_6, hc0_6⟩ hn
 ·
  rw [if_neg hn] at h; cases h
theorem VoyOK.mono {H S L' H' S' L2 : Nat} {T T' L U R V : Int} {holds : List S85} {sills : List S59} {lots : List S79} (h : VoyOK H S L' T L U R holds V sills lots) (h1 : H ≤ H') (h2 : S ≤ S') (h3 : L' ≤ L2) (h4 : T ≤ T') : VoyOK H' S' L2 T' L U R holds V sills lots :=
  ⟨h.light, h.under, h.trim, h.leaves, ⟨h.hn.1, Nat.le_trans h.hn.2 h1⟩, fun x hx => by obtain ⟨a, b, c⟩ := h.ho x hx; exact ⟨a, by omega, c⟩, Nat.le_trans h.sn h2,
    fun x hx => by
      obtain ⟨a, b, c, d, e, fr, hl⟩ := h.si x hx
      exact ⟨a, b, c, d, e, fr, fun i hi => by obtain ⟨p, q, r, s, t⟩ := hl.bd i hi; exact ⟨p, q, r, s, by omega⟩, hl.up, hl.zero, hl.first, hl.lim⟩,
    Nat.le_trans h.ln h3, fun x hx => by obtain ⟨a, b, c, d⟩ := h.lo x hx; exact ⟨a, b, by omega, d⟩⟩
structure HoldsLE (a b : List S85) : Prop where
  len : a.length ≤ b.length
  eq : ∀ g : Nat, g < a.length → (b.getD g z85).f1 = (a.getD g z85).f1 ∧ (b.getD g z85).f2 = (a.getD g z85).f2 ∧ (a.getD g z85).f0 ≤ (b.getD g z85).f0
  more : ∀ g : Nat, a.length ≤ g → g < b.length → 0 ≤ (b.getD g z85).f0
theorem copy_ok {H S L' : Nat} {T L U R V : Int} {holds : List S85} {sills : List S59} {lots : List S79} (h : VoyOK H S L' T L U R holds V sills lots) (hH : H ≤ 100) (hS : S ≤ 100) (hL : L' ≤ 100) : swarfkit_CopyVoyage.f L U R holds V sills lots = some (L, U, R, holds, V, sills, lots) := by
  unfold swarfkit_CopyVoyage.f
  have h1 := h.hn; have h2 := h.sn; have h3 := h.ln
  rw [if_pos ⟨by omega, by omega, by omega, fun x hx => by obtain ⟨_, _, _, _, a5, _⟩ := h.si x hx; omega⟩]
end Go.Proofs.Ytodmemndaaiolaa.PC7
namespace Go.Proofs.Ytodmemndaaiolaa.PC7
open Go.RowKit Go.Proofs.YtodmemndaaiolaaW.PrintWords Go.Proofs.YtodmemndaaiolaaW.PrintLast Go.Proofs.YtodmemndaaiolaaW.PrintMore
attribute [local go_sem] max2_int min2_int max_two min_two max_three min_three max_four min_four
set_option linter.unusedVariables false
set_option linter.unusedSimpArgs false
def swarfkit_Feed_In.f (s0_0 : Int) (a1_0 : Int) (a1_1 : Int) : Option (Int × Int) := (swarfkit_Feed_Between.f s0_0 a1_0 a1_1).bind fun bt1050 => ((swarfkit_Feed_Between.f bt1050.2 a1_0 a1_1).bind fun bt1052 => ((swarfkit_Feed_Either.f bt1052.2 (([a1_0, a1_1, bt1050.1, bt1052.1] : List Int))).bind fun bt1057 => (some (bt1057.1, bt1057.2))))
end Go.Proofs.Ytodmemndaaiolaa.PC7
namespace Go.Proofs.Ytodmemndaaiolaa.PC7
set_option linter.unusedVariables false
set_option linter.unusedSimpArgs false
open Go.RowKit Go.Proofs.YtodmemndaaiolaaW.PrintWords Go.Proofs.YtodmemndaaiolaaW.PrintLast Go.Proofs.YtodmemndaaiolaaW.PrintMore
def feedL (s : Int) : List S56 → Option (List Int × Int)
 | [] => some ([], s)
 | x :: r => (swarfkit_Feed_In.f s x.f0 x.f1).bind fun a => (feedL a.2 r).bind fun b => some (a.1 :: b.1, b.2)
def factS (s : Int) : List S59 → Option (List Int × List (List Int) × Int)
 | [] => some ([], [], s)
 | x :: r => (swarfkit_Feed_In.f s x.f0.f0 x.f0.f1).bind fun a => (feedL a.2 (x.f1.map (·.f1))).bind fun l => (factS l.2 r).bind fun b => some (a.1 :: b.1, l.1 :: b.2.1, b.2.2)
theorem R_kb {α : Type} {d : Kd α} {e base g : Nat} {ok : Nat → Prop} {W W' : World} {v : Value} {xs : List α} (h : d.R e W base ok v xs) (hk : KeepBut W W' g none) (hg : g < base) : d.R e W' base ok v xs :=
 Kd.R_mono (Kd.R_step (Kd.R_bound h) (fun k hk' hlt => hk.2 k hlt (by have := hk'.2.1; omega) (by simp))) (fun _ h => h.1)
theorem S_kb {α : Type} {d : Kd α} {e base g : Nat} {ok : Nat → Prop} {W W' : World} {v : Value} {xs : List α} (h : d.S e W base ok v xs) (hk : KeepBut W W' g none) (hg : g < base) : d.S e W' base ok v xs :=
 Kd.S_mono (Kd.S_step (Kd.S_bound h) (fun k hk' hlt => hk.2 k hlt (by have := hk'.2.1; omega) (by simp))) (fun _ h => h.1)
theorem blk_kb {w w' : World} {g b : Nat} {o : Obj} (h : w.heap[b]? = some o) (hk : KeepBut w w' g none) (hne : b ≠ g) : w'.heap[b]? = some o := (hk.2 b (blk_lt h) hne (by simp)).trans h
end Go.Proofs.Ytodmemndaaiolaa.PC7
namespace Go.Proofs.Ytodmemndaaiolaa.PC7
set_option linter.unusedVariables false
open Go.RowKit Go.Proofs.YtodmemndaaiolaaW.PrintWords Go.Proofs.YtodmemndaaiolaaW.PrintLast Go.Proofs.YtodmemndaaiolaaW.PrintMore
def feedX (s x : Int) : Int := Go.bits .xor .u64 s (IntKind.u64.wrap (IntKind.u64.wrap x * 15485907386658061715))
def feedAll (l : List Int) : Int := l.foldl (fun s x => feedN (feedX s x)) 88172645463325252
def swarfkit_FeedOf.f (l0 : List Int) : Option (Int) := if l0.length ≤ 140737488351232 then some (feedAll l0) else none
structure FeedNew (w0 w W : World) (g : Nat) (x : Int) : Prop where
 is : IsS90 w0 W g x
 be : Below w0.heap.size w0 W
 bw : Below w.heap.size w W
 ge : w.heap.size ≤ g
theorem FeedNew.next {w0 w W : World} {g : Nat} {x : Int} (h : FeedNew w0 w W g x) (y : Int) : FeedNew w0 w (W.setCell ⟨g, 0, none⟩ (.int .u64 y)) g y :=
 ⟨h.is.set_0 y, below_set h.be h.is.ge, below_set h.bw h.ge, h.ge⟩
theorem FeedNew.drew {w0 w W : World} {g : Nat} {x : Int} (h : FeedNew w0 w W g x) : FeedNew w0 w W.drew g x := ⟨h.is.drew, h.be.drew, h.bw.drew, h.ge⟩
theorem below_next {w0 w w1 w2 : World} {g : Nat} (hb : Below w.heap.size w w1) (h1 : Below w0.heap.size w0 w1) (h2 : Below w0.heap.size w0 w2) (hk : KeepBut w1 w2 g none) (hg : w.heap.size ≤ g) : Below w.heap.size w w2 :=
 ⟨(h2.os.trans h1.os.symm).trans hb.os, (h2.tape.trans h1.tape.symm).trans hb.tape, (h2.output.trans h1.output.symm).trans hb.output, Nat.le_trans hb.size hk.1,
  fun k hlt => (hk.2 k (Nat.lt_of_lt_of_le hlt hb.size) (by omega) (by simp)).trans (hb.block k hlt)⟩
theorem feedAll_step (l : List Int) (i : Nat) (h : i < l.length) : feedAll (l.take (i + 1)) = feedN (feedX (feedAll (l.take i)) (rd l (i : Int))) := by
 unfold feedAll
 rw [List.take_succ_eq_append_getElem h, List.foldl_append]
 simp [rd, List.getD, h]
set_option maxHeartbeats 4000000 in
set_option maxRecDepth 100000 in
theorem swarfkit_FeedOf.calls (A0 : Option Addr) (c0 : Nat) (l0 : List Int) (r : Int) (w0 w : World) (hB : Below w0.heap.size w0 w) (hr0 : Kd.C (Kd.int .i64) w0 A0 l0.length l0) (hc0 : l0.length ≤ c0) (h : swarfkit_FeedOf.f l0 = some r) :
  Calls Try.prog 16 #[.slice A0 l0.length c0] w fun e w' => ∃ g_ : Nat, e = .returned (.pointer (some ⟨g_, 0, none⟩)) ∧ IsS90 w0 w' g_ r ∧ Below w0.heap.size w0 w' ∧ Below w.heap.size w w' := by
 simp only [swarfkit_FeedOf.f] at h
 by_cases hl : l0.length ≤ 140737488351232
 case neg => rw [if_neg hl] at h; cases h
 rw [if_pos hl] at h
 obtain rfl := Option.some.inj h
 clear h
 have hu90 := Try.underlying90
 have HB := Aside0.mk hB
 have HR0 := Aside0.mk hr0
 clear hB hr0
 go_enter Try.func16, Try.ntmps16
 go_wp2
 have F := Aside0.mk (FeedNew.mk (IsS90.new w0 w (88172645463325252) HB.out) (below_alloc HB.out _) (below_alloc (Below.refl _ _) _) (Nat.le_refl _))
 go_loopw [4] (fun i wr => ∃ k : Nat, k ≤ l0.length ∧ i = .int .i64 k ∧ Aside0 (FeedNew w0 w wr w.heap.size (feedAll (l0.take k)))) (fun i _ => l0.length - (intOf i).toNat)
 case atStart => exact ⟨0, Nat.zero_le _, rfl, F⟩
 case round =>
  clear F; obtain ⟨k, hk, rfl, F⟩ := hrel; have hcell := (blk_cell F.out.is.1 0).trans rfl; have hfree := blk_frozen F.out.is.1 0; by_cases hlt : k < l0.length
  ·
   (have hlz : (k : Int) < (l0.length : Int) := by omega); obtain ⟨ad, e, hx⟩ := Kd.at_int HR0.out (k : Int) (by omega) hlz; (cases e); rw [Int.toNat_natCast] at hx; replace hx := (F.out.be.cell (World.block_lt_of_cell? w0 _ hx)).trans hx; have HF := Aside0.mk (feedAll_step l0 k hlt); generalize feedAll (l0.take k) = s at *; generalize rd l0 (k : Int) = x at *; go_wp2
   go_region
   clear hcell hfree hx; have F1 := Aside0.mk (F.out.next (feedX s x)).drew; generalize hx1 : bits BinOp.xor IntKind.u64 s (IntKind.u64.wrap (IntKind.u64.wrap x * 15485907386658061715)) = x1; have hy1 : feedX s x = x1 := hx1; rw [hy1] at F1 HF; generalize hw1 : (wr.setCell ⟨w.heap.size, 0, none⟩ (.int .u64 x1)).drew = w1; rw [hw1] at F1; clear hx1 hw1 hy1 F; have HC := Aside0.mk (swarfkit_Feed_next.calls w.heap.size x1 (feedM (feedN x1)) (feedN x1) w0 w1 F1.out.is F1.out.be rfl)
   go_wp2_with (go_at_call 53; refine HC.out.mono ?_; rintro e w2 ⟨rfl, hI2, hB2, hK2⟩; have F2 := Aside0.mk (FeedNew.mk hI2 hB2 (below_next F1.out.bw F1.out.be hB2 hK2 F1.out.ge) F1.out.ge); clear hI2 hB2 hK2 HC)
   go_roundw
   case rel => exact ⟨k + 1, by omega, by go_num, by rw [HF.out]; exact F2⟩
   case measure => simp [intOf]; omega
  ·
   (have : k = l0.length := by omega); subst this; go_wp2; go_ret; rw [List.take_length] at F; exact ⟨_, rfl, F.out.is, F.out.be, F.out.bw⟩
end Go.Proofs.Ytodmemndaaiolaa.PC7
namespace Go.Proofs.Ytodmemndaaiolaa.PC7
open Go.RowKit Go.Proofs.YtodmemndaaiolaaW.PrintWords Go.Proofs.YtodmemndaaiolaaW.PrintLast Go.Proofs.YtodmemndaaiolaaW.PrintMore
attribute [local go_sem] max2_int min2_int max_two min_two max_three min_three max_four min_four
set_option linter.unusedVariables false
set_option linter.unusedSimpArgs false
attribute [local go_sem high] eqA56
set_option maxHeartbeats 8000000 in
set_option maxRecDepth 100000 in
theorem swarflaw07_awake.calls (k : Nat)  (r : Bool) (w : World) (h : swarflaw07_awake.f k  = some r) :
  Calls Try.prog 15 #[] w fun e w' => e = .returned (.bool r) ∧ Below w.heap.size w w' := by
 have hrt := Aside0.mk (awake_true h)
 have hu56 := Try.underlying56
 have HB := Aside0.mk (Below.refl w.heap.size w)
 have H : ((swarflaw07_voyage.f).bind fun bt198 => ((ship_Drafts.f bt198.1 bt198.2.1 bt198.2.2.1 bt198.2.2.2.1 bt198.2.2.2.2.1 bt198.2.2.2.2.2.1 bt198.2.2.2.2.2.2 (([0, 1, (-1)] : List Int))).bind fun bt214 => ((swarflaw07_voyage.f).bind fun bt221 => ((ship_Sail.f bt221.1 bt221.2.1 bt221.2.2.1 bt221.2.2.2.1 bt221.2.2.2.2.1 bt221.2.2.2.2.2.1 bt221.2.2.2.2.2.2 (([0, 1, (-1)] : List Int))).bind fun bt237 => ((swarflaw07_voyage.f).bind fun bt242 => ((ship_Best.f bt242.1 bt242.2.1 bt242.2.2.1 bt242.2.2.2.1 bt242.2.2.2.2.1 bt242.2.2.2.2.2.1 bt242.2.2.2.2.2.2).bind fun bt255 => (if bt214.2.2.2.2 = 0 then (if bt237.2.2 = 0 then (if bt255.2.2 = 0 then ((swarflaw07_rng.f 1290000 1340000).bind fun bt260 => (if (bt214.1 == bt260.1 && (bt214.2.1 == bt260.2)) = true then ((swarflaw07_rng.f 1260000 1310000).bind fun bt262 => (if (bt214.2.2.1 == bt262.1 && (bt214.2.2.2.1 == bt262.2)) = true then (if bt237.1 = 1 then (if bt255.2.1 = 95 then ((swarfkit_EqualInts.f k bt255.1 (([0, (-1), 1] : List Int))).bind fun t267 => (if t267 = true then ((swarflaw07_rng.f 90 100).bind fun bt268 => ((swarflaw07_rng.f 240 250).bind fun bt270 => ((swarfkit_EqualRanges.f k bt237.2.1 (([(⟨bt268.1, bt268.2⟩ : S56), (⟨bt270.1, bt270.2⟩ : S56)] : List (S56)))).bind fun t275 => (some t275)))) else (some false))) else (some false)) else (some false)) else (some false))) else (some false))) else (some false)) else (some false)) else (some false)))))))) = some r := h
 clear h
 replace H := Option.bind_eq_some_iff.mp H
 obtain ⟨⟨t198, t199, t200, t201, t204, t205, t208⟩, A10, H⟩ := H
 try dsimp only at H
 have A1 := Aside0.mk A10
 clear A10
 obtain ⟨y211, hy211⟩ : ∃ y_ : List Int, y_ = (([0, 1, (-1)] : List Int)) := ⟨_, rfl⟩
 replace H : ((ship_Drafts.f t198 t199 t200 t201 t204 t205 t208 y211).bind fun bt214 => ((swarflaw07_voyage.f).bind fun bt221 => ((ship_Sail.f bt221.1 bt221.2.1 bt221.2.2.1 bt221.2.2.2.1 bt221.2.2.2.2.1 bt221.2.2.2.2.2.1 bt221.2.2.2.2.2.2 (([0, 1, (-1)] : List Int))).bind fun bt237 => ((swarflaw07_voyage.f).bind fun bt242 => ((ship_Best.f bt242.1 bt242.2.1 bt242.2.2.1 bt242.2.2.2.1 bt242.2.2.2.2.1 bt242.2.2.2.2.2.1 bt242.2.2.2.2.2.2).bind fun bt255 => (if bt214.2.2.2.2 = 0 then (if bt237.2.2 = 0 then (if bt255.2.2 = 0 then ((swarflaw07_rng.f 1290000 1340000).bind fun bt260 => (if (bt214.1 == bt260.1 && (bt214.2.1 == bt260.2)) = true then ((swarflaw07_rng.f 1260000 1310000).bind fun bt262 => (if (bt214.2.2.1 == bt262.1 && (bt214.2.2.2.1 == bt262.2)) = true then (if bt237.1 = 1 then (if bt255.2.1 = 95 then ((swarfkit_EqualInts.f k bt255.1 (([0, (-1), 1] : List Int))).bind fun t267 => (if t267 = true then ((swarflaw07_rng.f 90 100).bind fun bt268 => ((swarflaw07_rng.f 240 250).bind fun bt270 => ((swarfkit_EqualRanges.f k bt237.2.1 (([(⟨bt268.1, bt268.2⟩ : S56), (⟨bt270.1, bt270.2⟩ : S56)] : List (S56)))).bind fun t275 => (some t275)))) else (some false))) else (some false)) else (some false)) else (some false))) else (some false))) else (some false)) else (some false)) else (some false))))))) = some r := by first | (rw [hy211]; with_reducible exact H) | (have H2_ := (Option.bind_some _ _).symm.trans H; rw [hy211]; with_reducible exact H2_) | (have H2_ := (Option.bind_some _ _).symm.trans H; with_reducible exact H2_) | with_reducible exact H | (rw [hy211]; exact H) | exact H
 have Ny211 := Aside0.mk hy211
 clear hy211
 replace H := Option.bind_eq_some_iff.mp H
 obtain ⟨⟨t214, t215, t216, t217, t218⟩, A20, H⟩ := H
 try dsimp only at H
 have A2 := Aside0.mk A20
 clear A20
 replace H := Option.bind_eq_some_iff.mp H
 obtain ⟨⟨t221, t222, t223, t224, t227, t228, t231⟩, A30, H⟩ := H
 try dsimp only at H
 have A3 := Aside0.mk A30
 clear A30
 obtain ⟨y234, hy234⟩ : ∃ y_ : List Int, y_ = (([0, 1, (-1)] : List Int)) := ⟨_, rfl⟩
 replace H : ((ship_Sail.f t221 t222 t223 t224 t227 t228 t231 y234).bind fun bt237 => ((swarflaw07_voyage.f).bind fun bt242 => ((ship_Best.f bt242.1 bt242.2.1 bt242.2.2.1 bt242.2.2.2.1 bt242.2.2.2.2.1 bt242.2.2.2.2.2.1 bt242.2.2.2.2.2.2).bind fun bt255 => (if t218 = 0 then (if bt237.2.2 = 0 then (if bt255.2.2 = 0 then ((swarflaw07_rng.f 1290000 1340000).bind fun bt260 => (if (t214 == bt260.1 && (t215 == bt260.2)) = true then ((swarflaw07_rng.f 1260000 1310000).bind fun bt262 => (if (t216 == bt262.1 && (t217 == bt262.2)) = true then (if bt237.1 = 1 then (if bt255.2.1 = 95 then ((swarfkit_EqualInts.f k bt255.1 (([0, (-1), 1] : List Int))).bind fun t267 => (if t267 = true then ((swarflaw07_rng.f 90 100).bind fun bt268 => ((swarflaw07_rng.f 240 250).bind fun bt270 => ((swarfkit_EqualRanges.f k bt237.2.1 (([(⟨bt268.1, bt268.2⟩ : S56), (⟨bt270.1, bt270.2⟩ : S56)] : List (S56)))).bind fun t275 => (some t275)))) else (some false))) else (some false)) else (some false)) else (some false))) else (some false))) else (some false)) else (some false)) else (some false))))) = some r := by first | (rw [hy234]; with_reducible exact H) | (have H2_ := (Option.bind_some _ _).symm.trans H; rw [hy234]; with_reducible exact H2_) | (have H2_ := (Option.bind_some _ _).symm.trans H; with_reducible exact H2_) | with_reducible exact H | (rw [hy234]; exact H) | exact H
 have Ny234 := Aside0.mk hy234
 clear hy234
 replace H := Option.bind_eq_some_iff.mp H
 obtain ⟨⟨t237, t238, t241⟩, A40, H⟩ := H
 try dsimp only at H
 have A4 := Aside0.mk A40
 clear A40
 replace H := Option.bind_eq_some_iff.mp H
 obtain ⟨⟨t242, t243, t244, t245, t248, t249, t252⟩, A50, H⟩ := H
 try dsimp only at H
 have A5 := Aside0.mk A50
 clear A50
 replace H := Option.bind_eq_some_iff.mp H
 obtain ⟨⟨t255, t258, t259⟩, A60, H⟩ := H
 try dsimp only at H
 have A6 := Aside0.mk A60
 clear A60
 by_cases c7 : t218 = 0
 ·
  rw [if_pos c7] at H; have c7b0 : (t218 == 0) = true := beq_iff_eq.mpr c7; have c7b1 : (t218 != 0) = false := bne_eq_false_iff_eq.mpr c7; clear c7; by_cases c8 : t241 = 0
  ·
   rw [if_pos c8] at H; have c8b0 : (t241 == 0) = true := beq_iff_eq.mpr c8; have c8b1 : (t241 != 0) = false := bne_eq_false_iff_eq.mpr c8; clear c8; by_cases c9 : t259 = 0
   ·
    rw [if_pos c9] at H; have c9b0 : (t259 == 0) = true := beq_iff_eq.mpr c9; have c9b1 : (t259 != 0) = false := bne_eq_false_iff_eq.mpr c9; clear c9; replace H := Option.bind_eq_some_iff.mp H; obtain ⟨⟨t260, t261⟩, A100, H⟩ := H
    try dsimp only at H
    have A10 := Aside0.mk A100; clear A100; by_cases c11 : (t214 == t260 && (t215 == t261)) = true
    ·
     rw [if_pos c11] at H; have c11b0 : (t214 == t260 && (t215 == t261)) = true := c11
     (try (have c11b1 : decide (t214 = t260 && (t215 == t261)) = true := by simpa using c11))
     (try (have c11b2 : (t214 == t260 && (t215 == t261)) = true := by simpa using c11))
     clear c11; replace H := Option.bind_eq_some_iff.mp H; obtain ⟨⟨t262, t263⟩, A120, H⟩ := H
     try dsimp only at H
     have A12 := Aside0.mk A120; clear A120; by_cases c13 : (t216 == t262 && (t217 == t263)) = true
     ·
      rw [if_pos c13] at H; have c13b0 : (t216 == t262 && (t217 == t263)) = true := c13
      (try (have c13b1 : decide (t216 = t262 && (t217 == t263)) = true := by simpa using c13))
      (try (have c13b2 : (t216 == t262 && (t217 == t263)) = true := by simpa using c13))
      clear c13; by_cases c14 : t237 = 1
      ·
       rw [if_pos c14] at H; have c14b0 : (t237 == 1) = true := beq_iff_eq.mpr c14; have c14b1 : (t237 != 1) = false := bne_eq_false_iff_eq.mpr c14; clear c14; by_cases c15 : t258 = 95
       ·
        rw [if_pos c15] at H; have c15b0 : (t258 == 95) = true := beq_iff_eq.mpr c15; have c15b1 : (t258 != 95) = false := bne_eq_false_iff_eq.mpr c15; clear c15; obtain ⟨y264, hy264⟩ : ∃ y_ : List Int, y_ = (([0, (-1), 1] : List Int)) := ⟨_, rfl⟩; (replace H : ((swarfkit_EqualInts.f k t255 y264).bind fun t267 => (if t267 = true then ((swarflaw07_rng.f 90 100).bind fun bt268 => ((swarflaw07_rng.f 240 250).bind fun bt270 => ((swarfkit_EqualRanges.f k t238 (([(⟨bt268.1, bt268.2⟩ : S56), (⟨bt270.1, bt270.2⟩ : S56)] : List (S56)))).bind fun t275 => (some t275)))) else (some false))) = some r := by first | (rw [hy264]; with_reducible exact H) | (have H2_ := (Option.bind_some _ _).symm.trans H; rw [hy264]; with_reducible exact H2_) | (have H2_ := (Option.bind_some _ _).symm.trans H; with_reducible exact H2_) | with_reducible exact H | (rw [hy264]; exact H) | exact H); have Ny264 := Aside0.mk hy264; clear hy264; replace H := Option.bind_eq_some_iff.mp H; obtain ⟨t267, A160, H⟩ := H
        try dsimp only at H
        have A16 := Aside0.mk A160; clear A160; by_cases c17 : t267 = true
        ·
         subst c17; (have H1 : ((swarflaw07_rng.f 90 100).bind fun bt268 => ((swarflaw07_rng.f 240 250).bind fun bt270 => ((swarfkit_EqualRanges.f k t238 (([(⟨bt268.1, bt268.2⟩ : S56), (⟨bt270.1, bt270.2⟩ : S56)] : List (S56)))).bind fun t275 => (some t275)))) = some r := by rw [if_pos rfl] at H; exact H); clear H; have H := H1; clear H1; replace H := Option.bind_eq_some_iff.mp H; obtain ⟨⟨t268, t269⟩, A180, H⟩ := H
         try dsimp only at H
         have A18 := Aside0.mk A180; clear A180; replace H := Option.bind_eq_some_iff.mp H; obtain ⟨⟨t270, t271⟩, A190, H⟩ := H
         try dsimp only at H
         have A19 := Aside0.mk A190; clear A190; obtain ⟨y272, hy272⟩ : ∃ y_ : List (S56), y_ = (([(⟨t268, t269⟩ : S56), (⟨t270, t271⟩ : S56)] : List (S56))) := ⟨_, rfl⟩; (replace H : ((swarfkit_EqualRanges.f k t238 y272).bind fun t275 => (some t275)) = some r := by first | (rw [hy272]; with_reducible exact H) | (have H2_ := (Option.bind_some _ _).symm.trans H; rw [hy272]; with_reducible exact H2_) | (have H2_ := (Option.bind_some _ _).symm.trans H; with_reducible exact H2_) | with_reducible exact H | (rw [hy272]; exact H) | exact H); have Ny272 := Aside0.mk hy272; clear hy272; replace H := Option.bind_eq_some_iff.mp H; obtain ⟨t275, A200, H⟩ := H; replace H : (some t275) = some r := H; have A20 := Aside0.mk A200; clear A200; obtain rfl := Option.some.inj H; go_enter Try.func15, Try.ntmps15
         try go_wp2_with (first | (refine goesG_x 52 rfl (some 11) Try.func52 #[] ?_; (with_reducible refine (swarflaw07_voyage.calls  t198 t199 t200 t201 t204 t205 t208 _ A1.out).mono ?_); rintro e w21 ⟨v202, v206, v209, rfl, ho0, ho1, ho2, hb⟩; refine ⟨_, rfl, ?_⟩; have HO203 := Aside0.mk (Kd.R_lower (Kd.R_mono (ok' := fun k_ => True) ho0 (fun _ hk_ => trivial)) (below_size (below_x HB.out))); have HO207 := Aside0.mk (Kd.N_lower (Kd.N_mono (ok' := fun k_ => some k_ ≠ (v202 : Value).ownBlock ∧ some k_ ≠ (v209 : Value).ownBlock) ho1 (fun k_ hk_ => ⟨hk_.2.1, hk_.2.2⟩)) (below_size (below_x HB.out))); have HO210 := Aside0.mk (Kd.R_lower (Kd.R_mono (ok' := fun k_ => True) ho2 (fun _ hk_ => trivial)) (below_size (below_x HB.out))); replace HB := Aside0.mk (below_step (below_x HB.out) hb); (try clear hb); (try clear hk); (try clear hi); (try clear ho0); (try clear ho1); (try clear ho2)) | ((with_reducible refine gate_dst (N := 12) rfl ?_); (try (refine gate_guard (by rfl) ?_; dsimp only)); refine Kd.R_lit (Kd.int .i64) _ 3 ?hg (N := 12) ?hd (xs := ([0, 1, (-1)] : List Int)) (inner := [.int .i64 0, .int .i64 1, .int .i64 (-1)]) (ok := fun _ => True) (okp := fun _ => True) ?hr ?hp (fun _ hk => hk) trivial (Below.refl _ _) (Nat.le_refl _) (by simp) ?_; (case hd => rfl); (case hg => rfl); (case hr => first | (go_simp; done) | (go_simp; rfl)); (case hp => exact (Reps.one (show Kd.M (Kd.int .i64) _ _ _ 0 [.int .i64 0] from rfl) (Reps.one (show Kd.M (Kd.int .i64) _ _ _ 1 [.int .i64 1] from rfl) (Reps.one (show Kd.M (Kd.int .i64) _ _ _ (-1) [.int .i64 (-1)] from rfl) (Reps.none _ _))))); intro v212 w22 ho23 hb hg_ hnew_; clear hg_ hnew_; (first | rw [← Ny211.out] at ho23 | (simp only [Int.reduceToNat] at ho23; rw [← Ny211.out] at ho23)); replace HO203 := Aside0.mk (Kd.R_below (Kd.R_x HO203.out) hb); replace HO207 := Aside0.mk (Kd.N_elder' (Kd.N_x HO207.out) (Kd.R_base ho23) hb); replace HO210 := Aside0.mk (Kd.R_below (Kd.R_x HO210.out) hb); have HO213 := Aside0.mk (Kd.R_lower ho23 (below_size (below_x HB.out))); replace HB := Aside0.mk (below_step (below_x HB.out) hb); clear hb ho23; obtain ⟨Ao24, co24, eo24⟩ := Kd.R_slice HO203.out; subst eo24; obtain ⟨Ao25, co25, eo25⟩ := Kd.N_slice HO207.out; subst eo25; obtain ⟨Ao26, co26, eo26⟩ := Kd.R_slice HO210.out; subst eo26; obtain ⟨Ao27, co27, eo27⟩ := Kd.R_slice HO213.out; subst eo27) | (refine goesG_x 35 rfl (some 13) Try.func35 #[.agg #[.int .i64 t198, .int .i64 t199, .int .i64 t200, .slice Ao24 t201.length co24, .int .i64 t204, .slice Ao25 t205.length co25, .slice Ao26 t208.length co26], .slice Ao27 y211.length co27] ?_; (with_reducible refine (ship_Drafts.calls t198 t199 t200 _ _ t201 t204 _ _ t205 _ _ t208 _ _ y211 t214 t215 t216 t217 t218 _ ?side1 ?side2 ?side3 ?side4 ?side5 ?side6 ?side7 ?side8 A2.out).mono ?_); (case side1 => exact Kd.C_y (Kd.R_reads' HO203.out).2.2); (case side2 => exact (Kd.R_reads' HO203.out).2.1); (case side3 => exact Kd.C_y (Kd.N_reads' HO207.out).2.2); (case side4 => exact (Kd.N_reads' HO207.out).2.1); (case side5 => exact Kd.C_y (Kd.R_reads' HO210.out).2.2); (case side6 => exact (Kd.R_reads' HO210.out).2.1); (case side7 => exact Kd.C_y (Kd.R_reads' HO213.out).2.2); (case side8 => exact (Kd.R_reads' HO213.out).2.1); rintro e w28 ⟨rfl, hb⟩; refine ⟨_, rfl, ?_⟩; replace HO203 := Aside0.mk (Kd.R_below (Kd.R_x HO203.out) hb); replace HO207 := Aside0.mk (Kd.N_below (Kd.N_x HO207.out) hb); replace HO210 := Aside0.mk (Kd.R_below (Kd.R_x HO210.out) hb); replace HO213 := Aside0.mk (Kd.R_below (Kd.R_x HO213.out) hb); replace HB := Aside0.mk (below_step (below_x HB.out) hb); (try clear hb); (try clear hk); (try clear hi)) | ((with_reducible refine gate_dst (N := 1) rfl ?_); (try (refine gate_guard (by rfl) ?_; dsimp only)); refine box_x (N := 1) (cs := #[.int .i64 0, .int .i64 0]) (t := 56) ?_; intro gb219 hg w29 hbox hb; replace HO203 := Aside0.mk (Kd.R_below (Kd.R_x HO203.out) hb); replace HO207 := Aside0.mk (Kd.N_below (Kd.N_elderB (Kd.N_x HO207.out) gb219 (Nat.le_of_eq hg.symm)) hb); replace HO210 := Aside0.mk (Kd.R_below (Kd.R_x HO210.out) hb); replace HO213 := Aside0.mk (Kd.R_below (Kd.R_x HO213.out) hb); have BK219 := Aside0.mk (hbox); have GW219 := gw_x hg HB; have GE219 := GW219; replace HB := Aside0.mk (below_step (below_x HB.out) hb); clear hb hbox hg) | ((with_reducible refine gate_dst (N := 2) rfl ?_); (try (refine gate_guard (by rfl) ?_; dsimp only)); refine box_x (N := 2) (cs := #[.int .i64 0, .int .i64 0]) (t := 56) ?_; intro gb220 hg w30 hbox hb; replace HO203 := Aside0.mk (Kd.R_below (Kd.R_x HO203.out) hb); replace HO207 := Aside0.mk (Kd.N_below (Kd.N_elderB (Kd.N_x HO207.out) gb220 (Nat.le_of_eq hg.symm)) hb); replace HO210 := Aside0.mk (Kd.R_below (Kd.R_x HO210.out) hb); replace HO213 := Aside0.mk (Kd.R_below (Kd.R_x HO213.out) hb); have BK220 := Aside0.mk (hbox); have GW220 := gw_x hg HB; have GE220 := GW220; replace HB := bl_x HB hb; have NB219_220 := nb_x hg BK219; have NB220_219 := nb_y hg BK219; replace BK219 := bk_x BK219 hb; clear hb hbox hg; have hnb31 := NB219_220.out; have hnc31 := NB220_219.out; obtain ⟨hfz32_0, _, _⟩ := cf2 BK219; obtain ⟨hfz33_0, _, _⟩ := cf2 BK220) | (refine goesG_x 52 rfl (some 18) Try.func52 #[] ?_; (with_reducible refine (swarflaw07_voyage.calls  t221 t222 t223 t224 t227 t228 t231 _ A3.out).mono ?_); rintro e w34 ⟨v225, v229, v232, rfl, ho0, ho1, ho2, hb⟩; refine ⟨_, rfl, ?_⟩; have HO226 := Aside0.mk (Kd.R_lower (Kd.R_new' (Kd.R_mono (ok' := fun k_ => True) ho0 (fun _ hk_ => trivial)) (Kd.R_lt (by (with_reducible repeat (first | apply Kd.R_alloc | apply Kd.R_drewN | apply Kd.R_drew)); exact (Kd.R_mono (Kd.R_mono (Kd.R_far (p := ⟨gb220, 1, none⟩) (Kd.R_far (p := ⟨gb220, 0, none⟩) (Kd.R_far (p := ⟨gb219, 1, none⟩) (Kd.R_far (p := ⟨gb219, 0, none⟩) (Kd.R_types (Kd.R_types HO203.out BK219.out (by decide)) BK220.out (by decide)) (fun _ hk => hk.1.2) (.int .i64 t214)) (fun _ hk => hk.1.2) (.int .i64 t215)) (fun _ hk => hk.2) (.int .i64 t216)) (fun _ hk => hk.2) (.int .i64 t217)) (fun _ h_ => h_.1)) (fun _ h_ => h_.1))))) (below_size (by exact below_y HB.out))); have HO230 := Aside0.mk (Kd.N_lower (Kd.N_mono (ok' := fun k_ => some k_ ≠ (v225 : Value).ownBlock ∧ some k_ ≠ (v232 : Value).ownBlock ∧ some k_ ≠ (.slice Ao24 t201.length co24 : Value).ownBlock ∧ some k_ ≠ (.slice Ao25 t205.length co25 : Value).ownBlock ∧ some k_ ≠ (.slice Ao26 t208.length co26 : Value).ownBlock ∧ some k_ ≠ (.slice Ao27 y211.length co27 : Value).ownBlock ∧ k_ ≠ gb219 ∧ k_ ≠ gb220) ho1 (fun k_ hk_ => ⟨hk_.2.1, hk_.2.2, (Kd.fresh' (Kd.R_lt (by (with_reducible repeat (first | apply Kd.R_alloc | apply Kd.R_drewN | apply Kd.R_drew)); exact (Kd.R_mono (Kd.R_mono (Kd.R_far (p := ⟨gb220, 1, none⟩) (Kd.R_far (p := ⟨gb220, 0, none⟩) (Kd.R_far (p := ⟨gb219, 1, none⟩) (Kd.R_far (p := ⟨gb219, 0, none⟩) (Kd.R_types (Kd.R_types HO203.out BK219.out (by decide)) BK220.out (by decide)) (fun _ hk => hk.1.2) (.int .i64 t214)) (fun _ hk => hk.1.2) (.int .i64 t215)) (fun _ hk => hk.2) (.int .i64 t216)) (fun _ hk => hk.2) (.int .i64 t217)) (fun _ h_ => h_.1)) (fun _ h_ => h_.1)))) k_ hk_.1), (Kd.fresh' (Kd.N_lt (by (with_reducible repeat (first | apply Kd.N_alloc | apply Kd.N_drewN | apply Kd.N_drew)); exact (Kd.N_mono (Kd.N_mono (Kd.N_far (p := ⟨gb220, 1, none⟩) (Kd.N_far (p := ⟨gb220, 0, none⟩) (Kd.N_far (p := ⟨gb219, 1, none⟩) (Kd.N_far (p := ⟨gb219, 0, none⟩) (Kd.N_mono (Kd.N_mono HO207.out (fun k_ hk => (⟨hk, hk.1.2⟩ : _ ∧ k_ ≠ gb219))) (fun k_ hk => (⟨hk, hk.1.2⟩ : _ ∧ k_ ≠ gb220))) (fun _ hk => hk.1.2) (.int .i64 t214)) (fun _ hk => hk.1.2) (.int .i64 t215)) (fun _ hk => hk.2) (.int .i64 t216)) (fun _ hk => hk.2) (.int .i64 t217)) (fun _ h_ => h_.1)) (fun _ h_ => h_.1)))) k_ hk_.1), (Kd.fresh' (Kd.R_lt (by (with_reducible repeat (first | apply Kd.R_alloc | apply Kd.R_drewN | apply Kd.R_drew)); exact (Kd.R_mono (Kd.R_mono (Kd.R_far (p := ⟨gb220, 1, none⟩) (Kd.R_far (p := ⟨gb220, 0, none⟩) (Kd.R_far (p := ⟨gb219, 1, none⟩) (Kd.R_far (p := ⟨gb219, 0, none⟩) (Kd.R_types (Kd.R_types HO210.out BK219.out (by decide)) BK220.out (by decide)) (fun _ hk => hk.1.2) (.int .i64 t214)) (fun _ hk => hk.1.2) (.int .i64 t215)) (fun _ hk => hk.2) (.int .i64 t216)) (fun _ hk => hk.2) (.int .i64 t217)) (fun _ h_ => h_.1)) (fun _ h_ => h_.1)))) k_ hk_.1), (Kd.fresh' (Kd.R_lt (by (with_reducible repeat (first | apply Kd.R_alloc | apply Kd.R_drewN | apply Kd.R_drew)); exact (Kd.R_mono (Kd.R_mono (Kd.R_far (p := ⟨gb220, 1, none⟩) (Kd.R_far (p := ⟨gb220, 0, none⟩) (Kd.R_far (p := ⟨gb219, 1, none⟩) (Kd.R_far (p := ⟨gb219, 0, none⟩) (Kd.R_types (Kd.R_types HO213.out BK219.out (by decide)) BK220.out (by decide)) (fun _ hk => hk.1.2) (.int .i64 t214)) (fun _ hk => hk.1.2) (.int .i64 t215)) (fun _ hk => hk.2) (.int .i64 t216)) (fun _ hk => hk.2) (.int .i64 t217)) (fun _ h_ => h_.1)) (fun _ h_ => h_.1)))) k_ hk_.1), (Kd.freshB (g := gb219) (o := .cells #[.int .i64 t214, .int .i64 t215] 56 (0, 0)) (blk_z BK219.out) k_ hk_.1), (Kd.freshB (g := gb220) (o := .cells #[.int .i64 t216, .int .i64 t217] 56 (0, 0)) (by (with_reducible repeat (first | refine blk_drewN ?_ _ | refine blk_drew ?_ | refine blk_alloc ?_ _)); refine blk_put (cs := #[.int .i64 t216, .int .i64 0]) ?_ 1 _ rfl; (with_reducible repeat (first | refine blk_drewN ?_ _ | refine blk_drew ?_ | refine blk_alloc ?_ _)); refine blk_put (cs := #[.int .i64 0, .int .i64 0]) ?_ 0 _ rfl; exact blk_w BK220.out) k_ hk_.1)⟩)) (below_size (by exact below_y HB.out))); replace HO203 := Aside0.mk (Kd.R_elder' (by (with_reducible repeat (first | apply Kd.R_alloc | apply Kd.R_drewN | apply Kd.R_drew)); exact (Kd.R_mono (Kd.R_mono (Kd.R_far (p := ⟨gb220, 1, none⟩) (Kd.R_far (p := ⟨gb220, 0, none⟩) (Kd.R_far (p := ⟨gb219, 1, none⟩) (Kd.R_far (p := ⟨gb219, 0, none⟩) (Kd.R_types (Kd.R_types HO203.out BK219.out (by decide)) BK220.out (by decide)) (fun _ hk => hk.1.2) (.int .i64 t214)) (fun _ hk => hk.1.2) (.int .i64 t215)) (fun _ hk => hk.2) (.int .i64 t216)) (fun _ hk => hk.2) (.int .i64 t217)) (fun _ h_ => h_.1)) (fun _ h_ => h_.1))) (Kd.R_base ho0) hb); replace HO207 := Aside0.mk (Kd.N_mono (Kd.N_told (Kd.N_told (Kd.N_told (Kd.N_old (by (with_reducible repeat (first | apply Kd.N_alloc | apply Kd.N_drewN | apply Kd.N_drew)); exact (Kd.N_mono (Kd.N_mono (Kd.N_far (p := ⟨gb220, 1, none⟩) (Kd.N_far (p := ⟨gb220, 0, none⟩) (Kd.N_far (p := ⟨gb219, 1, none⟩) (Kd.N_far (p := ⟨gb219, 0, none⟩) (Kd.N_mono (Kd.N_mono HO207.out (fun k_ hk => (⟨hk, hk.1.2⟩ : _ ∧ k_ ≠ gb219))) (fun k_ hk => (⟨hk, hk.1.2⟩ : _ ∧ k_ ≠ gb220))) (fun _ hk => hk.1.2) (.int .i64 t214)) (fun _ hk => hk.1.2) (.int .i64 t215)) (fun _ hk => hk.2) (.int .i64 t216)) (fun _ hk => hk.2) (.int .i64 t217)) (fun _ h_ => h_.1)) (fun _ h_ => h_.1))) hb) (Kd.R_base ho0)) (Kd.N_base ho1)) (Kd.R_base ho2)) (fun _ h_ => h_.1)); replace HO213 := Aside0.mk (Kd.R_below (by (with_reducible repeat (first | apply Kd.R_alloc | apply Kd.R_drewN | apply Kd.R_drew)); exact (Kd.R_mono (Kd.R_mono (Kd.R_far (p := ⟨gb220, 1, none⟩) (Kd.R_far (p := ⟨gb220, 0, none⟩) (Kd.R_far (p := ⟨gb219, 1, none⟩) (Kd.R_far (p := ⟨gb219, 0, none⟩) (Kd.R_types (Kd.R_types HO213.out BK219.out (by decide)) BK220.out (by decide)) (fun _ hk => hk.1.2) (.int .i64 t214)) (fun _ hk => hk.1.2) (.int .i64 t215)) (fun _ hk => hk.2) (.int .i64 t216)) (fun _ hk => hk.2) (.int .i64 t217)) (fun _ h_ => h_.1)) (fun _ h_ => h_.1))) hb); have HO233 := Aside0.mk (Kd.R_lower (Kd.R_new' (Kd.R_mono (ok' := fun k_ => True) ho2 (fun _ hk_ => trivial)) (Kd.R_lt (by (with_reducible repeat (first | apply Kd.R_alloc | apply Kd.R_drewN | apply Kd.R_drew)); exact (Kd.R_mono (Kd.R_mono (Kd.R_far (p := ⟨gb220, 1, none⟩) (Kd.R_far (p := ⟨gb220, 0, none⟩) (Kd.R_far (p := ⟨gb219, 1, none⟩) (Kd.R_far (p := ⟨gb219, 0, none⟩) (Kd.R_types (Kd.R_types HO210.out BK219.out (by decide)) BK220.out (by decide)) (fun _ hk => hk.1.2) (.int .i64 t214)) (fun _ hk => hk.1.2) (.int .i64 t215)) (fun _ hk => hk.2) (.int .i64 t216)) (fun _ hk => hk.2) (.int .i64 t217)) (fun _ h_ => h_.1)) (fun _ h_ => h_.1))))) (below_size (by exact below_y HB.out))); replace HO210 := Aside0.mk (Kd.R_elder' (by (with_reducible repeat (first | apply Kd.R_alloc | apply Kd.R_drewN | apply Kd.R_drew)); exact (Kd.R_mono (Kd.R_mono (Kd.R_far (p := ⟨gb220, 1, none⟩) (Kd.R_far (p := ⟨gb220, 0, none⟩) (Kd.R_far (p := ⟨gb219, 1, none⟩) (Kd.R_far (p := ⟨gb219, 0, none⟩) (Kd.R_types (Kd.R_types HO210.out BK219.out (by decide)) BK220.out (by decide)) (fun _ hk => hk.1.2) (.int .i64 t214)) (fun _ hk => hk.1.2) (.int .i64 t215)) (fun _ hk => hk.2) (.int .i64 t216)) (fun _ hk => hk.2) (.int .i64 t217)) (fun _ h_ => h_.1)) (fun _ h_ => h_.1))) (Kd.R_base ho2) hb); replace BK219 := Aside0.mk (blk_below (g := gb219) (o := .cells #[.int .i64 t214, .int .i64 t215] 56 (0, 0)) (blk_z BK219.out) hb); replace BK220 := Aside0.mk (blk_below (g := gb220) (o := .cells #[.int .i64 t216, .int .i64 t217] 56 (0, 0)) (by (with_reducible repeat (first | refine blk_drewN ?_ _ | refine blk_drew ?_ | refine blk_alloc ?_ _)); refine blk_put (cs := #[.int .i64 t216, .int .i64 0]) ?_ 1 _ rfl; (with_reducible repeat (first | refine blk_drewN ?_ _ | refine blk_drew ?_ | refine blk_alloc ?_ _)); refine blk_put (cs := #[.int .i64 0, .int .i64 0]) ?_ 0 _ rfl; exact blk_w BK220.out) hb); replace HB := bl_x HB hb; (try clear hb); (try clear hk); (try clear hi); (try clear ho0); (try clear ho1); (try clear ho2)) | ((with_reducible refine gate_dst (N := 19) rfl ?_); (try (refine gate_guard (by rfl) ?_; dsimp only)); refine Kd.R_lit (Kd.int .i64) _ 3 ?hg (N := 19) ?hd (xs := ([0, 1, (-1)] : List Int)) (inner := [.int .i64 0, .int .i64 1, .int .i64 (-1)]) (ok := fun _ => True) (okp := fun _ => True) ?hr ?hp (fun _ hk => hk) trivial (Below.refl _ _) (Nat.le_refl _) (by simp) ?_; (case hd => rfl); (case hg => rfl); (case hr => first | (go_simp; done) | (go_simp; rfl)); (case hp => exact (Reps.one (show Kd.M (Kd.int .i64) _ _ _ 0 [.int .i64 0] from rfl) (Reps.one (show Kd.M (Kd.int .i64) _ _ _ 1 [.int .i64 1] from rfl) (Reps.one (show Kd.M (Kd.int .i64) _ _ _ (-1) [.int .i64 (-1)] from rfl) (Reps.none _ _))))); intro v235 w35 ho36 hb hg_ hnew_; clear hg_ hnew_; (first | rw [← Ny234.out] at ho36 | (simp only [Int.reduceToNat] at ho36; rw [← Ny234.out] at ho36)); replace HO203 := Aside0.mk (Kd.R_below (Kd.R_x HO203.out) hb); replace HO207 := Aside0.mk (Kd.N_elder' (Kd.N_x HO207.out) (Kd.R_base ho36) hb); replace HO210 := Aside0.mk (Kd.R_below (Kd.R_x HO210.out) hb); replace HO226 := Aside0.mk (Kd.R_below (Kd.R_x HO226.out) hb); replace HO230 := Aside0.mk (Kd.N_elder' (Kd.N_x HO230.out) (Kd.R_base ho36) hb); replace HO233 := Aside0.mk (Kd.R_below (Kd.R_x HO233.out) hb); have HO236 := Aside0.mk (Kd.R_lower (Kd.R_new' ho36 (Kd.R_lt (Kd.R_x HO213.out))) (below_size (by exact below_y HB.out))); replace HO213 := Aside0.mk (Kd.R_elder' (Kd.R_x HO213.out) (Kd.R_base ho36) hb); replace BK219 := bk_x BK219 hb; replace BK220 := bk_x BK220 hb; replace HB := bl_x HB hb; clear hb ho36; obtain ⟨Ao37, co37, eo37⟩ := Kd.R_slice HO226.out; subst eo37; obtain ⟨Ao38, co38, eo38⟩ := Kd.N_slice HO230.out; subst eo38; obtain ⟨Ao39, co39, eo39⟩ := Kd.R_slice HO233.out; subst eo39; obtain ⟨Ao40, co40, eo40⟩ := Kd.R_slice HO236.out; subst eo40) | (refine goesG_x 22 rfl (some 20) Try.func22 #[.agg #[.int .i64 t221, .int .i64 t222, .int .i64 t223, .slice Ao37 t224.length co37, .int .i64 t227, .slice Ao38 t228.length co38, .slice Ao39 t231.length co39], .slice Ao40 y234.length co40] ?_; (with_reducible refine (ship_Sail.calls t221 t222 t223 _ _ t224 t227 _ _ t228 _ _ t231 _ _ y234 t237 t238 t241 _ ?side1 ?side2 ?side3 ?side4 ?side5 ?side6 ?side7 ?side8 A4.out).mono ?_); (case side1 => exact Kd.C_y (Kd.R_reads' HO226.out).2.2); (case side2 => exact (Kd.R_reads' HO226.out).2.1); (case side3 => exact Kd.C_y (Kd.N_reads' HO230.out).2.2); (case side4 => exact (Kd.N_reads' HO230.out).2.1); (case side5 => exact Kd.C_y (Kd.R_reads' HO233.out).2.2); (case side6 => exact (Kd.R_reads' HO233.out).2.1); (case side7 => exact Kd.C_y (Kd.R_reads' HO236.out).2.2); (case side8 => exact (Kd.R_reads' HO236.out).2.1); rintro e w41 ⟨v239, rfl, ho0, hb⟩; refine ⟨_, rfl, ?_⟩; replace HO203 := Aside0.mk (Kd.R_below (Kd.R_x HO203.out) hb); replace HO207 := Aside0.mk (Kd.N_elder' (Kd.N_x HO207.out) (Kd.R_base ho0) hb); replace HO210 := Aside0.mk (Kd.R_below (Kd.R_x HO210.out) hb); replace HO213 := Aside0.mk (Kd.R_below (Kd.R_x HO213.out) hb); replace HO226 := Aside0.mk (Kd.R_below (Kd.R_x HO226.out) hb); replace HO230 := Aside0.mk (Kd.N_elder' (Kd.N_x HO230.out) (Kd.R_base ho0) hb); replace HO233 := Aside0.mk (Kd.R_below (Kd.R_x HO233.out) hb); replace HO236 := Aside0.mk (Kd.R_below (Kd.R_x HO236.out) hb); have HO240 := Aside0.mk (Kd.R_lower (Kd.R_newB (Kd.R_newB ho0 (g := gb219) (o := .cells #[.int .i64 t214, .int .i64 t215] 56 (0, 0)) (blk_x BK219.out)) (g := gb220) (o := .cells #[.int .i64 t216, .int .i64 t217] 56 (0, 0)) (blk_x BK220.out)) (below_size (by exact below_y HB.out))); replace BK219 := bk_x BK219 hb; replace BK220 := bk_x BK220 hb; replace HB := bl_x HB hb; (try clear hb); (try clear hk); (try clear hi); (try clear ho0)) | (refine goesG_x 52 rfl (some 25) Try.func52 #[] ?_; (with_reducible refine (swarflaw07_voyage.calls  t242 t243 t244 t245 t248 t249 t252 _ A5.out).mono ?_); rintro e w42 ⟨v246, v250, v253, rfl, ho0, ho1, ho2, hb⟩; refine ⟨_, rfl, ?_⟩; have HO247 := Aside0.mk (Kd.R_lower (Kd.R_new' (Kd.R_new' (Kd.R_mono (ok' := fun k_ => True) ho0 (fun _ hk_ => trivial)) (Kd.R_lt (Kd.R_x HO203.out))) (Kd.R_lt (Kd.R_x HO226.out))) (below_size (by exact below_y HB.out))); have HO251 := Aside0.mk (Kd.N_lower (Kd.N_mono (ok' := fun k_ => some k_ ≠ (v246 : Value).ownBlock ∧ some k_ ≠ (v253 : Value).ownBlock ∧ some k_ ≠ (.slice Ao24 t201.length co24 : Value).ownBlock ∧ some k_ ≠ (.slice Ao25 t205.length co25 : Value).ownBlock ∧ some k_ ≠ (.slice Ao26 t208.length co26 : Value).ownBlock ∧ some k_ ≠ (.slice Ao27 y211.length co27 : Value).ownBlock ∧ some k_ ≠ (.slice Ao37 t224.length co37 : Value).ownBlock ∧ some k_ ≠ (.slice Ao38 t228.length co38 : Value).ownBlock ∧ some k_ ≠ (.slice Ao39 t231.length co39 : Value).ownBlock ∧ some k_ ≠ (.slice Ao40 y234.length co40 : Value).ownBlock ∧ some k_ ≠ (v239 : Value).ownBlock ∧ k_ ≠ gb219 ∧ k_ ≠ gb220) ho1 (fun k_ hk_ => ⟨hk_.2.1, hk_.2.2, (Kd.fresh' (Kd.R_lt (Kd.R_x HO203.out)) k_ hk_.1), (Kd.fresh' (Kd.N_lt (Kd.N_x HO207.out)) k_ hk_.1), (Kd.fresh' (Kd.R_lt (Kd.R_x HO210.out)) k_ hk_.1), (Kd.fresh' (Kd.R_lt (Kd.R_x HO213.out)) k_ hk_.1), (Kd.fresh' (Kd.R_lt (Kd.R_x HO226.out)) k_ hk_.1), (Kd.fresh' (Kd.N_lt (Kd.N_x HO230.out)) k_ hk_.1), (Kd.fresh' (Kd.R_lt (Kd.R_x HO233.out)) k_ hk_.1), (Kd.fresh' (Kd.R_lt (Kd.R_x HO236.out)) k_ hk_.1), (Kd.fresh' (Kd.R_lt (Kd.R_x HO240.out)) k_ hk_.1), (Kd.freshB (g := gb219) (o := .cells #[.int .i64 t214, .int .i64 t215] 56 (0, 0)) (blk_x BK219.out) k_ hk_.1), (Kd.freshB (g := gb220) (o := .cells #[.int .i64 t216, .int .i64 t217] 56 (0, 0)) (blk_x BK220.out) k_ hk_.1)⟩)) (below_size (by exact below_y HB.out))); replace HO203 := Aside0.mk (Kd.R_elder' (Kd.R_x HO203.out) (Kd.R_base ho0) hb); replace HO207 := Aside0.mk (Kd.N_mono (Kd.N_told (Kd.N_told (Kd.N_told (Kd.N_old (Kd.N_x HO207.out) hb) (Kd.R_base ho0)) (Kd.N_base ho1)) (Kd.R_base ho2)) (fun _ h_ => h_.1)); replace HO213 := Aside0.mk (Kd.R_below (Kd.R_x HO213.out) hb); replace HO226 := Aside0.mk (Kd.R_elder' (Kd.R_x HO226.out) (Kd.R_base ho0) hb); replace HO230 := Aside0.mk (Kd.N_mono (Kd.N_told (Kd.N_told (Kd.N_told (Kd.N_old (Kd.N_x HO230.out) hb) (Kd.R_base ho0)) (Kd.N_base ho1)) (Kd.R_base ho2)) (fun _ h_ => h_.1)); replace HO236 := Aside0.mk (Kd.R_below (Kd.R_x HO236.out) hb); replace HO240 := Aside0.mk (Kd.R_below (Kd.R_x HO240.out) hb); have HO254 := Aside0.mk (Kd.R_lower (Kd.R_new' (Kd.R_new' (Kd.R_mono (ok' := fun k_ => True) ho2 (fun _ hk_ => trivial)) (Kd.R_lt (Kd.R_x HO210.out))) (Kd.R_lt (Kd.R_x HO233.out))) (below_size (by exact below_y HB.out))); replace HO210 := Aside0.mk (Kd.R_elder' (Kd.R_x HO210.out) (Kd.R_base ho2) hb); replace HO233 := Aside0.mk (Kd.R_elder' (Kd.R_x HO233.out) (Kd.R_base ho2) hb); replace BK219 := bk_x BK219 hb; replace BK220 := bk_x BK220 hb; replace HB := bl_x HB hb; (try clear hb); (try clear hk); (try clear hi); (try clear ho0); (try clear ho1); (try clear ho2); obtain ⟨Ao43, co43, eo43⟩ := Kd.R_slice HO247.out; subst eo43; obtain ⟨Ao44, co44, eo44⟩ := Kd.N_slice HO251.out; subst eo44; obtain ⟨Ao45, co45, eo45⟩ := Kd.R_slice HO254.out; subst eo45) | (refine goesG_x 28 rfl (some 26) Try.func28 #[.agg #[.int .i64 t242, .int .i64 t243, .int .i64 t244, .slice Ao43 t245.length co43, .int .i64 t248, .slice Ao44 t249.length co44, .slice Ao45 t252.length co45]] ?_; (with_reducible refine (ship_Best.calls t242 t243 t244 _ _ t245 t248 _ _ t249 _ _ t252 t255 t258 t259 _ ?side1 ?side2 ?side3 ?side4 ?side5 ?side6 A6.out).mono ?_); (case side1 => exact Kd.C_y (Kd.R_reads' HO247.out).2.2); (case side2 => exact (Kd.R_reads' HO247.out).2.1); (case side3 => exact Kd.C_y (Kd.N_reads' HO251.out).2.2); (case side4 => exact (Kd.N_reads' HO251.out).2.1); (case side5 => exact Kd.C_y (Kd.R_reads' HO254.out).2.2); (case side6 => exact (Kd.R_reads' HO254.out).2.1); rintro e w46 ⟨v256, rfl, ho0, hb⟩; refine ⟨_, rfl, ?_⟩; replace HO203 := Aside0.mk (Kd.R_below (Kd.R_x HO203.out) hb); replace HO207 := Aside0.mk (Kd.N_elder' (Kd.N_x HO207.out) (Kd.R_base ho0) hb); replace HO210 := Aside0.mk (Kd.R_below (Kd.R_x HO210.out) hb); replace HO226 := Aside0.mk (Kd.R_below (Kd.R_x HO226.out) hb); replace HO230 := Aside0.mk (Kd.N_elder' (Kd.N_x HO230.out) (Kd.R_base ho0) hb); replace HO233 := Aside0.mk (Kd.R_below (Kd.R_x HO233.out) hb); replace HO240 := Aside0.mk (Kd.R_below (Kd.R_x HO240.out) hb); replace HO247 := Aside0.mk (Kd.R_below (Kd.R_x HO247.out) hb); replace HO251 := Aside0.mk (Kd.N_elder' (Kd.N_x HO251.out) (Kd.R_base ho0) hb); replace HO254 := Aside0.mk (Kd.R_below (Kd.R_x HO254.out) hb); have HO257 := Aside0.mk (Kd.R_lower (Kd.R_new' (Kd.R_new' ho0 (Kd.R_lt (Kd.R_x HO213.out))) (Kd.R_lt (Kd.R_x HO236.out))) (below_size (by exact below_y HB.out))); replace HO213 := Aside0.mk (Kd.R_elder' (Kd.R_x HO213.out) (Kd.R_base ho0) hb); replace HO236 := Aside0.mk (Kd.R_elder' (Kd.R_x HO236.out) (Kd.R_base ho0) hb); replace BK219 := bk_x BK219 hb; replace BK220 := bk_x BK220 hb; replace HB := bl_x HB hb; (try clear hb); (try clear hk); (try clear hi); (try clear ho0)))
         replace HO203 := Aside0.mk (Kd.R_drew HO203.out); replace HO207 := Aside0.mk (Kd.N_drew HO207.out); replace HO210 := Aside0.mk (Kd.R_drew HO210.out); replace HO213 := Aside0.mk (Kd.R_drew HO213.out); replace HO226 := Aside0.mk (Kd.R_drew HO226.out); replace HO230 := Aside0.mk (Kd.N_drew HO230.out); replace HO233 := Aside0.mk (Kd.R_drew HO233.out); replace HO236 := Aside0.mk (Kd.R_drew HO236.out); replace HO240 := Aside0.mk (Kd.R_drew HO240.out); replace HO247 := Aside0.mk (Kd.R_drew HO247.out); replace HO251 := Aside0.mk (Kd.N_drew HO251.out); replace HO254 := Aside0.mk (Kd.R_drew HO254.out); replace HO257 := Aside0.mk (Kd.R_drew HO257.out); replace BK219 := Aside0.mk (blk_drew BK219.out); replace BK220 := Aside0.mk (blk_drew BK220.out); replace HB := Aside0.mk (below_drew1 HB.out); refine start_ (n := 41) (S := fun w' => w'.cell? ⟨gb219, 0, none⟩ = some (.int .i64 t214) ∧ w'.cell? ⟨gb219, 1, none⟩ = some (.int .i64 t215) ∧ w'.cell? ⟨gb220, 0, none⟩ = some (.int .i64 t216) ∧ w'.cell? ⟨gb220, 1, none⟩ = some (.int .i64 t217)) (ds := []) #[false, false, false, false, false, false, false, false, false, false, false, false, false, false, false, false, false, false, false, false, false, false, false, false, false, false, false, false, false, false, false, false, false, false, false, false, false, false, false, false, false] (by kernel_rfl) rfl rfl ⟨(blk_cell BK219.out 0).trans rfl, (blk_cell BK219.out 1).trans rfl, (blk_cell BK220.out 0).trans rfl, (blk_cell BK220.out 1).trans rfl⟩ (fun hHeld => ?_); refine with_tabW swarflaw07_awake.tab4 swarflaw07_awake.bits4 (fun HT_ HW_ => ?_); generalize w46.drew = w47 at HO203 HO207 HO210 HO213 HO226 HO230 HO233 HO236 HO240 HO247 HO251 HO254 HO257 BK219 BK220 HB hHeld ⊢; refine pure_t 0 (some 30) (bz 41 1) HT_ ?_; refine pure_t 1 (some 31) (bz 41 3) HT_ ?_; refine pure_t 2 (some 32) (bz 41 7) HT_ ?_; refine pure_t 3 (some 33) (bz 41 15) HT_ ?_; refine pure_t 4 (some 34) (bz 41 31) HT_ ?_; refine pure_t 5 (some 35) (bz 41 63) HT_ ?_; refine pure_t 6 (some 36) (bz 41 127) HT_ ?_; refine pure_t 7 (some 37) (bz 41 255) HT_ ?_; refine pure_t 8 (some 38) (bz 41 511) HT_ ?_; refine pure_t 9 (some 39) (bz 41 1023) HT_ ?_; refine pure_t 10 (some 40) (bz 41 2047) HT_ ?_; refine take_t 11 (some 41) (bz 41 4095) HT_ HW_ hHeld ?_; (refine one_t 12 (some 42) (bz 41 8191) HT_ fun K hK => ?_); refine goes_x Try.func32 #[.int .i64 1290000, .int .i64 1340000] ?_
         with_reducible refine (swarflaw07_rng.calls 1290000 1340000 t260 t261 _ A10.out).mono ?_
         rintro e w48 ⟨rfl, hb⟩; refine ⟨_, rfl, ?_⟩; replace HO203 := Aside0.mk (Kd.R_below (Kd.R_x HO203.out) hb); replace HO207 := Aside0.mk (Kd.N_below (Kd.N_x HO207.out) hb); replace HO210 := Aside0.mk (Kd.R_below (Kd.R_x HO210.out) hb); replace HO213 := Aside0.mk (Kd.R_below (Kd.R_x HO213.out) hb); replace HO226 := Aside0.mk (Kd.R_below (Kd.R_x HO226.out) hb); replace HO230 := Aside0.mk (Kd.N_below (Kd.N_x HO230.out) hb); replace HO233 := Aside0.mk (Kd.R_below (Kd.R_x HO233.out) hb); replace HO236 := Aside0.mk (Kd.R_below (Kd.R_x HO236.out) hb); replace HO240 := Aside0.mk (Kd.R_below (Kd.R_x HO240.out) hb); replace HO247 := Aside0.mk (Kd.R_below (Kd.R_x HO247.out) hb); replace HO251 := Aside0.mk (Kd.N_below (Kd.N_x HO251.out) hb); replace HO254 := Aside0.mk (Kd.R_below (Kd.R_x HO254.out) hb); replace HO257 := Aside0.mk (Kd.R_below (Kd.R_x HO257.out) hb); replace BK219 := bk_x BK219 hb; replace BK220 := bk_x BK220 hb; replace HB := bl_x HB hb
         (try clear hb)
         (try clear hb2)
         (try clear hk)
         (try clear hi)
         refine hK.out _ _ ⟨(blk_cell BK219.out 0).trans rfl, (blk_cell BK219.out 1).trans rfl, (blk_cell BK220.out 0).trans rfl, (blk_cell BK220.out 1).trans rfl⟩ (fun hHeld => ?_); clear hK K; refine norm_y (some 42) ?_; refine pure_t 13 (some 43) (bz 41 16383) HT_ ?_; refine pure_t 14 (some 44) (bz 41 32767) HT_ ?_; refine pure_t 15 (some 45) (bz 41 65535) HT_ ?_; refine take_t 16 (some 46) (bz 41 131071) HT_ HW_ hHeld ?_; (refine one_t 17 (some 47) (bz 41 262143) HT_ fun K hK => ?_); refine goes_x Try.func32 #[.int .i64 1260000, .int .i64 1310000] ?_
         with_reducible refine (swarflaw07_rng.calls 1260000 1310000 t262 t263 _ A12.out).mono ?_
         rintro e w49 ⟨rfl, hb⟩; refine ⟨_, rfl, ?_⟩; replace HO203 := Aside0.mk (Kd.R_below (Kd.R_x HO203.out) hb); replace HO207 := Aside0.mk (Kd.N_below (Kd.N_x HO207.out) hb); replace HO210 := Aside0.mk (Kd.R_below (Kd.R_x HO210.out) hb); replace HO213 := Aside0.mk (Kd.R_below (Kd.R_x HO213.out) hb); replace HO226 := Aside0.mk (Kd.R_below (Kd.R_x HO226.out) hb); replace HO230 := Aside0.mk (Kd.N_below (Kd.N_x HO230.out) hb); replace HO233 := Aside0.mk (Kd.R_below (Kd.R_x HO233.out) hb); replace HO236 := Aside0.mk (Kd.R_below (Kd.R_x HO236.out) hb); replace HO240 := Aside0.mk (Kd.R_below (Kd.R_x HO240.out) hb); replace HO247 := Aside0.mk (Kd.R_below (Kd.R_x HO247.out) hb); replace HO251 := Aside0.mk (Kd.N_below (Kd.N_x HO251.out) hb); replace HO254 := Aside0.mk (Kd.R_below (Kd.R_x HO254.out) hb); replace HO257 := Aside0.mk (Kd.R_below (Kd.R_x HO257.out) hb); replace BK219 := bk_x BK219 hb; replace BK220 := bk_x BK220 hb; replace HB := bl_x HB hb
         (try clear hb)
         (try clear hb2)
         (try clear hk)
         (try clear hi)
         refine hK.out _ _ ⟨(blk_cell BK219.out 0).trans rfl, (blk_cell BK219.out 1).trans rfl, (blk_cell BK220.out 0).trans rfl, (blk_cell BK220.out 1).trans rfl⟩ (fun hHeld => ?_); clear hK K; refine norm_y (some 47) ?_; refine pure_t 18 (some 48) (bz 41 524287) HT_ ?_; refine pure_t 19 (some 49) (bz 41 1048575) HT_ ?_; refine pure_t 20 (some 50) (bz 41 2097151) HT_ ?_; refine pure_t 21 (some 51) (bz 41 4194303) HT_ ?_; refine pure_t 22 (some 52) (bz 41 8388607) HT_ ?_; refine pure_t 23 (some 53) (bz 41 16777215) HT_ ?_; refine pure_t 24 (some 54) (bz 41 33554431) HT_ ?_; refine pure_t 25 (some 55) (bz 41 67108863) HT_ ?_; refine pure_t 26 (some 56) (bz 41 134217727) HT_ ?_; refine pure_t 27 (some 57) (bz 41 268435455) HT_ ?_; refine pure_t 28 (some 58) (bz 41 536870911) HT_ ?_; refine pure_t 29 (some 59) (bz 41 1073741823) HT_ ?_; (refine one_t 30 (some 60) (bz 41 2147483647) HT_ fun K hK => ?_); refine Kd.R_lit_step (Kd.int .i64) _ 3 ?hg (N := 60) ?hd (xs := ([0, (-1), 1] : List Int)) (inner := [.int .i64 0, .int .i64 (-1), .int .i64 1]) (ok := fun _ => True) (okp := fun _ => True) ?hr ?hp (fun _ hk => hk) trivial (Below.refl _ _) (Nat.le_refl _) (by simp) ?_; (case hd => rfl); (case hg => rfl); (case hr => first | (go_simp; done) | (go_simp; rfl)); (case hp => exact (Reps.one (show Kd.M (Kd.int .i64) _ _ _ 0 [.int .i64 0] from rfl) (Reps.one (show Kd.M (Kd.int .i64) _ _ _ (-1) [.int .i64 (-1)] from rfl) (Reps.one (show Kd.M (Kd.int .i64) _ _ _ 1 [.int .i64 1] from rfl) (Reps.none _ _))))); intro v265 w50 ho51 hb hg_ hnew_; clear hg_ hnew_
         (first | rw [← Ny264.out] at ho51 | (simp only [Int.reduceToNat] at ho51; rw [← Ny264.out] at ho51))
         replace HO203 := Aside0.mk (Kd.R_below (Kd.R_x HO203.out) hb); replace HO207 := Aside0.mk (Kd.N_elder' (Kd.N_x HO207.out) (Kd.R_base ho51) hb); replace HO210 := Aside0.mk (Kd.R_below (Kd.R_x HO210.out) hb); replace HO226 := Aside0.mk (Kd.R_below (Kd.R_x HO226.out) hb); replace HO230 := Aside0.mk (Kd.N_elder' (Kd.N_x HO230.out) (Kd.R_base ho51) hb); replace HO233 := Aside0.mk (Kd.R_below (Kd.R_x HO233.out) hb); replace HO240 := Aside0.mk (Kd.R_below (Kd.R_x HO240.out) hb); replace HO247 := Aside0.mk (Kd.R_below (Kd.R_x HO247.out) hb); replace HO251 := Aside0.mk (Kd.N_elder' (Kd.N_x HO251.out) (Kd.R_base ho51) hb); replace HO254 := Aside0.mk (Kd.R_below (Kd.R_x HO254.out) hb); have HO266 := Aside0.mk (Kd.R_lower (Kd.R_new' (Kd.R_new' (Kd.R_new' ho51 (Kd.R_lt (Kd.R_x HO213.out))) (Kd.R_lt (Kd.R_x HO236.out))) (Kd.R_lt (Kd.R_x HO257.out))) (below_size (by exact below_y HB.out))); replace HO213 := Aside0.mk (Kd.R_elder' (Kd.R_x HO213.out) (Kd.R_base ho51) hb); replace HO236 := Aside0.mk (Kd.R_elder' (Kd.R_x HO236.out) (Kd.R_base ho51) hb); replace HO257 := Aside0.mk (Kd.R_elder' (Kd.R_x HO257.out) (Kd.R_base ho51) hb); replace BK219 := bk_x BK219 hb; replace BK220 := bk_x BK220 hb; replace HB := bl_x HB hb; clear hb ho51; obtain ⟨Ao52, co52, eo52⟩ := Kd.R_slice HO257.out
         (first | subst eo52 | (injection eo52 with f1_ f2_ f3_; have f4_ := f1_.symm; have f5_ := f3_.symm; clear f1_ f2_ f3_; subst f4_; subst f5_))
         obtain ⟨Ao53, co53, eo53⟩ := Kd.R_slice HO266.out
         (first | subst eo53 | (injection eo53 with f1_ f2_ f3_; have f4_ := f1_.symm; have f5_ := f3_.symm; clear f1_ f2_ f3_; subst f4_; subst f5_))
         refine hK.out _ _ ⟨(blk_cell BK219.out 0).trans rfl, (blk_cell BK219.out 1).trans rfl, (blk_cell BK220.out 0).trans rfl, (blk_cell BK220.out 1).trans rfl⟩ (fun hHeld => ?_); clear hK K; refine norm_y (some 60) ?_; (refine one_t 31 (some 61) (bz 41 4294967295) HT_ fun K hK => ?_); refine goes_x Try.func26 #[.slice Ao52 t255.length co52, .slice Ao53 y264.length co53] ?_
         with_reducible refine (swarfkit_EqualInts.calls k _ _ t255 _ _ y264 true _ ?side1 ?side2 ?side3 ?side4 A16.out).mono ?_
         (case side1 => exact Kd.C_y (Kd.R_reads' HO257.out).2.2)
         (case side2 => exact (Kd.R_reads' HO257.out).2.1)
         (case side3 => exact Kd.C_y (Kd.R_reads' HO266.out).2.2)
         (case side4 => exact (Kd.R_reads' HO266.out).2.1)
         rintro e w' ⟨rfl, ⟨nd, rfl⟩⟩; refine ⟨_, rfl, ?_⟩; refine hK.out _ _ ⟨(blk_cell BK219.out 0).trans rfl, (blk_cell BK219.out 1).trans rfl, (blk_cell BK220.out 0).trans rfl, (blk_cell BK220.out 1).trans rfl⟩ (fun hHeld => ?_); clear hK K; refine norm_y (some 61) ?_; refine pure_t 32 (some 62) (bz 41 8589934591) HT_ ?_; refine pure_t 33 (some 63) (bz 41 17179869183) HT_ ?_; refine pure_t 34 (some 64) (bz 41 34359738367) HT_ ?_; (refine one_t 35 (some 65) (bz 41 68719476735) HT_ fun K hK => ?_); refine goes_x Try.func32 #[.int .i64 90, .int .i64 100] ?_
         with_reducible refine (swarflaw07_rng.calls 90 100 t268 t269 _ A18.out).mono ?_
         rintro e w54 ⟨rfl, hb⟩; refine ⟨_, rfl, ?_⟩; replace HO203 := Aside0.mk (Kd.R_below (Kd.R_x HO203.out) hb); replace HO207 := Aside0.mk (Kd.N_below (Kd.N_x HO207.out) hb); replace HO210 := Aside0.mk (Kd.R_below (Kd.R_x HO210.out) hb); replace HO213 := Aside0.mk (Kd.R_below (Kd.R_x HO213.out) hb); replace HO226 := Aside0.mk (Kd.R_below (Kd.R_x HO226.out) hb); replace HO230 := Aside0.mk (Kd.N_below (Kd.N_x HO230.out) hb); replace HO233 := Aside0.mk (Kd.R_below (Kd.R_x HO233.out) hb); replace HO236 := Aside0.mk (Kd.R_below (Kd.R_x HO236.out) hb); replace HO240 := Aside0.mk (Kd.R_below (Kd.R_x HO240.out) hb); replace HO247 := Aside0.mk (Kd.R_below (Kd.R_x HO247.out) hb); replace HO251 := Aside0.mk (Kd.N_below (Kd.N_x HO251.out) hb); replace HO254 := Aside0.mk (Kd.R_below (Kd.R_x HO254.out) hb); replace HO257 := Aside0.mk (Kd.R_below (Kd.R_x HO257.out) hb); replace HO266 := Aside0.mk (Kd.R_below (Kd.R_x HO266.out) hb); replace BK219 := bk_x BK219 hb; replace BK220 := bk_x BK220 hb; replace HB := bl_x HB hb
         (try clear hb)
         (try clear hb2)
         (try clear hk)
         (try clear hi)
         refine hK.out _ _ ⟨(blk_cell BK219.out 0).trans rfl, (blk_cell BK219.out 1).trans rfl, (blk_cell BK220.out 0).trans rfl, (blk_cell BK220.out 1).trans rfl⟩ (fun hHeld => ?_); clear hK K; refine norm_y (some 65) ?_; (refine one_t 36 (some 66) (bz 41 137438953471) HT_ fun K hK => ?_); refine goes_x Try.func32 #[.int .i64 240, .int .i64 250] ?_
         with_reducible refine (swarflaw07_rng.calls 240 250 t270 t271 _ A19.out).mono ?_
         rintro e w55 ⟨rfl, hb⟩; refine ⟨_, rfl, ?_⟩; replace HO203 := Aside0.mk (Kd.R_below (Kd.R_x HO203.out) hb); replace HO207 := Aside0.mk (Kd.N_below (Kd.N_x HO207.out) hb); replace HO210 := Aside0.mk (Kd.R_below (Kd.R_x HO210.out) hb); replace HO213 := Aside0.mk (Kd.R_below (Kd.R_x HO213.out) hb); replace HO226 := Aside0.mk (Kd.R_below (Kd.R_x HO226.out) hb); replace HO230 := Aside0.mk (Kd.N_below (Kd.N_x HO230.out) hb); replace HO233 := Aside0.mk (Kd.R_below (Kd.R_x HO233.out) hb); replace HO236 := Aside0.mk (Kd.R_below (Kd.R_x HO236.out) hb); replace HO240 := Aside0.mk (Kd.R_below (Kd.R_x HO240.out) hb); replace HO247 := Aside0.mk (Kd.R_below (Kd.R_x HO247.out) hb); replace HO251 := Aside0.mk (Kd.N_below (Kd.N_x HO251.out) hb); replace HO254 := Aside0.mk (Kd.R_below (Kd.R_x HO254.out) hb); replace HO257 := Aside0.mk (Kd.R_below (Kd.R_x HO257.out) hb); replace HO266 := Aside0.mk (Kd.R_below (Kd.R_x HO266.out) hb); replace BK219 := bk_x BK219 hb; replace BK220 := bk_x BK220 hb; replace HB := bl_x HB hb
         (try clear hb)
         (try clear hb2)
         (try clear hk)
         (try clear hi)
         refine hK.out _ _ ⟨(blk_cell BK219.out 0).trans rfl, (blk_cell BK219.out 1).trans rfl, (blk_cell BK220.out 0).trans rfl, (blk_cell BK220.out 1).trans rfl⟩ (fun hHeld => ?_); clear hK K; refine norm_y (some 66) ?_; (refine one_t 37 (some 67) (bz 41 274877906943) HT_ fun K hK => ?_); refine Kd.R_lit_step k56 _ 56 ?hg (N := 67) ?hd (xs := ([(⟨t268, t269⟩ : S56), (⟨t270, t271⟩ : S56)] : List (S56))) (inner := [.int .i64 t268, .int .i64 t269, .int .i64 t270, .int .i64 t271]) (ok := fun _ => True) (okp := fun _ => True) ?hr ?hp (fun _ hk => hk) trivial (Below.refl _ _) (Nat.le_refl _) (by simp) ?_; (case hd => rfl); (case hg => rfl); (case hr => first | (go_simp; done) | (go_simp; rfl)); (case hp => exact (Reps.c2 (show Kd.M k56 _ _ _ (⟨t268, t269⟩ : S56) [.int .i64 t268, .int .i64 t269] from (k56_mkM _ _ _ (⟨t268, t269⟩ : S56) )) (Reps.c2 (show Kd.M k56 _ _ _ (⟨t270, t271⟩ : S56) [.int .i64 t270, .int .i64 t271] from (k56_mkM _ _ _ (⟨t270, t271⟩ : S56) )) (Reps.none _ _)))); intro v273 w56 ho57 hb hg_ hnew_; clear hg_ hnew_
         (first | rw [← Ny272.out] at ho57 | (simp only [Int.reduceToNat] at ho57; rw [← Ny272.out] at ho57))
         replace HO203 := Aside0.mk (Kd.R_below (Kd.R_x HO203.out) hb); replace HO207 := Aside0.mk (Kd.N_elder' (Kd.N_x HO207.out) (Kd.R_base ho57) hb); replace HO210 := Aside0.mk (Kd.R_below (Kd.R_x HO210.out) hb); replace HO213 := Aside0.mk (Kd.R_below (Kd.R_x HO213.out) hb); replace HO226 := Aside0.mk (Kd.R_below (Kd.R_x HO226.out) hb); replace HO230 := Aside0.mk (Kd.N_elder' (Kd.N_x HO230.out) (Kd.R_base ho57) hb); replace HO233 := Aside0.mk (Kd.R_below (Kd.R_x HO233.out) hb); replace HO236 := Aside0.mk (Kd.R_below (Kd.R_x HO236.out) hb); replace HO247 := Aside0.mk (Kd.R_below (Kd.R_x HO247.out) hb); replace HO251 := Aside0.mk (Kd.N_elder' (Kd.N_x HO251.out) (Kd.R_base ho57) hb); replace HO254 := Aside0.mk (Kd.R_below (Kd.R_x HO254.out) hb); replace HO257 := Aside0.mk (Kd.R_below (Kd.R_x HO257.out) hb); replace HO266 := Aside0.mk (Kd.R_below (Kd.R_x HO266.out) hb); have HO274 := Aside0.mk (Kd.R_lower (Kd.R_newB (Kd.R_newB (Kd.R_new' ho57 (Kd.R_lt (Kd.R_x HO240.out))) (g := gb219) (o := .cells #[.int .i64 t214, .int .i64 t215] 56 (0, 0)) (blk_x BK219.out)) (g := gb220) (o := .cells #[.int .i64 t216, .int .i64 t217] 56 (0, 0)) (blk_x BK220.out)) (below_size (by exact below_y HB.out))); replace HO240 := Aside0.mk (Kd.R_elder' (Kd.R_x HO240.out) (Kd.R_base ho57) hb); replace BK219 := bk_x BK219 hb; replace BK220 := bk_x BK220 hb; replace HB := bl_x HB hb; clear hb ho57; obtain ⟨Ao58, co58, eo58⟩ := Kd.R_slice HO240.out
         (first | subst eo58 | (injection eo58 with f1_ f2_ f3_; have f4_ := f1_.symm; have f5_ := f3_.symm; clear f1_ f2_ f3_; subst f4_; subst f5_))
         obtain ⟨Ao59, co59, eo59⟩ := Kd.R_slice HO274.out
         (first | subst eo59 | (injection eo59 with f1_ f2_ f3_; have f4_ := f1_.symm; have f5_ := f3_.symm; clear f1_ f2_ f3_; subst f4_; subst f5_))
         refine hK.out _ _ ⟨(blk_cell BK219.out 0).trans rfl, (blk_cell BK219.out 1).trans rfl, (blk_cell BK220.out 0).trans rfl, (blk_cell BK220.out 1).trans rfl⟩ (fun hHeld => ?_); clear hK K; refine norm_y (some 67) ?_; (refine one_t 38 (some 68) (bz 41 549755813887) HT_ fun K hK => ?_); refine goes_x Try.func24 #[.slice Ao58 t238.length co58, .slice Ao59 y272.length co59] ?_
         with_reducible refine (swarfkit_EqualRanges.calls k _ _ t238 _ _ y272 t275 _ ?side1 ?side2 ?side3 ?side4 A20.out).mono ?_
         (case side1 => exact Kd.C_y (Kd.R_reads' HO240.out).2.2)
         (case side2 => exact (Kd.R_reads' HO240.out).2.1)
         (case side3 => exact Kd.C_y (Kd.R_reads' HO274.out).2.2)
         (case side4 => exact (Kd.R_reads' HO274.out).2.1)
         rintro e w' ⟨rfl, ⟨nd, rfl⟩⟩; refine ⟨_, rfl, ?_⟩; refine hK.out _ _ ⟨(blk_cell BK219.out 0).trans rfl, (blk_cell BK219.out 1).trans rfl, (blk_cell BK220.out 0).trans rfl, (blk_cell BK220.out 1).trans rfl⟩ (fun hHeld => ?_); clear hK K; refine norm_y (some 68) ?_; refine pure_t 39 (some 69) (bz 41 1099511627775) HT_ ?_; refine pure_t 40 (some 0) (bz 41 2199023255551) HT_ ?_; refine done_ (done_of HT_.out (by kernel_rfl)) ?_
         try go_wp2
         go_ret; exact rt_y HB
        ·
         replace c17 := Bool.eq_false_iff.mpr c17; subst c17; replace H : (some false) = some r := ifn_x H; exact absurd ((Option.some.inj H).trans hrt.out) (by decide)
       ·
        rw [if_neg c15] at H; have c15b0 : (t258 == 95) = false := beq_eq_false_iff_ne.mpr c15; have c15b1 : (t258 != 95) = true := bne_iff_ne.mpr c15; exact absurd ((Option.some.inj H).trans hrt.out) (by decide)
      ·
       rw [if_neg c14] at H; have c14b0 : (t237 == 1) = false := beq_eq_false_iff_ne.mpr c14; have c14b1 : (t237 != 1) = true := bne_iff_ne.mpr c14; exact absurd ((Option.some.inj H).trans hrt.out) (by decide)
     ·
      rw [if_neg c13] at H; have c13b0 : (t216 == t262 && (t217 == t263)) = false := by simpa using c13
      (try (have c13b1 : decide (t216 = t262 && (t217 == t263)) = false := by simpa using c13))
      (try (have c13b2 : (t216 == t262 && (t217 == t263)) = false := by simpa using c13))
      (try (have c13b3 : ¬ (t216 = t262 && (t217 == t263)) := by simpa using c13))
      clear c13; exact absurd ((Option.some.inj H).trans hrt.out) (by decide)
    ·
     rw [if_neg c11] at H; have c11b0 : (t214 == t260 && (t215 == t261)) = false := by simpa using c11
     (try (have c11b1 : decide (t214 = t260 && (t215 == t261)) = false := by simpa using c11))
     (try (have c11b2 : (t214 == t260 && (t215 == t261)) = false := by simpa using c11))
     (try (have c11b3 : ¬ (t214 = t260 && (t215 == t261)) := by simpa using c11))
     clear c11; exact absurd ((Option.some.inj H).trans hrt.out) (by decide)
   ·
    rw [if_neg c9] at H; have c9b0 : (t259 == 0) = false := beq_eq_false_iff_ne.mpr c9; have c9b1 : (t259 != 0) = true := bne_iff_ne.mpr c9; exact absurd ((Option.some.inj H).trans hrt.out) (by decide)
  ·
   rw [if_neg c8] at H; have c8b0 : (t241 == 0) = false := beq_eq_false_iff_ne.mpr c8; have c8b1 : (t241 != 0) = true := bne_iff_ne.mpr c8; exact absurd ((Option.some.inj H).trans hrt.out) (by decide)
 ·
  rw [if_neg c7] at H; have c7b0 : (t218 == 0) = false := beq_eq_false_iff_ne.mpr c7; have c7b1 : (t218 != 0) = true := bne_iff_ne.mpr c7; exact absurd ((Option.some.inj H).trans hrt.out) (by decide)
end Go.Proofs.Ytodmemndaaiolaa.PC7
namespace Go.Proofs.Ytodmemndaaiolaa.PC7
set_option linter.unusedVariables false
set_option linter.unusedSimpArgs false
open Go.RowKit Go.Proofs.YtodmemndaaiolaaW.PrintWords Go.Proofs.YtodmemndaaiolaaW.PrintLast Go.Proofs.YtodmemndaaiolaaW.PrintMore
def turnH (h : S85) : S85 := ⟨h.f0, h.f2, h.f1⟩
def turnN (k : Nat) (l : List S85) : List S85 := (l.take k).map turnH ++ l.drop k
def turned12.T8 : Bool × List (List Nat × List Nat) := (true, [([], []), ([0], [0]), ([], []), ([], []), ([3], [3]), ([], []), ([], []), ([6], [6]), ([], []), ([7, 8], [7, 8]), ([9], [9]), ([10], [10]), ([], []), ([12], [12]), ([], []), ([13, 14], [13, 14]), ([15], [15]), ([16], [16]), ([1, 2, 0, 1, 2, 6, 7, 8, 9, 10, 11, 17], [1, 2]), ([18, 0, 1, 2, 6, 7, 8, 9, 10, 11, 17], [18]), ([19, 11, 0, 1, 2, 6, 7, 8, 9, 10, 11, 17], [11, 19]), ([4, 5, 0, 1, 2, 3, 4, 5, 6, 7, 8, 9, 10, 11, 12, 13, 14, 15, 16, 17, 18, 19, 20], [4, 5]), ([21, 0, 1, 2, 3, 4, 5, 6, 7, 8, 9, 10, 11, 12, 13, 14, 15, 16, 17, 18, 19, 20], [21]), ([22, 17, 20, 0, 1, 2, 3, 4, 5, 6, 7, 8, 9, 10, 11, 12, 13, 14, 15, 16, 17, 18, 19, 20], [17, 22])])
def turned12.B8 : List Nat := [0, 1, 0, 0, 8, 0, 0, 64, 0, 448, 960, 1984, 0, 4096, 0, 28672, 61440, 126976, 262087, 524231, 1048519, 2097151, 4194303, 8388607]
def turned12.T17 : Bool × List (List Nat × List Nat) := (true, [([], []), ([0], [0]), ([1], [1]), ([2], [2]), ([3, 2], [2, 3]), ([2, 4], [2, 4]), ([5, 2], [5]), ([6], [6]), ([7, 6], [6, 7]), ([6, 8], [6, 8]), ([9, 6], [9]), ([10], [10]), ([11, 10], [10, 11]), ([10, 12], [10, 12]), ([13, 10], [13]), ([14], [14]), ([15, 14], [14, 15]), ([14, 16], [14, 16]), ([17, 14], [17]), ([18], [18]), ([19, 18], [18, 19]), ([18, 20], [18, 20]), ([21, 18], [21]), ([22], [22]), ([23, 22], [22, 23]), ([22, 24], [22, 24]), ([25, 22], [25]), ([26], [26]), ([27, 26], [26, 27]), ([26, 28], [26, 28]), ([29, 26], [29]), ([30], [30]), ([30], [30]), ([31, 32, 30], [30, 31, 32]), ([30, 33], [30, 33]), ([34, 30], [34]), ([35], [35]), ([35], [35]), ([36, 37, 35], [35, 36, 37]), ([35, 38], [35, 38]), ([39, 35], [39]), ([40], [40]), ([40], [40]), ([41, 42, 40], [40, 41, 42]), ([40, 43], [40, 43]), ([44, 40], [44]), ([45], [45]), ([45], [45]), ([47, 45], [45, 47]), ([48, 45], [45, 48]), ([45], [45]), ([50, 45], [45, 50]), ([51, 45], [45, 51]), ([49, 52, 45, 45], [45, 49, 52]), ([46, 53, 45], [45, 46, 53]), ([45, 54], [45, 54]), ([55, 53], [55]), ([56], [56]), ([56], [56]), ([57, 58, 56], [56, 57, 58]), ([56, 59], [56, 59]), ([60, 56], [60]), ([61], [61]), ([61], [61]), ([62, 63, 61], [61, 62, 63]), ([61, 64], [61, 64]), ([65, 61], [65]), ([66], [66]), ([66], [66]), ([67, 68, 66, 66], [66, 67, 68]), ([66, 69], [66, 69]), ([70, 69], [70]), ([71], [71]), ([71], [71]), ([72, 73, 71, 71], [71, 72, 73]), ([71, 74], [71, 74]), ([75, 74], [75]), ([76, 76], [76]), ([76, 77], [76, 77]), ([78, 77, 0, 1, 2, 3, 4, 5, 6, 7, 8, 9, 10, 11, 12, 13, 14, 15, 16, 17, 18, 19, 20, 21, 22, 23, 24, 25, 26, 27, 28, 29, 30, 31, 32, 33, 34, 35, 36, 37, 38, 39, 40, 41, 42, 43, 44, 45, 46, 47, 48, 49, 50, 51, 52, 53, 54, 55, 56, 57, 58, 59, 60, 61, 62, 63, 64, 65, 66, 67, 68, 69, 70, 71, 72, 73, 74, 75, 76, 77, 78], [78])])
def turned12.B17 : List Nat := [0, 1, 3, 7, 15, 31, 63, 127, 255, 511, 1023, 2047, 4095, 8191, 16383, 32767, 65535, 131071, 262143, 524287, 1048575, 2097151, 4194303, 8388607, 16777215, 33554431, 67108863, 134217727, 268435455, 536870911, 1073741823, 2147483647, 2147483647, 8589934591, 17179869183, 34359738367, 68719476735, 68719476735, 274877906943, 549755813887, 1099511627775, 2199023255551, 2199023255551, 8796093022207, 17592186044415, 35184372088831, 70368744177663, 70368744177663, 211106232532991, 492581209243647, 70368744177663, 1196268651020287, 3448068464705535, 8936830510563327, 18014398509481983, 36028797018963967, 72057594037927935, 144115188075855871, 144115188075855871, 576460752303423487, 1152921504606846975, 2305843009213693951, 4611686018427387903, 4611686018427387903, 18446744073709551615, 36893488147419103231, 73786976294838206463, 147573952589676412927, 147573952589676412927, 590295810358705651711, 1180591620717411303423, 2361183241434822606847, 4722366482869645213695, 4722366482869645213695, 18889465931478580854783, 37778931862957161709567, 75557863725914323419135, 151115727451828646838271, 302231454903657293676543, 604462909807314587353087]
theorem turned12.tab17 : rtab .any (opsOf Try.f12 17) = turned12.T17 := by kernel_rfl
theorem turned12.bits17 : waitsOk turned12.T17.2 turned12.B17 = true := by kernel_rfl
theorem selfInts_l0 (l : List Int) (hl : l.length ≤ 1000000) (d : Nat) : ∀ i : Nat, i + d = l.length → Ev (fun k => swarfkit_EqualInts.l0 k l l true (i : Int)) true := by
  induction d with
  | zero =>
    intro i hi
    refine Ev.succ ?_
    simp (disch := omega) only [swarfkit_EqualInts.l0, if_true, if_neg]
    exact Ev.now _
  | succ d ih =>
    intro i hi
    refine Ev.succ ?_
    simp (disch := omega) only [swarfkit_EqualInts.l0, if_true, if_pos, beq_self_eq_true]
    rw [wrapS (by omega)]
    exact ih (i + 1) (by omega)
theorem selfInts_ev (l : List Int) (hl : l.length ≤ 1000000) : Ev (fun k => swarfkit_EqualInts.f k l l) true := by
  unfold swarfkit_EqualInts.f
  rw [beq_self_eq_true]
  exact selfInts_l0 l hl l.length 0 (by omega)
def swapQ (q : Q4) : Q4 := ⟨q.b1, q.b0, q.h1, q.h0⟩
end Go.Proofs.Ytodmemndaaiolaa.PC7
namespace Go.Proofs.YtodmemndaaiolaaW.PrintWords
open Go.ChangeShapes Go.WideShapes
theorem sized_ints {H : Type} {enc : TypeId × Value → H} {P : Program} {W : World} {base : Nat} {spare : Nat → Bool} {held : Bool} {t e : TypeId} {k : IntKind} {a : Option Addr} {len cap : Nat} {d : DataW H} {ps : List MemPlace} {ts : List TypeId} {ds : List (DataW H)} {j : Nat}
    (hsz : (DataW.weightsEach P ts ds).all (· ≤ reachBytes) = true) (ht : ts[j]? = some t) (hd : ds[j]? = some d) (hu : P.underlying t = some (.slice e)) (he : P.underlying e = some (.int k)) (hc : P.cellsOf e = 1) {B : Nat} (hB : P.bytesOf e = B)
    (h : DataW.Trod enc P W base spare held t (.slice a len cap) d ps) : len * B ≤ 140737488351232 := by
  obtain ⟨fuel, hf⟩ := h
  rcases open_ints hu he hc hf with ⟨hcs, _⟩ | ⟨x, l, c, zs, hcs, _, hl, _, hz, hx, _, _⟩
  · simp [Value.cells] at hcs
    obtain ⟨rfl, rfl, rfl⟩ := hcs
    simp
  · simp [Value.cells] at hcs
    obtain ⟨rfl, rfl, rfl⟩ := hcs
    obtain ⟨hx, _⟩ := Prod.mk.inj hx
    subst hx
    have z := sized_slice hsz ht hd hu
    rw [hB] at z
    have hl2 : len ≤ zs.length := by
      rw [hz]
      split
      · exact hl
      · exact Nat.le_refl _
    have h1 : (lits (H := H) k (zs.take len)).length + (lits (H := H) k (zs.drop len)).length = zs.length := by
      simp [lits]
      omega
    rw [h1] at z
    exact Nat.le_trans (Nat.mul_le_mul_right _ hl2) z
end Go.Proofs.YtodmemndaaiolaaW.PrintWords
namespace Go.Proofs.Ytodmemndaaiolaa.PC7
set_option linter.unusedVariables false
set_option linter.unusedSimpArgs false
open Go.RowKit Go.ChangeShapes Go.WideShapes Go.Deep Go.Joins Go.Proofs.YtodmemndaaiolaaW.PrintWords Go.Proofs.YtodmemndaaiolaaW.PrintLast Go.Proofs.YtodmemndaaiolaaW.PrintMore
section
variable {H : Type} {enc : TypeId × Value → H} {P : Program} {w : World} {base : Nat} {spare : Nat → Bool} {held : Bool}
def Opens {α : Type} (P : Program) (enc : TypeId × Value → H) (w : World) (base : Nat) (spare : Nat → Bool) (held : Bool) (t : TypeId) (d : Kd α) : Prop :=
  ∀ (fuel : Nat) (cs : List Value) (x : DataW H × List MemPlace), DataW.trod enc P w base spare held fuel t cs = some x → ∃ v, d.K w v cs
theorem opens_int {k : IntKind} {t : TypeId} (ht : P.underlying t = some (.int k)) : Opens P enc w base spare held t (Kd.int k) := by
  intro fuel cs x h
  obtain ⟨n, rfl, _⟩ := DataW.trod_int ht h
  exact ⟨n, rfl⟩
theorem open_row {α : Type} {d : Kd α} {t e : TypeId} (ht : P.underlying t = some (.slice e)) (hs : P.cellsOf e = d.sz) (hd : Opens P enc w base spare held e d) {fuel : Nat} {cs : List Value} {x : DataW H × List MemPlace}
    (h : DataW.trod enc P w base spare held fuel t cs = some x) : ∃ (A : Option Addr) (c : Nat) (xs : List α), cs = [.slice A xs.length c] ∧ xs.length ≤ c ∧ c ≤ maxLen ∧ d.C w A xs.length xs := by
  rcases open_slice ht h with ⟨rfl, _⟩ | ⟨a, len, cap, m, n, D, Pl, rfl, hb, hl, hm, hmm, hx, hi⟩
  · exact ⟨none, 0, [], rfl, Nat.le_refl _, Nat.zero_le _, rfl, by simp, fun h => absurd h (by simp)⟩
  · have hel : ∀ i, i < len → ∃ v cs', d.K w v cs' ∧ cs'.length = d.sz ∧ ∀ j u, cs'[j]? = some u → w.cell? (a.add (i * d.sz + j)) = some u := by
      intro i hil
      obtain ⟨cs', hc, ht'⟩ := hi i (by rw [hmm]; split <;> omega)
      obtain ⟨v, hv⟩ := hd _ _ _ ht'
      obtain ⟨_, hcl, hat⟩ := World.cells?_some hc
      refine ⟨v, cs', hv, by rw [hcl, hs], fun j u hj => ?_⟩
      have hjl : j < cs'.length := by
        refine Classical.byContradiction fun hn => ?_
        rw [List.getElem?_eq_none (by omega)] at hj
        cases hj
      have := hat j (by omega)
      rw [hj, Go.Deep.add_add, hs] at this
      exact this
    have hrow : ∀ k, k ≤ len → ∃ xs : List α, xs.length = k ∧ ∀ j p, xs[j]? = some p → ∃ c, c.length = d.sz ∧ d.K w p c ∧ ∀ i u, c[i]? = some u → w.cell? (a.add (j * d.sz + i)) = some u := by
      intro k
      induction k with
      | zero => intro _; exact ⟨[], rfl, fun j p hj => by simp at hj⟩
      | succ k ih =>
        intro hk
        obtain ⟨xs, hxl, hxs⟩ := ih (by omega)
        obtain ⟨v, cs', hv, hcl, hat⟩ := hel k (by omega)
        refine ⟨xs ++ [v], by simp [hxl], fun j p hj => ?_⟩
        by_cases hjk : j < xs.length
        · rw [List.getElem?_append_left hjk] at hj
          exact hxs j p hj
        · rw [List.getElem?_append_right (by omega)] at hj
          have : j - xs.length = 0 := by
            refine Classical.byContradiction fun hn => ?_
            rw [List.getElem?_eq_none (by simp; omega)] at hj
            cases hj
          rw [this] at hj
          obtain rfl := Option.some.inj hj
          obtain rfl : j = k := by omega
          exact ⟨cs', hcl, hv, hat⟩
    obtain ⟨xs, hxl, hxs⟩ := hrow len (Nat.le_refl _)
    refine ⟨some a, cap, xs, by rw [hxl], by omega, hm, rfl, ?_, fun _ => ⟨a, rfl, hxs⟩⟩
    unfold maxLen at hm
    omega
theorem opens_slice {α : Type} {d : Kd α} {t e : TypeId} (ht : P.underlying t = some (.slice e)) (hs : P.cellsOf e = d.sz) (hd : Opens P enc w base spare held e d) : Opens P enc w base spare held t (Kd.slice e d) := by
  intro fuel cs x h
  obtain ⟨A, c, xs, rfl, hl, _, hC⟩ := open_row ht hs hd h
  exact ⟨xs, A, c, rfl, hl, hC⟩
theorem opens_struct {t : TypeId} {fs : Array Field} (ht : P.underlying t = some (.struct fs)) {α : Type} (d : Kd α)
    (h : ∀ (cs : List Value), cs.length = P.cellsOf t → (∀ (i : Nat) (f : Field), fs[i]? = some f → ∃ (n : Nat) (y : DataW H × List MemPlace), DataW.trod enc P w base spare held n f.type ((cs.drop f.offset).take (P.cellsOf f.type)) = some y) → ∃ v, d.K w v cs) : Opens P enc w base spare held t d := by
  intro fuel cs x hx
  obtain ⟨ys, n, _, _, hl, hyl, hf⟩ := DataW.trod_struct ht hx
  refine h cs hl (fun i f hi => ?_)
  have hil : i < fs.size := (Array.getElem?_eq_some_iff.1 hi).1
  have := hf i f hi
  rw [List.getElem?_eq_getElem (by omega)] at this
  exact ⟨n, _, this⟩
end
theorem two_cells {cs : List Value} (h : cs.length = 2) : ∃ a b, cs = [a, b] := by
  match cs, h with
  | [a, b], _ => exact ⟨a, b, rfl⟩
theorem three_cells {cs : List Value} (h : cs.length = 3) : ∃ a b c, cs = [a, b, c] := by
  match cs, h with
  | [a, b, c], _ => exact ⟨a, b, c, rfl⟩
section
variable {H : Type} {enc : TypeId × Value → H} {w : World} {base : Nat} {spare : Nat → Bool} {held : Bool}
set_option maxRecDepth 100000 in
theorem opens56 : Opens Try.prog enc w base spare held 56 k56 := by
  refine opens_struct Try.underlying56 k56 (fun cs hl hf => ?_)
  obtain ⟨a, b, rfl⟩ := two_cells (hl.trans (by kernel_rfl))
  obtain ⟨_, _, h0⟩ := hf 0 _ rfl
  obtain ⟨_, _, h1⟩ := hf 1 _ rfl
  obtain ⟨v0, e0⟩ := opens_int Try.underlying3 _ _ _ h0
  obtain ⟨v1, e1⟩ := opens_int Try.underlying3 _ _ _ h1
  exact ⟨⟨v0, v1⟩, [a], [b], rfl, e0, e1⟩
set_option maxRecDepth 100000 in
theorem opens85 : Opens Try.prog enc w base spare held 85 k85 := by
  refine opens_struct Try.underlying85 k85 (fun cs hl hf => ?_)
  obtain ⟨a, b, c, rfl⟩ := three_cells (hl.trans (by kernel_rfl))
  obtain ⟨_, _, h0⟩ := hf 0 _ rfl
  obtain ⟨_, _, h1⟩ := hf 1 _ rfl
  obtain ⟨_, _, h2⟩ := hf 2 _ rfl
  obtain ⟨v0, e0⟩ := opens_int Try.underlying3 _ _ _ h0
  obtain ⟨v1, e1⟩ := opens_int Try.underlying3 _ _ _ h1
  obtain ⟨v2, e2⟩ := opens_int Try.underlying3 _ _ _ h2
  exact ⟨⟨v0, v1, v2⟩, [a], [b, c], rfl, e0, [b], [c], rfl, e1, e2⟩
set_option maxRecDepth 100000 in
theorem opens62 : Opens Try.prog enc w base spare held 62 k62 := by
  refine opens_struct Try.underlying62 k62 (fun cs hl hf => ?_)
  obtain ⟨a, b, c, rfl⟩ := three_cells (hl.trans (by kernel_rfl))
  obtain ⟨_, _, h0⟩ := hf 0 _ rfl
  obtain ⟨_, _, h1⟩ := hf 1 _ rfl
  obtain ⟨v0, e0⟩ := opens_int Try.underlying3 _ _ _ h0
  obtain ⟨v1, e1⟩ := opens56 _ _ _ h1
  exact ⟨⟨v0, v1⟩, [a], [b, c], rfl, e0, e1⟩
set_option maxRecDepth 100000 in
theorem opens79 : Opens Try.prog enc w base spare held 79 k79 := by
  refine opens_struct Try.underlying79 k79 (fun cs hl hf => ?_)
  obtain ⟨a, b, c, rfl⟩ := three_cells (hl.trans (by kernel_rfl))
  obtain ⟨_, _, h0⟩ := hf 0 _ rfl
  obtain ⟨_, _, h1⟩ := hf 1 _ rfl
  obtain ⟨v0, e0⟩ := opens56 _ _ _ h0
  obtain ⟨v1, e1⟩ := opens_int Try.underlying3 _ _ _ h1
  exact ⟨⟨v0, v1⟩, [a, b], [c], rfl, e0, e1⟩
set_option maxRecDepth 100000 in
theorem opens59 : Opens Try.prog enc w base spare held 59 k59 := by
  refine opens_struct Try.underlying59 k59 (fun cs hl hf => ?_)
  obtain ⟨a, b, c, rfl⟩ := three_cells (hl.trans (by kernel_rfl))
  obtain ⟨_, _, h0⟩ := hf 0 _ rfl
  obtain ⟨_, _, h1⟩ := hf 1 _ rfl
  obtain ⟨v0, e0⟩ := opens56 _ _ _ h0
  obtain ⟨v1, e1⟩ := opens_slice (d := k62) (e := 62) Try.underlying57 (by kernel_rfl) opens62 _ _ _ h1
  exact ⟨⟨v0, v1⟩, [a, b], [c], rfl, e0, e1⟩
set_option maxRecDepth 100000 in
theorem open_voy {b0 : Nat} {r : Reach} {v : Value} {d : DataW H} {p : List MemPlace} (hv : Value.okWide Try.prog w r b0 26 v) (h : DataW.Trod enc Try.prog w base spare held 26 v d p) :
    ∃ x : VoyV, v = .agg #[.int .i64 x.light, .int .i64 x.under, .int .i64 x.trim, .slice x.A3 x.holds.length x.c3, .int .i64 x.leaves, .slice x.A5 x.sills.length x.c5, .slice x.A6 x.lots.length x.c6] ∧ x.Ok w := by
  obtain ⟨cs, rfl, hsz⟩ := okWide_struct Try.underlying26 hv
  obtain ⟨l⟩ := cs
  match l, hsz.trans (show Try.prog.cellsOf 26 = 7 by kernel_rfl) with
  | [x0, x1, x2, x3, x4, x5, x6], _ =>
    obtain ⟨fuel, hf⟩ := h
    obtain ⟨ys, n, _, _, _, hyl, hg⟩ := DataW.trod_struct Try.underlying26 hf
    obtain ⟨v0, e0⟩ := opens_int Try.underlying3 _ _ _ ((hg 0 _ rfl).trans (List.getElem?_eq_getElem (by rw [hyl]; decide)))
    obtain ⟨v1, e1⟩ := opens_int Try.underlying3 _ _ _ ((hg 1 _ rfl).trans (List.getElem?_eq_getElem (by rw [hyl]; decide)))
    obtain ⟨v2, e2⟩ := opens_int Try.underlying3 _ _ _ ((hg 2 _ rfl).trans (List.getElem?_eq_getElem (by rw [hyl]; decide)))
    obtain ⟨A3, c3, holds, e3, h3, _, C3⟩ := open_row (d := k85) (e := 85) Try.underlying22 (by kernel_rfl) opens85 ((hg 3 _ rfl).trans (List.getElem?_eq_getElem (by rw [hyl]; decide)))
    obtain ⟨v4, e4⟩ := opens_int Try.underlying3 _ _ _ ((hg 4 _ rfl).trans (List.getElem?_eq_getElem (by rw [hyl]; decide)))
    obtain ⟨A5, c5, sills, e5, h5, _, C5⟩ := open_row (d := k59) (e := 59) Try.underlying23 (by kernel_rfl) opens59 ((hg 5 _ rfl).trans (List.getElem?_eq_getElem (by rw [hyl]; decide)))
    obtain ⟨A6, c6, lots, e6, h6, _, C6⟩ := open_row (d := k79) (e := 79) Try.underlying24 (by kernel_rfl) opens79 ((hg 6 _ rfl).trans (List.getElem?_eq_getElem (by rw [hyl]; decide)))
    refine ⟨⟨v0, v1, v2, A3, c3, holds, v4, A5, c5, sills, A6, c6, lots⟩, ?_, ⟨C3, h3, C5, h5, C6, h6⟩⟩
    have q0 : x0 = _ := List.singleton_inj.1 (e0 : [x0] = _)
    have q1 : x1 = _ := List.singleton_inj.1 (e1 : [x1] = _)
    have q2 : x2 = _ := List.singleton_inj.1 (e2 : [x2] = _)
    have q3 : x3 = _ := List.singleton_inj.1 (e3 : [x3] = _)
    have q4 : x4 = _ := List.singleton_inj.1 (e4 : [x4] = _)
    have q5 : x5 = _ := List.singleton_inj.1 (e5 : [x5] = _)
    have q6 : x6 = _ := List.singleton_inj.1 (e6 : [x6] = _)
    rw [q0, q1, q2, q3, q4, q5, q6]
end
end Go.Proofs.Ytodmemndaaiolaa.PC7
namespace Go.Proofs.Ytodmemndaaiolaa.PC7
open Go.RowKit Go.Proofs.YtodmemndaaiolaaW.PrintWords Go.Proofs.YtodmemndaaiolaaW.PrintLast Go.Proofs.YtodmemndaaiolaaW.PrintMore
attribute [local go_sem] max2_int min2_int max_two min_two max_three min_three max_four min_four
set_option linter.unusedVariables false
set_option linter.unusedSimpArgs false
def swarfkit_Ints.f (l0 : List Int) : Option (List Int) := (some (([] : List Int) : List Int)).bind fun y389 => (if y389.length + l0.length < 17592186044416 then (some (y389 ++ l0)) else (none))
set_option maxHeartbeats 8000000 in
set_option maxRecDepth 100000 in
theorem swarfkit_Ints.calls (A0 : Option Addr) (c0 : Nat) (l0 : List Int) (r : List Int) (w : World) (hr0 : Kd.C (Kd.int .i64) w A0 l0.length l0) (hc0 : l0.length ≤ c0) (h : swarfkit_Ints.f l0 = some r) :
  Calls Try.prog 21 #[.slice A0 l0.length c0] w fun e w' => ∃ v0_ : Value, e = .returned (v0_) ∧ Kd.R (Kd.int .i64) 3 w' w.heap.size (fun _ => True) v0_ r ∧ Below w.heap.size w w' := by
 have HR0 := Aside0.mk hr0
 have HC0 := Aside0.mk hc0
 clear hr0 hc0
 have HB := Aside0.mk (Below.refl w.heap.size w)
 have H : ((some (([] : List Int) : List Int)).bind fun y389 => (if y389.length + l0.length < 17592186044416 then (some (y389 ++ l0)) else (none))) = some r := h
 clear h
 obtain ⟨y389, hy389⟩ : ∃ y_ : List Int, y_ = (([] : List Int)) := ⟨_, rfl⟩
 replace H : (if y389.length + l0.length < 17592186044416 then (some (y389 ++ l0)) else (none)) = some r := by first | (rw [hy389]; with_reducible exact H) | (have H2_ := (Option.bind_some _ _).symm.trans H; rw [hy389]; with_reducible exact H2_) | (have H2_ := (Option.bind_some _ _).symm.trans H; with_reducible exact H2_) | with_reducible exact H | (rw [hy389]; exact H) | exact H
 have Ny389 := Aside0.mk hy389
 clear hy389
 by_cases c2 : y389.length + l0.length < 17592186044416
 ·
  rw [if_pos c2] at H; have LMc2 := Aside0.mk c2; clear c2; obtain ⟨y392, hy392⟩ : ∃ y_ : List Int, y_ = (y389 ++ l0) := ⟨_, rfl⟩; (replace H : (some y392) = some r := by first | (rw [hy392]; with_reducible exact H) | (have H2_ := (Option.bind_some _ _).symm.trans H; rw [hy392]; with_reducible exact H2_) | (have H2_ := (Option.bind_some _ _).symm.trans H; with_reducible exact H2_) | with_reducible exact H | (rw [hy392]; exact H) | exact H); have Ny392 := Aside0.mk hy392; clear hy392; obtain rfl := Option.some.inj H; go_enter Try.func21, Try.ntmps21
  go_wp2_with (first | ((with_reducible refine gate_dst (N := 3) rfl ?_); refine Kd.R_lit (Kd.int .i64) _ 3 ?hg (N := 3) ?hd (xs := ([] : List Int)) (inner := []) (ok := fun _ => True) (okp := fun _ => True) ?hr ?hp (fun _ hk => hk) trivial (Below.refl _ _) (Nat.le_refl _) (by simp) ?_; (case hd => rfl); (case hg => rfl); (case hr => first | (go_simp; done) | (go_simp; rfl)); (case hp => exact (Reps.none _ _)); intro v390 w3 ho4 hb hg_ hnew_; clear hg_ hnew_; (first | rw [← Ny389.out] at ho4 | (simp only [Int.reduceToNat] at ho4; rw [← Ny389.out] at ho4)); have HO391 := Aside0.mk (Kd.R_lower ho4 (below_size (below_x HB.out))); replace HB := Aside0.mk (below_step (below_x HB.out) hb); clear hb ho4) | ((with_reducible refine gate_builtin (b := .append) (xs := #[.tmp 3, .tmp 4]) rfl ?_); at_builtin; refine Kd.R_append_rows (Kd.int .i64) (w0 := w) w.heap.size rfl (.tmp 3) (.tmp 4) 27 3 (.int .i64 0) 8 rfl Try.underlying27 info3 rfl (by decide) (by omega) v390 y389 l0 _ _ _ (fun _ => True) (fun _ => False) rfl rfl ?aO ?aR (fun _ _ h => h) (fun _ h => h.elim) ?aF ?aB ?aS ?aL ?_; (case aR => exact Kd.C_x HR0.out HB.out); (case aB => exact (below_x HB.out)); (case aF => exact (fun _ _ => trivial)); (case aO => exact (Kd.R_x HO391.out)); (case aS => exact (below_size (below_x HB.out))); (case aL => have := LMc2.out; omega); intro v393 w5 ho hb hg hat; rw [← Ny392.out] at ho; replace HB := Aside0.mk (hb); have HO394 := Aside0.mk (ho); clear HO391; clear ho hb hg hat))
  go_ret; exact ⟨_, by first | rfl | (simp [errW_none, errW_some] <;> rfl) | (simp [*, errW_none, errW_some] <;> rfl), by (with_reducible repeat (first | apply Kd.R_alloc | apply Kd.R_drewN | apply Kd.R_drew)); exact HO394.out, by exact below_y HB.out⟩
 ·
  rw [if_neg c2] at H; exact absurd H (by simp)
def swarfkit_Round.f (a0 : Int) (a1 : Int) : Option (Int) := if a1 < 2 then (some 0) else (if a1 = 0 then (none) else (some (Int.tmod (wrap64 ((Int.tmod a0 a1) + a1)) a1)))
set_option maxHeartbeats 8000000 in
set_option maxRecDepth 100000 in
theorem swarfkit_Round.calls (a0 : Int) (a1 : Int) (r : Int) (w : World) (h : swarfkit_Round.f a0 a1 = some r) :
  Calls Try.prog 34 #[.int .i64 a0, .int .i64 a1] w fun e w' => e = .returned (.int .i64 r) ∧ Drawn0 w w' := by
 have H : (if a1 < 2 then (some 0) else (if a1 = 0 then (none) else (some (Int.tmod (wrap64 ((Int.tmod a0 a1) + a1)) a1)))) = some r := h
 clear h
 by_cases c3 : a1 < 2
 ·
  rw [if_pos c3] at H; have c3b0 : decide (a1 < 2) = true := decide_eq_true c3; clear c3; obtain rfl := Option.some.inj H; go_enter Try.func34, Try.ntmps34; go_wp2; go_ret; exact ⟨by first | rfl | (simp; done) | (simp [*]; done), by repeat (first | exact Drawn0.refl _ | apply Drawn0.step)⟩
 ·
  rw [if_neg c3] at H; have c3b0 : decide (a1 < 2) = false := decide_eq_false c3; clear c3; by_cases c4 : a1 = 0
  ·
   rw [if_pos c4] at H; exact absurd H (by simp)
  ·
   rw [if_neg c4] at H; have c4b0 : (a1 == 0) = false := beq_eq_false_iff_ne.mpr c4; have c4b1 : (a1 != 0) = true := bne_iff_ne.mpr c4; obtain rfl := Option.some.inj H; go_enter Try.func34, Try.ntmps34; go_wp2; go_ret; exact ⟨by first | rfl | (simp; done) | (simp [*]; done), by repeat (first | exact Drawn0.refl _ | apply Drawn0.step)⟩
end Go.Proofs.Ytodmemndaaiolaa.PC7
namespace Go.Proofs.Ytodmemndaaiolaa.PC7
set_option linter.unusedVariables false
set_option linter.unusedSimpArgs false
open Go.RowKit Go.Proofs.YtodmemndaaiolaaW.PrintWords Go.Proofs.YtodmemndaaiolaaW.PrintLast Go.Proofs.YtodmemndaaiolaaW.PrintMore
end Go.Proofs.Ytodmemndaaiolaa.PC7
namespace Go.Proofs.Ytodmemndaaiolaa.PC7
open Go.RowKit Go.Proofs.YtodmemndaaiolaaW.PrintWords Go.Proofs.YtodmemndaaiolaaW.PrintLast Go.Proofs.YtodmemndaaiolaaW.PrintMore
attribute [local go_sem] max2_int min2_int max_two min_two max_three min_three max_four min_four
set_option linter.unusedVariables false
set_option linter.unusedSimpArgs false
theorem eqA62 (d : Nat) (w : World) (x0 y0 : Int) (x1 y1 : Int) (x2 y2 : Int) :
    (Op.equalIn (d + 3) 62 (.agg #[.int .i64 x0, .int .i64 x1, .int .i64 x2]) (.agg #[.int .i64 y0, .int .i64 y1, .int .i64 y2])).run Try.prog w = .ok (x0 == y0 && ((x1 == y1 && (x2 == y2)))) w := by
  refine eqA_of Try.underlying62 (by kernel_rfl) ?_
  refine eqf_cons (by rfl) (by go_simp; rfl) (by go_simp; rfl) (by go_simp) ?_
  exact eqf_last (by rfl) (by go_simp) (by go_simp) (eqA56 (d + 0) w _ _ _ _)
theorem eqA79 (d : Nat) (w : World) (x0 y0 : Int) (x1 y1 : Int) (x2 y2 : Int) :
    (Op.equalIn (d + 3) 79 (.agg #[.int .i64 x0, .int .i64 x1, .int .i64 x2]) (.agg #[.int .i64 y0, .int .i64 y1, .int .i64 y2])).run Try.prog w = .ok ((x0 == y0 && (x1 == y1)) && (x2 == y2)) w := by
  refine eqA_of Try.underlying79 (by kernel_rfl) ?_
  refine eqf_cons (by rfl) (by go_simp) (by go_simp) (eqA56 (d + 0) w _ _ _ _) ?_
  exact eqf_last (by rfl) (by go_simp; rfl) (by go_simp; rfl) (by go_simp)
theorem eqA85 (d : Nat) (w : World) (x0 y0 : Int) (x1 y1 : Int) (x2 y2 : Int) :
    (Op.equalIn (d + 2) 85 (.agg #[.int .i64 x0, .int .i64 x1, .int .i64 x2]) (.agg #[.int .i64 y0, .int .i64 y1, .int .i64 y2])).run Try.prog w = .ok (x0 == y0 && (x1 == y1 && (x2 == y2))) w := by
  refine eqA_of Try.underlying85 (by kernel_rfl) ?_
  refine eqf_cons (by rfl) (by go_simp; rfl) (by go_simp; rfl) (by go_simp) ?_
  refine eqf_cons (by rfl) (by go_simp; rfl) (by go_simp; rfl) (by go_simp) ?_
  exact eqf_last (by rfl) (by go_simp; rfl) (by go_simp; rfl) (by go_simp)
end Go.Proofs.Ytodmemndaaiolaa.PC7
namespace Go.Proofs.Ytodmemndaaiolaa.PC7
set_option linter.unusedVariables false
set_option linter.unusedSimpArgs false
open Go.RowKit Go.Proofs.YtodmemndaaiolaaW.PrintWords Go.Proofs.YtodmemndaaiolaaW.PrintLast Go.Proofs.YtodmemndaaiolaaW.PrintMore
theorem getD_mem25_ {α : Type} (l : List α) (k : Nat) (d : α) (h : k < l.length) : l.getD k d ∈ l := by
 rw [List.getD, List.getElem?_eq_getElem h]; exact List.getElem_mem h
attribute [local go_sem high] eqA56 eqA62 eqA79 eqA85
set_option maxHeartbeats 8000000 in
set_option maxRecDepth 100000 in
theorem sameV_calls (L U R V : Int) (A3 B3 : Option Addr) (c3 d3 : Nat) (holds : List S85) (A5 B5 : Option Addr) (c5 d5 : Nat) (sills : List S59) (A6 B6 : Option Addr) (c6 d6 : Nat) (lots : List S79) (w : World) (hx : (⟨L, U, R, A3, c3, holds, V, A5, c5, sills, A6, c6, lots⟩ : VoyV).Ok w) (hy : (⟨L, U, R, B3, d3, holds, V, B5, d5, sills, B6, d6, lots⟩ : VoyV).Ok w) (hh : holds.length ≤ 100000) (hl : lots.length ≤ 100000) (hs : lensOK sills) :
  Calls Try.prog 25 #[.agg #[.int .i64 L, .int .i64 U, .int .i64 R, .slice A3 holds.length c3, .int .i64 V, .slice A5 sills.length c5, .slice A6 lots.length c6], .agg #[.int .i64 L, .int .i64 U, .int .i64 R, .slice B3 holds.length d3, .int .i64 V, .slice B5 sills.length d5, .slice B6 lots.length d6]] w fun e w' => e = .returned (.bool true) ∧ Below w.heap.size w w' := by
 have hu26 := Try.underlying26
 have hu59 := Try.underlying59
 have hu56 := Try.underlying56
 have HX := Aside0.mk hx
 have HY := Aside0.mk hy
 have hs1 := hs.1
 have HSL := Aside0.mk hs.2
 clear hx hy hs
 go_enter Try.func25, Try.ntmps25
 go_upto_region 1 with (first | (refine box_r (N := 2) rfl (cs := #[.int .i64 L, .int .i64 U, .int .i64 R, .slice A3 holds.length c3, .int .i64 V, .slice A5 sills.length c5, .slice A6 lots.length c6]) (t := 26) ?_; intro g2 hg w2 hbox hb2; have BK := Aside0.mk hbox; have HB := Aside0.mk hb2; have G2 := Aside0.mk hg; clear hg hbox hb2) | (refine box_r (N := 3) rfl (cs := #[.int .i64 L, .int .i64 U, .int .i64 R, .slice B3 holds.length d3, .int .i64 V, .slice B5 sills.length d5, .slice B6 lots.length d6]) (t := 26) ?_; intro g3 hg w3 hbox hb2; have BL := Aside0.mk hbox; replace BK := Aside0.mk (blk_below BK.out hb2); replace HB := Aside0.mk (below_step HB.out hb2); clear hg hbox hb2))
 have hz0_ := (blk_cell BK.out 0).trans rfl
 have hz1_ := (blk_cell BK.out 1).trans rfl
 have hz2_ := (blk_cell BK.out 2).trans rfl
 have hz3_ := (blk_cell BK.out 3).trans rfl
 have hz4_ := (blk_cell BK.out 4).trans rfl
 have hz5_ := (blk_cell BK.out 5).trans rfl
 have hz6_ := (blk_cell BK.out 6).trans rfl
 have hy0_ := (blk_cell BL.out 0).trans rfl
 have hy1_ := (blk_cell BL.out 1).trans rfl
 have hy2_ := (blk_cell BL.out 2).trans rfl
 have hy3_ := (blk_cell BL.out 3).trans rfl
 have hy4_ := (blk_cell BL.out 4).trans rfl
 have hy5_ := (blk_cell BL.out 5).trans rfl
 have hy6_ := (blk_cell BL.out 6).trans rfl
 go_upto_region 2 with (fail)
 clear hz0_ hz1_ hz2_ hz3_ hz4_ hz5_ hz6_ hy0_ hy1_ hy2_ hy3_ hy4_ hy5_ hy6_
 go_wp2
 go_loopg [5, 6] holds.length (fun gk v5 v6 wr => ∃ k : Nat, k ≤ holds.length ∧ holds.length - k ≤ gk ∧ v5 = .bool true ∧ v6 = .int .i64 k ∧ Aside0 (wr.heap[g2]? = some (.cells #[.int .i64 L, .int .i64 U, .int .i64 R, .slice A3 holds.length c3, .int .i64 V, .slice A5 sills.length c5, .slice A6 lots.length c6] 26 (0, 0))) ∧ Aside0 (wr.heap[g3]? = some (.cells #[.int .i64 L, .int .i64 U, .int .i64 R, .slice B3 holds.length d3, .int .i64 V, .slice B5 sills.length d5, .slice B6 lots.length d6] 26 (0, 0))) ∧ Aside0 (Below w.heap.size w wr))
 case atStart => exact ⟨0, by omega, by omega, rfl, rfl, BK, BL, HB⟩
 case round =>
  clear BK BL HB; obtain ⟨k, hk, hgk, rfl, rfl, BK, BL, HB⟩ := hrel; by_cases hlt : k < holds.length
  ·
   (have hlz : (k : Int) < (holds.length : Int) := by omega); have hz_ := (blk_cell BK.out 3).trans rfl; have hy_ := (blk_cell BL.out 3).trans rfl
   go_upto_region 5 with (fail)
   clear hz_ hy_; have hd_ := below_drew1 (Below.refl wr.heap.size wr); replace BK := Aside0.mk (blk_below BK.out hd_); replace BL := Aside0.mk (blk_below BL.out hd_); replace HB := Aside0.mk (below_step HB.out hd_); clear hd_; obtain ⟨ad, e1_, p0, p1, p2⟩ := at_T85 (HX.out.below HB.out).h (k : Int) (by omega) hlz; obtain ⟨bd, e2_, r0, r1, r2⟩ := at_T85 (HY.out.below HB.out).h (k : Int) (by omega) hlz; (cases e1_); (cases e2_); rw [Int.toNat_natCast] at p0 p1 p2 r0 r1 r2; refine start_ (n := 12) (S := fun w' => w'.cell? ⟨g2, 3, none⟩ = some (.slice (some ad) holds.length c3) ∧ w'.cell? ⟨g3, 3, none⟩ = some (.slice (some bd) holds.length d3) ∧ w'.cell? (ad.add (k * 3)) = some (.int .i64 (rd_T85 holds (k : Int)).f0) ∧ w'.cell? ⟨(ad.add (k * 3)).block, (ad.add (k * 3)).off + 1, none⟩ = some (.int .i64 (rd_T85 holds (k : Int)).f1) ∧ w'.cell? ⟨(ad.add (k * 3)).block, (ad.add (k * 3)).off + 2, none⟩ = some (.int .i64 (rd_T85 holds (k : Int)).f2) ∧ w'.cell? (bd.add (k * 3)) = some (.int .i64 (rd_T85 holds (k : Int)).f0) ∧ w'.cell? ⟨(bd.add (k * 3)).block, (bd.add (k * 3)).off + 1, none⟩ = some (.int .i64 (rd_T85 holds (k : Int)).f1) ∧ w'.cell? ⟨(bd.add (k * 3)).block, (bd.add (k * 3)).off + 2, none⟩ = some (.int .i64 (rd_T85 holds (k : Int)).f2)) (ds := []) #[false, false, false, false, false, false, false, false, false, false, false, false] (by kernel_rfl) rfl rfl ⟨(blk_cell BK.out 3).trans rfl, (blk_cell BL.out 3).trans rfl, p0, p1, p2, r0, r1, r2⟩ (fun hHeld => ?_); generalize wr.drew = wd at BK BL HB hHeld ⊢; refine pure_y 0 (some 75) (bz 12 1) ?_; refine pure_y 2 (some 77) (bz 12 5) ?_; refine pure_y 5 (some 80) (bz 12 37) ?_; refine pure_y 7 (some 82) (bz 12 165) ?_; refine take_y 1 (some 76) (bz 12 167) hHeld ?_; refine pure_y 3 (some 78) (bz 12 175) ?_; refine take_y 4 (some 79) (bz 12 191) hHeld ?_; refine take_y 6 (some 81) (bz 12 255) hHeld ?_; refine pure_y 8 (some 83) (bz 12 511) ?_; refine take_y 9 (some 84) (bz 12 1023) hHeld ?_; refine pure_y 10 (some 85) (bz 12 2047) ?_; refine pure_y 11 (some 5) (bz 12 4095) ?_; refine done_ (by kernel_rfl) ?_; clear hHeld p0 r0 p1 r1 p2 r2; go_wp2; go_roundg (holds.length - (k + 1))
   case measure => omega
   case rel => exact ⟨k + 1, by omega, by omega, rfl, by go_num, BK, BL, HB⟩
  ·
   (have : k = holds.length := by omega); subst this; have hz_ := (blk_cell BK.out 3).trans rfl; have hy_ := (blk_cell BL.out 3).trans rfl
   go_upto_region 6 with (fail)
   clear hz_ hy_; go_wp2
   go_loopg [5, 7] lots.length (fun gk v5 v6 wr => ∃ k : Nat, k ≤ lots.length ∧ lots.length - k ≤ gk ∧ v5 = .bool true ∧ v6 = .int .i64 k ∧ Aside0 (wr.heap[g2]? = some (.cells #[.int .i64 L, .int .i64 U, .int .i64 R, .slice A3 holds.length c3, .int .i64 V, .slice A5 sills.length c5, .slice A6 lots.length c6] 26 (0, 0))) ∧ Aside0 (wr.heap[g3]? = some (.cells #[.int .i64 L, .int .i64 U, .int .i64 R, .slice B3 holds.length d3, .int .i64 V, .slice B5 sills.length d5, .slice B6 lots.length d6] 26 (0, 0))) ∧ Aside0 (Below w.heap.size w wr))
   case atStart => exact ⟨0, by omega, by omega, rfl, rfl, BK, BL, HB⟩
   case round =>
    clear BK BL HB; obtain ⟨k, hk, hgk, rfl, rfl, BK, BL, HB⟩ := hrel; by_cases hlt : k < lots.length
    ·
     (have hlz : (k : Int) < (lots.length : Int) := by omega); have hz_ := (blk_cell BK.out 6).trans rfl; have hy_ := (blk_cell BL.out 6).trans rfl
     go_upto_region 9 with (fail)
     clear hz_ hy_; have hd_ := below_drew1 (Below.refl wr.heap.size wr); replace BK := Aside0.mk (blk_below BK.out hd_); replace BL := Aside0.mk (blk_below BL.out hd_); replace HB := Aside0.mk (below_step HB.out hd_); clear hd_; obtain ⟨ad, e1_, p0, p1, p2⟩ := at_T79 (HX.out.below HB.out).l (k : Int) (by omega) hlz; obtain ⟨bd, e2_, r0, r1, r2⟩ := at_T79 (HY.out.below HB.out).l (k : Int) (by omega) hlz; (cases e1_); (cases e2_); rw [Int.toNat_natCast] at p0 p1 p2 r0 r1 r2; refine start_ (n := 12) (S := fun w' => w'.cell? ⟨g2, 6, none⟩ = some (.slice (some ad) lots.length c6) ∧ w'.cell? ⟨g3, 6, none⟩ = some (.slice (some bd) lots.length d6) ∧ w'.cell? (ad.add (k * 3)) = some (.int .i64 (rd_T79 lots (k : Int)).f0.f0) ∧ w'.cell? ⟨(ad.add (k * 3)).block, (ad.add (k * 3)).off + 1, none⟩ = some (.int .i64 (rd_T79 lots (k : Int)).f0.f1) ∧ w'.cell? ⟨(ad.add (k * 3)).block, (ad.add (k * 3)).off + 2, none⟩ = some (.int .i64 (rd_T79 lots (k : Int)).f1) ∧ w'.cell? (bd.add (k * 3)) = some (.int .i64 (rd_T79 lots (k : Int)).f0.f0) ∧ w'.cell? ⟨(bd.add (k * 3)).block, (bd.add (k * 3)).off + 1, none⟩ = some (.int .i64 (rd_T79 lots (k : Int)).f0.f1) ∧ w'.cell? ⟨(bd.add (k * 3)).block, (bd.add (k * 3)).off + 2, none⟩ = some (.int .i64 (rd_T79 lots (k : Int)).f1)) (ds := []) #[false, false, false, false, false, false, false, false, false, false, false, false] (by kernel_rfl) rfl rfl ⟨(blk_cell BK.out 6).trans rfl, (blk_cell BL.out 6).trans rfl, p0, p1, p2, r0, r1, r2⟩ (fun hHeld => ?_); generalize wr.drew = wd at BK BL HB hHeld ⊢; refine pure_y 0 (some 96) (bz 12 1) ?_; refine pure_y 2 (some 98) (bz 12 5) ?_; refine pure_y 5 (some 101) (bz 12 37) ?_; refine pure_y 7 (some 103) (bz 12 165) ?_; refine take_y 1 (some 97) (bz 12 167) hHeld ?_; refine pure_y 3 (some 99) (bz 12 175) ?_; refine take_y 4 (some 100) (bz 12 191) hHeld ?_; refine take_y 6 (some 102) (bz 12 255) hHeld ?_; refine pure_y 8 (some 104) (bz 12 511) ?_; refine take_y 9 (some 105) (bz 12 1023) hHeld ?_; refine pure_y 10 (some 106) (bz 12 2047) ?_; refine pure_y 11 (some 5) (bz 12 4095) ?_; refine done_ (by kernel_rfl) ?_; clear hHeld p0 r0 p1 r1 p2 r2; go_wp2; go_roundg (lots.length - (k + 1))
     case measure => omega
     case rel => exact ⟨k + 1, by omega, by omega, rfl, by go_num, BK, BL, HB⟩
    ·
     (have : k = lots.length := by omega); subst this; have hz_ := (blk_cell BK.out 6).trans rfl; have hy_ := (blk_cell BL.out 6).trans rfl
     go_upto_region 10 with (fail)
     clear hz_ hy_; go_wp2
     go_loopg [5, 8] sills.length (fun gk v5 v8 wr => ∃ k : Nat, k ≤ sills.length ∧ sills.length - k ≤ gk ∧ v5 = .bool true ∧ v8 = .int .i64 k ∧ Aside0 (wr.heap[g2]? = some (.cells #[.int .i64 L, .int .i64 U, .int .i64 R, .slice A3 holds.length c3, .int .i64 V, .slice A5 sills.length c5, .slice A6 lots.length c6] 26 (0, 0))) ∧ Aside0 (wr.heap[g3]? = some (.cells #[.int .i64 L, .int .i64 U, .int .i64 R, .slice B3 holds.length d3, .int .i64 V, .slice B5 sills.length d5, .slice B6 lots.length d6] 26 (0, 0))) ∧ Aside0 (Below w.heap.size w wr))
     case atStart => exact ⟨0, by omega, by omega, rfl, rfl, BK, BL, HB⟩
     case round =>
      clear BK BL HB; obtain ⟨k, hk, hgk, rfl, rfl, BK, BL, HB⟩ := hrel; by_cases hlt : k < sills.length
      ·
       (have hlz : (k : Int) < (sills.length : Int) := by omega); have hln := HSL.out _ (getD_mem25_ sills k z59 hlt); have hz_ := (blk_cell BK.out 5).trans rfl; have hy_ := (blk_cell BL.out 5).trans rfl
       go_upto_region 13 with (fail)
       clear hz_ hy_; have hd_ := below_drew1 (Below.refl wr.heap.size wr); replace BK := Aside0.mk (blk_below BK.out hd_); replace BL := Aside0.mk (blk_below BL.out hd_); replace HB := Aside0.mk (below_step HB.out hd_); clear hd_; obtain ⟨ad, A2, c2, e1_, p0, p1, p2, pl, pc⟩ := at_T59 HX.out.s (k : Int) (by omega) hlz; obtain ⟨bd, B2, d2, e2_, r0, r1, r2, rl, rc⟩ := at_T59 HY.out.s (k : Int) (by omega) hlz; (cases e1_); (cases e2_); rw [Int.toNat_natCast] at p0 p1 p2 r0 r1 r2; rw [show rd_T59 sills (k : Int) = sills.getD k z59 from by simp [rd_T59]] at p0 p1 p2 pl pc r0 r1 r2 rl rc; generalize sills.getD k z59 = sl at *; have P0 := Aside0.mk p0; have P1 := Aside0.mk p1; have P2 := Aside0.mk p2; have R0 := Aside0.mk r0; have R1 := Aside0.mk r1; have R2 := Aside0.mk r2; have PC := Aside0.mk pc; have RC := Aside0.mk rc; clear p0 p1 p2 r0 r1 r2 pc rc; refine start_ (n := 14) (S := fun w' => w'.cell? ⟨g2, 5, none⟩ = some (.slice (some ad) sills.length c5) ∧ w'.cell? ⟨g3, 5, none⟩ = some (.slice (some bd) sills.length d5) ∧ w'.cell? (ad.add (k * 3)) = some (.int .i64 sl.f0.f0) ∧ w'.cell? ⟨(ad.add (k * 3)).block, (ad.add (k * 3)).off + 1, none⟩ = some (.int .i64 sl.f0.f1) ∧ w'.cell? ⟨(ad.add (k * 3)).block, (ad.add (k * 3)).off + 2, none⟩ = some (.slice A2 sl.f1.length c2) ∧ w'.cell? (bd.add (k * 3)) = some (.int .i64 sl.f0.f0) ∧ w'.cell? ⟨(bd.add (k * 3)).block, (bd.add (k * 3)).off + 1, none⟩ = some (.int .i64 sl.f0.f1) ∧ w'.cell? ⟨(bd.add (k * 3)).block, (bd.add (k * 3)).off + 2, none⟩ = some (.slice B2 sl.f1.length d2)) (ds := [13]) #[false, false, false, false, false, false, false, false, false, false, false, false, false, false] (by kernel_rfl) rfl rfl ⟨(blk_cell BK.out 5).trans rfl, (blk_cell BL.out 5).trans rfl, cb_y HB.out P0.out, cb_y HB.out P1.out, cb_y HB.out P2.out, cb_y HB.out R0.out, cb_y HB.out R1.out, cb_y HB.out R2.out⟩ (fun hHeld => ?_); generalize wr.drew = wd at BK BL HB hHeld ⊢; refine pure_y 0 (some 117) (bz 14 1) ?_; refine pure_y 2 (some 119) (bz 14 5) ?_; refine pure_y 5 (some 122) (bz 14 37) ?_; refine pure_y 7 (some 124) (bz 14 165) ?_; refine take_y 1 (some 118) (bz 14 167) hHeld ?_; refine pure_y 3 (some 120) (bz 14 175) ?_; refine take_y 4 (some 121) (bz 14 191) hHeld ?_; refine take_y 6 (some 123) (bz 14 255) hHeld ?_; refine pure_y 8 (some 125) (bz 14 511) ?_; refine take_y 9 (some 126) (bz 14 1023) hHeld ?_; refine join_ (σ := Nat × Nat) 2 (bz 14 4095) (fun s_ => [(9, .pointer (some ⟨s_.1, 0, none⟩)), (10, .pointer (some ⟨s_.2, 0, none⟩))]) (fun s_ w' => (w'.cell? ⟨g2, 5, none⟩ = some (.slice (some ad) sills.length c5) ∧ w'.cell? ⟨g3, 5, none⟩ = some (.slice (some bd) sills.length d5) ∧ w'.cell? (ad.add (k * 3)) = some (.int .i64 sl.f0.f0) ∧ w'.cell? ⟨(ad.add (k * 3)).block, (ad.add (k * 3)).off + 1, none⟩ = some (.int .i64 sl.f0.f1) ∧ w'.cell? ⟨(ad.add (k * 3)).block, (ad.add (k * 3)).off + 2, none⟩ = some (.slice A2 sl.f1.length c2) ∧ w'.cell? (bd.add (k * 3)) = some (.int .i64 sl.f0.f0) ∧ w'.cell? ⟨(bd.add (k * 3)).block, (bd.add (k * 3)).off + 1, none⟩ = some (.int .i64 sl.f0.f1) ∧ w'.cell? ⟨(bd.add (k * 3)).block, (bd.add (k * 3)).off + 2, none⟩ = some (.slice B2 sl.f1.length d2)) ∧ Aside0 (w'.heap[g2]? = some (.cells #[.int .i64 L, .int .i64 U, .int .i64 R, .slice A3 holds.length c3, .int .i64 V, .slice (some ad) sills.length c5, .slice A6 lots.length c6] 26 (0, 0))) ∧ Aside0 (w'.heap[g3]? = some (.cells #[.int .i64 L, .int .i64 U, .int .i64 R, .slice B3 holds.length d3, .int .i64 V, .slice (some bd) sills.length d5, .slice B6 lots.length d6] 26 (0, 0))) ∧ Aside0 (w'.heap[s_.1]? = some (.cells #[.int .i64 0, .int .i64 0, .slice none 0 0] 59 (0, 0))) ∧ Aside0 (w'.heap[s_.2]? = some (.cells #[.int .i64 0, .int .i64 0, .slice none 0 0] 59 (0, 0))) ∧ w.heap.size ≤ s_.1 ∧ w.heap.size ≤ s_.2 ∧ s_.1 ≠ s_.2 ∧ Aside0 (Below w.heap.size w w')) ?_ ?_; rotate_left
       ·
        intro hCont; refine two_ (i := 10) (j := 11) (Ni := some 9) (Nj := some 10) (bz 14 2047) (bz 14 3071) rfl rfl rfl rfl (by kernel_rfl) (by decide) (by decide) (fun K hK => ?_) (fun K hK => ?_)
        ·
         skip
         refine value_ (w1 := ?_) (v := ?_) (by rfl) rfl ?_ ?_; rotate_left 2
         ·
          go_simp
          constructor
          ·
           rfl
          ·
           rfl
         obtain ⟨g9, hg_⟩ : ∃ b, b = wd.heap.size := ⟨_, rfl⟩; (have GEg9 : w.heap.size ≤ g9 := by rw [hg_]; exact HB.out.size); have B9 := Aside0.mk (blk_new wd (.cells #[.int .i64 0, .int .i64 0, .slice none 0 0] 59 (0, 0))); have hb10_ : Below wd.heap.size wd (wd.alloc (.cells #[.int .i64 0, .int .i64 0, .slice none 0 0] 59 (0, 0))) := below_alloc (Below.refl _ _) _; generalize hw_ : wd.alloc (.cells #[.int .i64 0, .int .i64 0, .slice none 0 0] 59 (0, 0)) = wp10 at *; rw [← hg_] at B9 ⊢; replace BK := Aside0.mk (blk_below BK.out hb10_); replace BL := Aside0.mk (blk_below BL.out hb10_); replace HB := Aside0.mk (below_step HB.out hb10_); clear hw_ hg_; refine hK.out _ _ ⟨(blk_cell BK.out 5).trans rfl, (blk_cell BL.out 5).trans rfl, cb_y HB.out P0.out, cb_y HB.out P1.out, cb_y HB.out P2.out, cb_y HB.out R0.out, cb_y HB.out R1.out, cb_y HB.out R2.out⟩ (fun hHeld => ?_); clear hK K; refine norm_y (some 9) ?_; (refine one_y 11 (some 10) (bz 14 4095) fun K hK => ?_); refine value_ (w1 := ?_) (v := ?_) (by rfl) rfl ?_ ?_; rotate_left 2
         ·
          go_simp
          constructor
          ·
           rfl
          ·
           rfl
         obtain ⟨g10, hg_⟩ : ∃ b, b = wp10.heap.size := ⟨_, rfl⟩; (have GEg10 : w.heap.size ≤ g10 := by rw [hg_]; exact HB.out.size); (have N910 : g9 ≠ g10 := by have := blk_lt B9.out; rw [hg_]; omega); have B10 := Aside0.mk (blk_new wp10 (.cells #[.int .i64 0, .int .i64 0, .slice none 0 0] 59 (0, 0))); have hb11_ : Below wp10.heap.size wp10 (wp10.alloc (.cells #[.int .i64 0, .int .i64 0, .slice none 0 0] 59 (0, 0))) := below_alloc (Below.refl _ _) _; generalize hw_ : wp10.alloc (.cells #[.int .i64 0, .int .i64 0, .slice none 0 0] 59 (0, 0)) = wp10_11 at *; rw [← hg_] at B10 ⊢; replace BK := Aside0.mk (blk_below BK.out hb11_); replace BL := Aside0.mk (blk_below BL.out hb11_); replace B9 := Aside0.mk (blk_below B9.out hb11_); replace HB := Aside0.mk (below_step HB.out hb11_); clear hw_ hg_; refine hK.out _ _ ⟨(blk_cell BK.out 5).trans rfl, (blk_cell BL.out 5).trans rfl, cb_y HB.out P0.out, cb_y HB.out P1.out, cb_y HB.out P2.out, cb_y HB.out R0.out, cb_y HB.out R1.out, cb_y HB.out R2.out⟩ (fun hHeld => ?_); clear hK K; refine norm_y (some 10) ?_; exact norm_ (by simp only [putAll, Act.put, put_x]) (hCont (g9, g10) _ ⟨hHeld, BK, BL, B9, B10, GEg9, GEg10, N910, HB⟩)
        ·
         skip
         refine value_ (w1 := ?_) (v := ?_) (by rfl) rfl ?_ ?_; rotate_left 2
         ·
          go_simp
          constructor
          ·
           rfl
          ·
           rfl
         obtain ⟨g10, hg_⟩ : ∃ b, b = wd.heap.size := ⟨_, rfl⟩; (have GEg10 : w.heap.size ≤ g10 := by rw [hg_]; exact HB.out.size); have B10 := Aside0.mk (blk_new wd (.cells #[.int .i64 0, .int .i64 0, .slice none 0 0] 59 (0, 0))); have hb11_ : Below wd.heap.size wd (wd.alloc (.cells #[.int .i64 0, .int .i64 0, .slice none 0 0] 59 (0, 0))) := below_alloc (Below.refl _ _) _; generalize hw_ : wd.alloc (.cells #[.int .i64 0, .int .i64 0, .slice none 0 0] 59 (0, 0)) = wp11 at *; rw [← hg_] at B10 ⊢; replace BK := Aside0.mk (blk_below BK.out hb11_); replace BL := Aside0.mk (blk_below BL.out hb11_); replace HB := Aside0.mk (below_step HB.out hb11_); clear hw_ hg_; refine hK.out _ _ ⟨(blk_cell BK.out 5).trans rfl, (blk_cell BL.out 5).trans rfl, cb_y HB.out P0.out, cb_y HB.out P1.out, cb_y HB.out P2.out, cb_y HB.out R0.out, cb_y HB.out R1.out, cb_y HB.out R2.out⟩ (fun hHeld => ?_); clear hK K; refine norm_y (some 10) ?_; (refine one_y 10 (some 9) (bz 14 4095) fun K hK => ?_); refine value_ (w1 := ?_) (v := ?_) (by rfl) rfl ?_ ?_; rotate_left 2
         ·
          go_simp
          constructor
          ·
           rfl
          ·
           rfl
         obtain ⟨g9, hg_⟩ : ∃ b, b = wp11.heap.size := ⟨_, rfl⟩; (have GEg9 : w.heap.size ≤ g9 := by rw [hg_]; exact HB.out.size); (have N910 : g9 ≠ g10 := by have := blk_lt B10.out; rw [hg_]; omega); have B9 := Aside0.mk (blk_new wp11 (.cells #[.int .i64 0, .int .i64 0, .slice none 0 0] 59 (0, 0))); have hb10_ : Below wp11.heap.size wp11 (wp11.alloc (.cells #[.int .i64 0, .int .i64 0, .slice none 0 0] 59 (0, 0))) := below_alloc (Below.refl _ _) _; generalize hw_ : wp11.alloc (.cells #[.int .i64 0, .int .i64 0, .slice none 0 0] 59 (0, 0)) = wp11_10 at *; rw [← hg_] at B9 ⊢; replace BK := Aside0.mk (blk_below BK.out hb10_); replace BL := Aside0.mk (blk_below BL.out hb10_); replace B10 := Aside0.mk (blk_below B10.out hb10_); replace HB := Aside0.mk (below_step HB.out hb10_); clear hw_ hg_; refine hK.out _ _ ⟨(blk_cell BK.out 5).trans rfl, (blk_cell BL.out 5).trans rfl, cb_y HB.out P0.out, cb_y HB.out P1.out, cb_y HB.out P2.out, cb_y HB.out R0.out, cb_y HB.out R1.out, cb_y HB.out R2.out⟩ (fun hHeld => ?_); clear hK K; refine norm_y (some 9) ?_; exact norm_ (by simp only [putAll, Act.put, put_x]) (hCont (g9, g10) _ ⟨hHeld, BK, BL, B9, B10, GEg9, GEg10, N910, HB⟩)
       clear BK BL HB; rintro ⟨g9, g10⟩ wk ⟨hHeld, BK, BL, B9, B10, GEg9, GEg10, N910, HB⟩; refine norm_ (a' := ?_) ?_ ?_; rotate_left
       ·
        simp only [putAll, Act.put, put_x]; rfl
       (refine one_y 12 (none) (bz 14 8191) fun K hK => ?_); have hz0_ := (blk_cell B9.out 0).trans rfl; have hz1_ := (blk_cell B9.out 1).trans rfl; have hz2_ := (blk_cell B9.out 2).trans rfl; have hf0_ := blk_frozen B9.out 0; have hf1_ := blk_frozen B9.out 1; have hf2_ := blk_frozen B9.out 2; refine skip_ (w1 := ?_) (by rfl) rfl ?_ ?_; rotate_left; (go_simp; rfl); clear hz0_ hz1_ hz2_ hf0_ hf1_ hf2_; replace BK := Aside0.mk (blk_far BK.out (p := ⟨g9, 0, none⟩) (blk_ne_ BK.out B9.out (by decide)) (.int .i64 sl.f0.f0)); replace BL := Aside0.mk (blk_far BL.out (p := ⟨g9, 0, none⟩) (blk_ne_ BL.out B9.out (by decide)) (.int .i64 sl.f0.f0)); replace B10 := Aside0.mk (blk_far B10.out (p := ⟨g9, 0, none⟩) N910.symm (.int .i64 sl.f0.f0)); replace HB := Aside0.mk (below_set (g := g9) (j := 0) (v := .int .i64 sl.f0.f0) HB.out GEg9); have B9n := Aside0.mk (blk_set B9.out 0 (.int .i64 sl.f0.f0)); clear B9; have B9 := B9n; clear B9n; replace BK := Aside0.mk (blk_far BK.out (p := ⟨g9, 1, none⟩) (blk_ne_ BK.out B9.out (by decide)) (.int .i64 sl.f0.f1)); replace BL := Aside0.mk (blk_far BL.out (p := ⟨g9, 1, none⟩) (blk_ne_ BL.out B9.out (by decide)) (.int .i64 sl.f0.f1)); replace B10 := Aside0.mk (blk_far B10.out (p := ⟨g9, 1, none⟩) N910.symm (.int .i64 sl.f0.f1)); replace HB := Aside0.mk (below_set (g := g9) (j := 1) (v := .int .i64 sl.f0.f1) HB.out GEg9); have B9n := Aside0.mk (blk_set B9.out 1 (.int .i64 sl.f0.f1)); clear B9; have B9 := B9n; clear B9n; replace BK := Aside0.mk (blk_far BK.out (p := ⟨g9, 2, none⟩) (blk_ne_ BK.out B9.out (by decide)) (.slice A2 sl.f1.length c2)); replace BL := Aside0.mk (blk_far BL.out (p := ⟨g9, 2, none⟩) (blk_ne_ BL.out B9.out (by decide)) (.slice A2 sl.f1.length c2)); replace B10 := Aside0.mk (blk_far B10.out (p := ⟨g9, 2, none⟩) N910.symm (.slice A2 sl.f1.length c2)); replace HB := Aside0.mk (below_set (g := g9) (j := 2) (v := .slice A2 sl.f1.length c2) HB.out GEg9); have B9n := Aside0.mk (blk_put (cs' := #[.int .i64 sl.f0.f0, .int .i64 sl.f0.f1, .slice A2 sl.f1.length c2]) B9.out 2 (.slice A2 sl.f1.length c2) rfl); clear B9; have B9 := B9n; clear B9n; generalize hw_ : ((wk.setCell ⟨g9, 0, none⟩ (.int .i64 sl.f0.f0)).setCell ⟨g9, 1, none⟩ (.int .i64 sl.f0.f1)).setCell ⟨g9, 2, none⟩ (.slice A2 sl.f1.length c2) = w7 at *; clear hw_; refine hK.out _ _ ⟨(blk_cell BK.out 5).trans rfl, (blk_cell BL.out 5).trans rfl, cb_y HB.out P0.out, cb_y HB.out P1.out, cb_y HB.out P2.out, cb_y HB.out R0.out, cb_y HB.out R1.out, cb_y HB.out R2.out⟩ (fun hHeld => ?_); clear hK K; refine last_ (i := 13) (N := none) (bz 14 16383) rfl rfl (by kernel_rfl) (by decide) (fun K hK => ?_); have hz0_ := (blk_cell B10.out 0).trans rfl; have hf0_ := blk_frozen B10.out 0; have hz1_ := (blk_cell B10.out 1).trans rfl; have hf1_ := blk_frozen B10.out 1; have hz2_ := (blk_cell B10.out 2).trans rfl; have hf2_ := blk_frozen B10.out 2; refine skip_ (w1 := ?_) (by rfl) rfl ?_ ?_; rotate_left; (go_simp; rfl); refine hK.out _ _ ?_; clear hK K; refine done_ (by kernel_rfl) ?_; clear hHeld hz0_ hf0_ hz1_ hf1_ hz2_ hf2_; replace BK := Aside0.mk (blk_far BK.out (p := ⟨g10, 0, none⟩) (blk_ne_ BK.out B10.out (by decide)) (.int .i64 sl.f0.f0)); replace BL := Aside0.mk (blk_far BL.out (p := ⟨g10, 0, none⟩) (blk_ne_ BL.out B10.out (by decide)) (.int .i64 sl.f0.f0)); replace B9 := Aside0.mk (blk_far B9.out (p := ⟨g10, 0, none⟩) N910 (.int .i64 sl.f0.f0)); replace HB := Aside0.mk (below_set (g := g10) (j := 0) (v := .int .i64 sl.f0.f0) HB.out GEg10); have B10n := Aside0.mk (blk_set B10.out 0 (.int .i64 sl.f0.f0)); clear B10; have B10 := B10n; clear B10n; replace BK := Aside0.mk (blk_far BK.out (p := ⟨g10, 1, none⟩) (blk_ne_ BK.out B10.out (by decide)) (.int .i64 sl.f0.f1)); replace BL := Aside0.mk (blk_far BL.out (p := ⟨g10, 1, none⟩) (blk_ne_ BL.out B10.out (by decide)) (.int .i64 sl.f0.f1)); replace B9 := Aside0.mk (blk_far B9.out (p := ⟨g10, 1, none⟩) N910 (.int .i64 sl.f0.f1)); replace HB := Aside0.mk (below_set (g := g10) (j := 1) (v := .int .i64 sl.f0.f1) HB.out GEg10); have B10n := Aside0.mk (blk_set B10.out 1 (.int .i64 sl.f0.f1)); clear B10; have B10 := B10n; clear B10n; replace BK := Aside0.mk (blk_far BK.out (p := ⟨g10, 2, none⟩) (blk_ne_ BK.out B10.out (by decide)) (.slice B2 sl.f1.length d2)); replace BL := Aside0.mk (blk_far BL.out (p := ⟨g10, 2, none⟩) (blk_ne_ BL.out B10.out (by decide)) (.slice B2 sl.f1.length d2)); replace B9 := Aside0.mk (blk_far B9.out (p := ⟨g10, 2, none⟩) N910 (.slice B2 sl.f1.length d2)); replace HB := Aside0.mk (below_set (g := g10) (j := 2) (v := .slice B2 sl.f1.length d2) HB.out GEg10); have B10n := Aside0.mk (blk_put (cs' := #[.int .i64 sl.f0.f0, .int .i64 sl.f0.f1, .slice B2 sl.f1.length d2]) B10.out 2 (.slice B2 sl.f1.length d2) rfl); clear B10; have B10 := B10n; clear B10n; generalize hw_ : ((w7.setCell ⟨g10, 0, none⟩ (.int .i64 sl.f0.f0)).setCell ⟨g10, 1, none⟩ (.int .i64 sl.f0.f1)).setCell ⟨g10, 2, none⟩ (.slice B2 sl.f1.length d2) = w8 at *; clear hw_; have hz0_ := (blk_cell B9.out 0).trans rfl; have hy0_ := (blk_cell B10.out 0).trans rfl; have hz1_ := (blk_cell B9.out 1).trans rfl; have hy1_ := (blk_cell B10.out 1).trans rfl; have hz2_ := (blk_cell B9.out 2).trans rfl; have hy2_ := (blk_cell B10.out 2).trans rfl
       go_upto_region 15 with (fail)
       clear hz0_ hz1_ hz2_ hy0_ hy1_ hy2_; go_wp2
       go_loopg [5, 11] sl.f1.length (fun gk v5 v11 wr => ∃ j : Nat, j ≤ sl.f1.length ∧ sl.f1.length - j ≤ gk ∧ v5 = .bool true ∧ v11 = .int .i64 j ∧ Aside0 (wr.heap[g2]? = some (.cells #[.int .i64 L, .int .i64 U, .int .i64 R, .slice A3 holds.length c3, .int .i64 V, .slice (some ad) sills.length c5, .slice A6 lots.length c6] 26 (0, 0))) ∧ Aside0 (wr.heap[g3]? = some (.cells #[.int .i64 L, .int .i64 U, .int .i64 R, .slice B3 holds.length d3, .int .i64 V, .slice (some bd) sills.length d5, .slice B6 lots.length d6] 26 (0, 0))) ∧ Aside0 (Below w.heap.size w wr) ∧ Aside0 (wr.heap[g9]? = some (.cells #[.int .i64 sl.f0.f0, .int .i64 sl.f0.f1, .slice A2 sl.f1.length c2] 59 (0, 0))) ∧ Aside0 (wr.heap[g10]? = some (.cells #[.int .i64 sl.f0.f0, .int .i64 sl.f0.f1, .slice B2 sl.f1.length d2] 59 (0, 0))))
       case atStart => exact ⟨0, by omega, by omega, rfl, rfl, BK, BL, HB, B9, B10⟩
       case round =>
        clear BK BL HB B9 B10; obtain ⟨j, hj, hgj, rfl, rfl, BK, BL, HB, B9, B10⟩ := hrel; by_cases hjl : j < sl.f1.length
        ·
         (have hjz : (j : Int) < (sl.f1.length : Int) := by omega); have hz_ := (blk_cell B9.out 2).trans rfl; have hy_ := (blk_cell B10.out 2).trans rfl
         go_upto_region 18 with (fail)
         clear hz_ hy_; have hd_ := below_drew1 (Below.refl wr.heap.size wr); replace BK := Aside0.mk (blk_below BK.out hd_); replace BL := Aside0.mk (blk_below BL.out hd_); replace B9 := Aside0.mk (blk_below B9.out hd_); replace B10 := Aside0.mk (blk_below B10.out hd_); replace HB := Aside0.mk (below_step HB.out hd_); clear hd_; obtain ⟨ae, e1_, p0, p1, p2⟩ := at_T62 (Kd.C_below PC.out HB.out) (j : Int) (by omega) hjz; obtain ⟨be, e2_, r0, r1, r2⟩ := at_T62 (Kd.C_below RC.out HB.out) (j : Int) (by omega) hjz; (cases e1_); (cases e2_); rw [Int.toNat_natCast] at p0 p1 p2 r0 r1 r2; refine start_ (n := 12) (S := fun w' => w'.cell? ⟨g9, 2, none⟩ = some (.slice (some ae) sl.f1.length c2) ∧ w'.cell? ⟨g10, 2, none⟩ = some (.slice (some be) sl.f1.length d2) ∧ w'.cell? (ae.add (j * 3)) = some (.int .i64 (rd_T62 sl.f1 (j : Int)).f0) ∧ w'.cell? ⟨(ae.add (j * 3)).block, (ae.add (j * 3)).off + 1, none⟩ = some (.int .i64 (rd_T62 sl.f1 (j : Int)).f1.f0) ∧ w'.cell? ⟨(ae.add (j * 3)).block, (ae.add (j * 3)).off + 2, none⟩ = some (.int .i64 (rd_T62 sl.f1 (j : Int)).f1.f1) ∧ w'.cell? (be.add (j * 3)) = some (.int .i64 (rd_T62 sl.f1 (j : Int)).f0) ∧ w'.cell? ⟨(be.add (j * 3)).block, (be.add (j * 3)).off + 1, none⟩ = some (.int .i64 (rd_T62 sl.f1 (j : Int)).f1.f0) ∧ w'.cell? ⟨(be.add (j * 3)).block, (be.add (j * 3)).off + 2, none⟩ = some (.int .i64 (rd_T62 sl.f1 (j : Int)).f1.f1)) (ds := []) #[false, false, false, false, false, false, false, false, false, false, false, false] (by kernel_rfl) rfl rfl ⟨(blk_cell B9.out 2).trans rfl, (blk_cell B10.out 2).trans rfl, p0, p1, p2, r0, r1, r2⟩ (fun hHeld => ?_); generalize wr.drew = wd at BK BL HB B9 B10 hHeld ⊢; refine pure_y 0 (some 151) (bz 12 1) ?_; refine pure_y 2 (some 153) (bz 12 5) ?_; refine pure_y 5 (some 156) (bz 12 37) ?_; refine pure_y 7 (some 158) (bz 12 165) ?_; refine take_y 1 (some 152) (bz 12 167) hHeld ?_; refine pure_y 3 (some 154) (bz 12 175) ?_; refine take_y 4 (some 155) (bz 12 191) hHeld ?_; refine take_y 6 (some 157) (bz 12 255) hHeld ?_; refine pure_y 8 (some 159) (bz 12 511) ?_; refine take_y 9 (some 160) (bz 12 1023) hHeld ?_; refine pure_y 10 (some 161) (bz 12 2047) ?_; refine pure_y 11 (some 5) (bz 12 4095) ?_; refine done_ (by kernel_rfl) ?_; clear hHeld p0 p1 p2 r0 r1 r2; go_wp2; go_roundg (sl.f1.length - (j + 1))
         case measure => omega
         case rel => exact ⟨j + 1, by omega, by omega, rfl, by go_num, BK, BL, HB, B9, B10⟩
        ·
         (have : j = sl.f1.length := by omega); subst this; have hz_ := (blk_cell B9.out 2).trans rfl; have hy_ := (blk_cell B10.out 2).trans rfl; go_wp2; go_roundg (sills.length - (k + 1))
         case measure => omega
         case rel => exact ⟨k + 1, by omega, by omega, rfl, by go_num, BK, BL, HB⟩
      ·
       (have : k = sills.length := by omega); subst this; have hz_ := (blk_cell BK.out 5).trans rfl; have hy_ := (blk_cell BL.out 5).trans rfl; go_wp2; go_ret; exact ⟨rfl, HB.out⟩
end Go.Proofs.Ytodmemndaaiolaa.PC7
