/- Lemmas on the way to this: Which voyages and stowages are valid, how deep bow and stern may lie and whether the barge is level enough is said alike by the program and by the reference, and nothing is changed. -/
import Derived.Test.YtodmemndaaiolaaCShipDrafts1
import Derived.Test.YtodmemndaaiolaaCShipDrafts2
import Derived.Outline
import Derived.RegionTactic
import Derived.BigRegion
import Derived.ChangeAlike
import Derived.Deep.DeepCutAuto
import Derived.Deep.CutRange
import Derived.WalkMore
import Derived.RowKit
namespace Go.Proofs.Ytodmemndaaiolaa.PC7
open Go.RowKit Go.Proofs.YtodmemndaaiolaaW.PrintWords Go.Proofs.YtodmemndaaiolaaW.PrintLast Go.Proofs.YtodmemndaaiolaaW.PrintMore
attribute [local go_sem] max2_int min2_int max_two min_two max_three min_three max_four min_four
set_option linter.unusedVariables false
set_option linter.unusedSimpArgs false
mutual
def swarfref07_checkSill.l0 : Nat → Int → Int → Int → List (S62) → Option (Int)
 | 0, _, _, _, _ => none
 | k + 1, x4, x409000, x409001, x409002 => if x4 < (x409002.length : Int) then (if 0 ≤ x4 then ((swarfref07_between.f ((rd_T62 x409002 x4).f0) 0 2880).bind fun t412 => (if t412 = true then (if x4 = 0 then (swarfref07_checkSill.j1 k x4 (((rd_T62 x409002 x4).f0) != 0) x409000 x409001 x409002 ((rd_T62 x409002 x4).f0) ((rd_T62 x409002 x4).f1.f0) ((rd_T62 x409002 x4).f1.f1)) else (swarfref07_checkSill.j1 k x4 false x409000 x409001 x409002 ((rd_T62 x409002 x4).f0) ((rd_T62 x409002 x4).f1.f0) ((rd_T62 x409002 x4).f1.f1))) else (some 1))) else (none)) else (some 0)
def swarfref07_checkSill.j1 : Nat → Int → Bool → Int → Int → List (S62) → Int → Int → Int → Option (Int)
 | 0, _, _, _, _, _, _, _, _ => none
 | k + 1, x4, x43, x409000, x409001, x409002, x412000, x412001, x412002 => if x43 = true then (some 2) else (if x4 > 0 then (if 0 ≤ (wrap64 (x4 - 1)) then (if (wrap64 (x4 - 1)) < (x409002.length : Int) then (swarfref07_checkSill.j2 k x4 (decide (x412000 ≤ ((rd_T62 x409002 (wrap64 (x4 - 1))).f0))) x409000 x409001 x409002 x412000 x412001 x412002) else (none)) else (none)) else (swarfref07_checkSill.j2 k x4 false x409000 x409001 x409002 x412000 x412001 x412002))
def swarfref07_checkSill.j2 : Nat → Int → Bool → Int → Int → List (S62) → Int → Int → Int → Option (Int)
 | 0, _, _, _, _, _, _, _, _ => none
 | k + 1, x4, x57, x409000, x409001, x409002, x412000, x412001, x412002 => if x57 = true then (some 5) else ((swarfref07_checkRange.f k x412001 x412002 10000).bind fun t414 => (if t414 = 0 then (swarfref07_checkSill.l0 k (wrap64 (x4 + 1)) x409000 x409001 x409002) else (some t414)))
end
def swarfref07_checkSill.f (k : Nat) (a0_0 : Int) (a0_1 : Int) (l0_2 : List (S62)) : Option (Int) := (swarfref07_checkRange.f k a0_0 a0_1 2880).bind fun t409 => (if t409 = 0 then (if (l0_2.length : Int) = 0 then (some 7) else (if (l0_2.length : Int) > 6 then (some 6) else (swarfref07_checkSill.l0 k 0 a0_0 a0_1 l0_2))) else (some t409))
set_option maxHeartbeats 8000000 in
set_option maxRecDepth 100000 in
theorem swarfref07_checkSill.calls (k : Nat) (a0_0 : Int) (a0_1 : Int) (A0_2 : Option Addr) (c0_2 : Nat) (l0_2 : List (S62)) (r : Int) (w : World) (hr0_2 : Kd.C k62 w A0_2 l0_2.length l0_2) (hc0_2 : l0_2.length ≤ c0_2) (h : swarfref07_checkSill.f k a0_0 a0_1 l0_2 = some r) :
  Calls Try.prog 59 #[.agg #[.int .i64 a0_0, .int .i64 a0_1, .slice A0_2 l0_2.length c0_2]] w fun e w' => e = .returned (.int .i64 r) ∧ Below w.heap.size w w' := by
 have hu59 := Try.underlying59
 have hu56 := Try.underlying56
 have hu62 := Try.underlying62
 have HR0_2 := Aside0.mk hr0_2
 have HC0_2 := Aside0.mk hc0_2
 clear hr0_2 hc0_2
 have HB := Aside0.mk (Below.refl w.heap.size w)
 have H : ((swarfref07_checkRange.f k a0_0 a0_1 2880).bind fun t409 => (if t409 = 0 then (if (l0_2.length : Int) = 0 then (some 7) else (if (l0_2.length : Int) > 6 then (some 6) else (swarfref07_checkSill.l0 k 0 a0_0 a0_1 l0_2))) else (some t409))) = some r := h
 clear h
 replace H := Option.bind_eq_some_iff.mp H
 obtain ⟨t409, A20, H⟩ := H
 try dsimp only at H
 have A2 := Aside0.mk A20
 clear A20
 by_cases c3 : t409 = 0
 ·
  rw [if_pos c3] at H; have c3b0 : (t409 == 0) = true := beq_iff_eq.mpr c3; have c3b1 : (t409 != 0) = false := bne_eq_false_iff_eq.mpr c3; clear c3; by_cases c4 : (l0_2.length : Int) = 0
  ·
   rw [if_pos c4] at H; have c4b0 : ((l0_2.length : Int) == 0) = true := beq_iff_eq.mpr c4; have c4b1 : ((l0_2.length : Int) != 0) = false := bne_eq_false_iff_eq.mpr c4; clear c4; obtain rfl := Option.some.inj H; go_enter Try.func59, Try.ntmps59
   go_wp2_with (first | (refine box_r (N := 1) rfl (cs := #[.int .i64 a0_0, .int .i64 a0_1, .slice A0_2 l0_2.length c0_2]) (t := 59) ?_; intro gb408 hg w5 hbox hb; have BK408 := Aside0.mk (hbox); have GW408 := gw_x hg HB; have GE408 := GW408; replace HB := Aside0.mk (below_step (below_x HB.out) hb); clear hb hbox hg; obtain ⟨hfz6_0, _, _, _⟩ := cf3 BK408) | (go_at_call 60; (with_reducible refine (swarfref07_checkRange.calls k a0_0 a0_1 2880 t409 _ A2.out).mono ?_); rintro e w7 ⟨rfl, hb⟩; replace BK408 := bk_x BK408 hb; replace HB := bl_x HB hb; (try clear hb); (try clear hk); (try clear hi); obtain ⟨hfz8_0, _, _, _⟩ := cf3 BK408))
   repeat (go_quiet (first | (refine box_r (N := 1) rfl (cs := #[.int .i64 a0_0, .int .i64 a0_1, .slice A0_2 l0_2.length c0_2]) (t := 59) ?_; intro gb408 hg w5 hbox hb; have BK408 := Aside0.mk (hbox); have GW408 := gw_x hg HB; have GE408 := GW408; replace HB := Aside0.mk (below_step (below_x HB.out) hb); clear hb hbox hg; obtain ⟨hfz6_0, _, _, _⟩ := cf3 BK408) | (go_at_call 60; (with_reducible refine (swarfref07_checkRange.calls k a0_0 a0_1 2880 t409 _ A2.out).mono ?_); rintro e w7 ⟨rfl, hb⟩; replace BK408 := bk_x BK408 hb; replace HB := bl_x HB hb; (try clear hb); (try clear hk); (try clear hi); obtain ⟨hfz8_0, _, _, _⟩ := cf3 BK408)); try go_wp2_with (first | (refine box_r (N := 1) rfl (cs := #[.int .i64 a0_0, .int .i64 a0_1, .slice A0_2 l0_2.length c0_2]) (t := 59) ?_; intro gb408 hg w5 hbox hb; have BK408 := Aside0.mk (hbox); have GW408 := gw_x hg HB; have GE408 := GW408; replace HB := Aside0.mk (below_step (below_x HB.out) hb); clear hb hbox hg; obtain ⟨hfz6_0, _, _, _⟩ := cf3 BK408) | (go_at_call 60; (with_reducible refine (swarfref07_checkRange.calls k a0_0 a0_1 2880 t409 _ A2.out).mono ?_); rintro e w7 ⟨rfl, hb⟩; replace BK408 := bk_x BK408 hb; replace HB := bl_x HB hb; (try clear hb); (try clear hk); (try clear hi); obtain ⟨hfz8_0, _, _, _⟩ := cf3 BK408)))
   go_ret; exact rt_y HB
  ·
   rw [if_neg c4] at H; have c4b0 : ((l0_2.length : Int) == 0) = false := beq_eq_false_iff_ne.mpr c4; have c4b1 : ((l0_2.length : Int) != 0) = true := bne_iff_ne.mpr c4; (have c4b2 : ¬ (l0_2 = []) := fun h_ => c4 (by rw [h_]; rfl)); by_cases c9 : (l0_2.length : Int) > 6
   ·
    rw [if_pos c9] at H; have c9b0 : decide (6 < (l0_2.length : Int)) = true := decide_eq_true c9; have c9b1 : decide (6 < l0_2.length) = true := decide_eq_true (by omega); clear c9; obtain rfl := Option.some.inj H; go_enter Try.func59, Try.ntmps59
    go_wp2_with (first | (refine box_r (N := 1) rfl (cs := #[.int .i64 a0_0, .int .i64 a0_1, .slice A0_2 l0_2.length c0_2]) (t := 59) ?_; intro gb408 hg w10 hbox hb; have BK408 := Aside0.mk (hbox); have GW408 := gw_x hg HB; have GE408 := GW408; replace HB := Aside0.mk (below_step (below_x HB.out) hb); clear hb hbox hg; obtain ⟨hfz11_0, _, _, _⟩ := cf3 BK408) | (go_at_call 60; (with_reducible refine (swarfref07_checkRange.calls k a0_0 a0_1 2880 t409 _ A2.out).mono ?_); rintro e w12 ⟨rfl, hb⟩; replace BK408 := bk_x BK408 hb; replace HB := bl_x HB hb; (try clear hb); (try clear hk); (try clear hi); obtain ⟨hfz13_0, _, _, _⟩ := cf3 BK408))
    repeat (go_quiet (first | (refine box_r (N := 1) rfl (cs := #[.int .i64 a0_0, .int .i64 a0_1, .slice A0_2 l0_2.length c0_2]) (t := 59) ?_; intro gb408 hg w10 hbox hb; have BK408 := Aside0.mk (hbox); have GW408 := gw_x hg HB; have GE408 := GW408; replace HB := Aside0.mk (below_step (below_x HB.out) hb); clear hb hbox hg; obtain ⟨hfz11_0, _, _, _⟩ := cf3 BK408) | (go_at_call 60; (with_reducible refine (swarfref07_checkRange.calls k a0_0 a0_1 2880 t409 _ A2.out).mono ?_); rintro e w12 ⟨rfl, hb⟩; replace BK408 := bk_x BK408 hb; replace HB := bl_x HB hb; (try clear hb); (try clear hk); (try clear hi); obtain ⟨hfz13_0, _, _, _⟩ := cf3 BK408)); try go_wp2_with (first | (refine box_r (N := 1) rfl (cs := #[.int .i64 a0_0, .int .i64 a0_1, .slice A0_2 l0_2.length c0_2]) (t := 59) ?_; intro gb408 hg w10 hbox hb; have BK408 := Aside0.mk (hbox); have GW408 := gw_x hg HB; have GE408 := GW408; replace HB := Aside0.mk (below_step (below_x HB.out) hb); clear hb hbox hg; obtain ⟨hfz11_0, _, _, _⟩ := cf3 BK408) | (go_at_call 60; (with_reducible refine (swarfref07_checkRange.calls k a0_0 a0_1 2880 t409 _ A2.out).mono ?_); rintro e w12 ⟨rfl, hb⟩; replace BK408 := bk_x BK408 hb; replace HB := bl_x HB hb; (try clear hb); (try clear hk); (try clear hi); obtain ⟨hfz13_0, _, _, _⟩ := cf3 BK408)))
    go_ret; exact rt_y HB
   ·
    rw [if_neg c9] at H; have c9b0 : decide (6 < (l0_2.length : Int)) = false := decide_eq_false c9; have c9b1 : decide (6 < l0_2.length) = false := decide_eq_false (by omega); clear c9; have H' := Aside0.mk H; clear H; go_enter Try.func59, Try.ntmps59
    go_wp2_with (first | (refine box_r (N := 1) rfl (cs := #[.int .i64 a0_0, .int .i64 a0_1, .slice A0_2 l0_2.length c0_2]) (t := 59) ?_; intro gb408 hg w14 hbox hb; have BK408 := Aside0.mk (hbox); have GW408 := gw_x hg HB; have GE408 := GW408; replace HB := Aside0.mk (below_step (below_x HB.out) hb); clear hb hbox hg; obtain ⟨hfz15_0, _, _, _⟩ := cf3 BK408) | (go_at_call 60; (with_reducible refine (swarfref07_checkRange.calls k a0_0 a0_1 2880 t409 _ A2.out).mono ?_); rintro e w16 ⟨rfl, hb⟩; replace BK408 := bk_x BK408 hb; replace HB := bl_x HB hb; (try clear hb); (try clear hk); (try clear hi); obtain ⟨hfz17_0, _, _, _⟩ := cf3 BK408))
    repeat (go_quiet (first | (refine box_r (N := 1) rfl (cs := #[.int .i64 a0_0, .int .i64 a0_1, .slice A0_2 l0_2.length c0_2]) (t := 59) ?_; intro gb408 hg w14 hbox hb; have BK408 := Aside0.mk (hbox); have GW408 := gw_x hg HB; have GE408 := GW408; replace HB := Aside0.mk (below_step (below_x HB.out) hb); clear hb hbox hg; obtain ⟨hfz15_0, _, _, _⟩ := cf3 BK408) | (go_at_call 60; (with_reducible refine (swarfref07_checkRange.calls k a0_0 a0_1 2880 t409 _ A2.out).mono ?_); rintro e w16 ⟨rfl, hb⟩; replace BK408 := bk_x BK408 hb; replace HB := bl_x HB hb; (try clear hb); (try clear hk); (try clear hi); obtain ⟨hfz17_0, _, _, _⟩ := cf3 BK408)); try go_wp2_with (first | (refine box_r (N := 1) rfl (cs := #[.int .i64 a0_0, .int .i64 a0_1, .slice A0_2 l0_2.length c0_2]) (t := 59) ?_; intro gb408 hg w14 hbox hb; have BK408 := Aside0.mk (hbox); have GW408 := gw_x hg HB; have GE408 := GW408; replace HB := Aside0.mk (below_step (below_x HB.out) hb); clear hb hbox hg; obtain ⟨hfz15_0, _, _, _⟩ := cf3 BK408) | (go_at_call 60; (with_reducible refine (swarfref07_checkRange.calls k a0_0 a0_1 2880 t409 _ A2.out).mono ?_); rintro e w16 ⟨rfl, hb⟩; replace BK408 := bk_x BK408 hb; replace HB := bl_x HB hb; (try clear hb); (try clear hk); (try clear hi); obtain ⟨hfz17_0, _, _, _⟩ := cf3 BK408)))
    go_loopg [4] k (fun kq v4 w' => ∃ (x4_1 : Int), v4 = .int .i64 x4_1 ∧ Aside0 (swarfref07_checkSill.l0 kq x4_1 a0_0 a0_1 l0_2 = some r) ∧ Aside0 (kq ≤ k) ∧ Aside0 (w'.heap[gb408]? = some (.cells #[.int .i64 a0_0, .int .i64 a0_1, (.slice A0_2 l0_2.length c0_2)] 59 (0, 0))) ∧ Aside0 (Below w.heap.size w w'))
    case atStart => exact ⟨(0), (by first | rfl | (simp; done) | (simp [*]; done)), H', ⟨Nat.le_refl _⟩, ⟨blk_x BK408.out⟩, ⟨by exact below_y HB.out⟩⟩
    case round =>
     clear H'; obtain ⟨x4_1, rfl, HA, HK1, BK408, HB⟩ := hrel; cases gk with
     | zero => exact absurd HA.out (by simp [swarfref07_checkSill.l0])
     | succ k1 =>
      have H := HA.out; clear HA; simp only [swarfref07_checkSill.l0] at H; by_cases c18 : x4_1 < (l0_2.length : Int)
      ·
       rw [if_pos c18] at H; have c18b0 : decide (x4_1 < (l0_2.length : Int)) = true := decide_eq_true c18; clear c18; by_cases c19 : 0 ≤ x4_1
       ·
        rw [if_pos c19] at H; have c19b0 : decide (0 ≤ x4_1) = true := decide_eq_true c19; clear c19; replace H := Option.bind_eq_some_iff.mp H; obtain ⟨t412, A200, H⟩ := H
        try dsimp only at H
        have A20 := Aside0.mk A200; clear A200; by_cases c21 : t412 = true
        ·
         subst c21; (have H1 : (if x4_1 = 0 then (swarfref07_checkSill.j1 k1 x4_1 (((rd_T62 l0_2 x4_1).f0) != 0) a0_0 a0_1 l0_2 ((rd_T62 l0_2 x4_1).f0) ((rd_T62 l0_2 x4_1).f1.f0) ((rd_T62 l0_2 x4_1).f1.f1)) else (swarfref07_checkSill.j1 k1 x4_1 false a0_0 a0_1 l0_2 ((rd_T62 l0_2 x4_1).f0) ((rd_T62 l0_2 x4_1).f1.f0) ((rd_T62 l0_2 x4_1).f1.f1))) = some r := by rw [if_pos rfl] at H; exact H); clear H; have H := H1; clear H1; have HC22 := Aside0.mk H; clear H; obtain ⟨hfz23_0, _, _, _⟩ := cf3 BK408; have p410 : 0 ≤ (x4_1 : Int) := of_x; have q410 : x4_1 < (l0_2.length : Int) := of_x; obtain ⟨ad410, e410, hx410_0, hx410_1, hx410_2⟩ := at_T62 HR0_2.out x4_1 p410 q410; (cases e410); replace hx410_0 := cell_x HB hx410_0; replace hx410_1 := cell_x HB hx410_1; replace hx410_2 := cell_x HB hx410_2; replace p410 := eq_true p410; replace q410 := eq_true q410
         go_upto_region 14 with (first | (refine box_r (N := 5) rfl (cs := #[.int .i64 0, .int .i64 0, .int .i64 0]) (t := 62) ?_; intro gb411 hg w24 hbox hb; have BK411 := Aside0.mk (hbox); have GW411 := gw_x hg HB; have GE411 := GW411; replace HB := bl_x HB hb; have NB408_411 := nb_x hg BK408; have NB411_408 := nb_y hg BK408; replace BK408 := bk_x BK408 hb; clear hb hbox hg; have hnb25 := NB411_408.out; have hnc25 := NB408_411.out; obtain ⟨hfz26_0, _, _, _⟩ := cf3 BK411) | (go_at_call 61; (with_reducible refine (swarfref07_between.calls ((rd_T62 l0_2 x4_1).f0) 0 2880 true _ A20.out).mono ?_); rintro e w' ⟨rfl, ⟨nd, rfl⟩⟩; (try first | exact ⟨rfl, _, World.drewN_drewN _ _ _⟩ | exact ⟨rfl, _, Eq.trans (World.drewN_drewN _ _ _) (congrArg (World.drewN _) (Nat.add_assoc _ _ _))⟩)))
         repeat (go_quiet (first | (refine box_r (N := 5) rfl (cs := #[.int .i64 0, .int .i64 0, .int .i64 0]) (t := 62) ?_; intro gb411 hg w24 hbox hb; have BK411 := Aside0.mk (hbox); have GW411 := gw_x hg HB; have GE411 := GW411; replace HB := bl_x HB hb; have NB408_411 := nb_x hg BK408; have NB411_408 := nb_y hg BK408; replace BK408 := bk_x BK408 hb; clear hb hbox hg; have hnb25 := NB411_408.out; have hnc25 := NB408_411.out; obtain ⟨hfz26_0, _, _, _⟩ := cf3 BK411) | (go_at_call 61; (with_reducible refine (swarfref07_between.calls ((rd_T62 l0_2 x4_1).f0) 0 2880 true _ A20.out).mono ?_); rintro e w' ⟨rfl, ⟨nd, rfl⟩⟩; (try first | exact ⟨rfl, _, World.drewN_drewN _ _ _⟩ | exact ⟨rfl, _, Eq.trans (World.drewN_drewN _ _ _) (congrArg (World.drewN _) (Nat.add_assoc _ _ _))⟩))); go_upto_region 14 with (first | (refine box_r (N := 5) rfl (cs := #[.int .i64 0, .int .i64 0, .int .i64 0]) (t := 62) ?_; intro gb411 hg w24 hbox hb; have BK411 := Aside0.mk (hbox); have GW411 := gw_x hg HB; have GE411 := GW411; replace HB := bl_x HB hb; have NB408_411 := nb_x hg BK408; have NB411_408 := nb_y hg BK408; replace BK408 := bk_x BK408 hb; clear hb hbox hg; have hnb25 := NB411_408.out; have hnc25 := NB408_411.out; obtain ⟨hfz26_0, _, _, _⟩ := cf3 BK411) | (go_at_call 61; (with_reducible refine (swarfref07_between.calls ((rd_T62 l0_2 x4_1).f0) 0 2880 true _ A20.out).mono ?_); rintro e w' ⟨rfl, ⟨nd, rfl⟩⟩; (try first | exact ⟨rfl, _, World.drewN_drewN _ _ _⟩ | exact ⟨rfl, _, Eq.trans (World.drewN_drewN _ _ _) (congrArg (World.drewN _) (Nat.add_assoc _ _ _))⟩))))
         (try simp only [Act.put, put_x])
         go_cut [43] (fun v43 wc => ∃ (kq : Nat) (x43_21 : Bool), v43 = .bool x43_21 ∧ Aside0 (swarfref07_checkSill.j1 kq x4_1 x43_21 a0_0 a0_1 l0_2 ((rd_T62 l0_2 x4_1).f0) ((rd_T62 l0_2 x4_1).f1.f0) ((rd_T62 l0_2 x4_1).f1.f1) = some r) ∧ Aside0 (kq ≤ k1) ∧ Aside0 (wc.heap[gb408]? = some (.cells #[.int .i64 a0_0, .int .i64 a0_1, (.slice (some ad410) l0_2.length c0_2)] 59 (0, 0))) ∧ Aside0 (wc.heap[gb411]? = some (.cells #[.int .i64 ((rd_T62 l0_2 x4_1).f0), .int .i64 ((rd_T62 l0_2 x4_1).f1.f0), .int .i64 ((rd_T62 l0_2 x4_1).f1.f1)] 62 (0, 0))) ∧ Aside0 (Below w.heap.size w wc))
         case first =>
          have H := HC22.out; clear HC22; by_cases c27 : x4_1 = 0
          ·
           rw [if_pos c27] at H; have c27b0 : (x4_1 == 0) = true := beq_iff_eq.mpr c27; have c27b1 : (x4_1 != 0) = false := bne_eq_false_iff_eq.mpr c27; clear c27
           (first | rw [c27b0] | (simp only [i64_w, i32_w]; rw [c27b0]) | skip)
           have H' := Aside0.mk H; clear H; have hnb28 := NB411_408.out; have hnc28 := NB408_411.out; obtain ⟨hfz29_0, _, _, _⟩ := cf3 BK411; go_wp2
           repeat (go_quiet (fail); try go_wp2)
           go_meet
           case rel => exact ⟨_, ((((rd_T62 l0_2 x4_1).f0) != 0)), (by first | rfl | (simp; done) | (simp [*]; done)), H', ⟨by have := HK1.out; first | omega | exact Nat.le_refl _⟩, ⟨blk_w BK408.out⟩, ⟨blk_z BK411.out⟩, ⟨by exact below_y HB.out⟩⟩
          ·
           rw [if_neg c27] at H; have c27b0 : (x4_1 == 0) = false := beq_eq_false_iff_ne.mpr c27; have c27b1 : (x4_1 != 0) = true := bne_iff_ne.mpr c27
           (first | rw [c27b0] | (simp only [i64_w, i32_w]; rw [c27b0]) | skip)
           have H' := Aside0.mk H; clear H; go_wp2
           repeat (go_quiet (fail); try go_wp2)
           go_meet
           case rel => exact ⟨_, (false), (by first | rfl | (simp; done) | (simp [*]; done)), H', ⟨by have := HK1.out; first | omega | exact Nat.le_refl _⟩, ⟨blk_w BK408.out⟩, ⟨blk_z BK411.out⟩, ⟨by exact below_y HB.out⟩⟩
         case rest =>
          clear HC22; obtain ⟨kq, x43_21, rfl, HA, HJ21, BK408, BK411, HB⟩ := hcut; cases kq with
          | zero => exact absurd HA.out (by simp [swarfref07_checkSill.j1])
          | succ kj21 =>
           have H := HA.out; clear HA; simp only [swarfref07_checkSill.j1] at H; by_cases c30 : x43_21 = true
           ·
            subst c30; (have H1 : (some 2) = some r := by rw [if_pos rfl] at H; exact H); clear H; have H := H1; clear H1; obtain rfl := Option.some.inj H; go_wp2
            repeat (go_quiet (fail); try go_wp2)
            go_ret; exact rt_y HB
           ·
            replace c30 := Bool.eq_false_iff.mpr c30; subst c30; replace H : (if x4_1 > 0 then (if 0 ≤ (wrap64 (x4_1 - 1)) then (if (wrap64 (x4_1 - 1)) < (l0_2.length : Int) then (swarfref07_checkSill.j2 kj21 x4_1 (decide (((rd_T62 l0_2 x4_1).f0) ≤ ((rd_T62 l0_2 (wrap64 (x4_1 - 1))).f0))) a0_0 a0_1 l0_2 ((rd_T62 l0_2 x4_1).f0) ((rd_T62 l0_2 x4_1).f1.f0) ((rd_T62 l0_2 x4_1).f1.f1)) else (none)) else (none)) else (swarfref07_checkSill.j2 kj21 x4_1 false a0_0 a0_1 l0_2 ((rd_T62 l0_2 x4_1).f0) ((rd_T62 l0_2 x4_1).f1.f0) ((rd_T62 l0_2 x4_1).f1.f1))) = some r := ifn_x H; have HC31 := Aside0.mk H; clear H
            go_upto_region 16 with (fail)
            repeat (go_quiet (fail); go_upto_region 16 with (fail))
            go_cut [57] (fun v57 wc => ∃ (kq : Nat) (x57_30 : Bool), v57 = .bool x57_30 ∧ Aside0 (swarfref07_checkSill.j2 kq x4_1 x57_30 a0_0 a0_1 l0_2 ((rd_T62 l0_2 x4_1).f0) ((rd_T62 l0_2 x4_1).f1.f0) ((rd_T62 l0_2 x4_1).f1.f1) = some r) ∧ Aside0 (kq ≤ kj21) ∧ Aside0 (wc.heap[gb408]? = some (.cells #[.int .i64 a0_0, .int .i64 a0_1, (.slice (some ad410) l0_2.length c0_2)] 59 (0, 0))) ∧ Aside0 (wc.heap[gb411]? = some (.cells #[.int .i64 ((rd_T62 l0_2 x4_1).f0), .int .i64 ((rd_T62 l0_2 x4_1).f1.f0), .int .i64 ((rd_T62 l0_2 x4_1).f1.f1)] 62 (0, 0))) ∧ Aside0 (Below w.heap.size w wc))
            case first =>
             have H := HC31.out; clear HC31; by_cases c32 : x4_1 > 0
             ·
              rw [if_pos c32] at H; have c32b0 : decide (0 < x4_1) = true := decide_eq_true c32; clear c32
              (first | rw [c32b0] | (simp only [i64_w, i32_w]; rw [c32b0]) | skip)
              obtain ⟨ji33, hji33⟩ : ∃ j_ : Int, (wrap64 (x4_1 - 1)) = j_ := ⟨_, rfl⟩; (replace H : (if 0 ≤ (ji33) then (if (ji33) < (l0_2.length : Int) then (swarfref07_checkSill.j2 kj21 x4_1 (decide (((rd_T62 l0_2 x4_1).f0) ≤ ((rd_T62 l0_2 (ji33)).f0))) a0_0 a0_1 l0_2 ((rd_T62 l0_2 x4_1).f0) ((rd_T62 l0_2 x4_1).f1.f0) ((rd_T62 l0_2 x4_1).f1.f1)) else (none)) else (none)) = some r := by first | (rw [hji33] at H; exact H) | (simp only [hji33] at H ⊢; exact H)); have hji33w : (IntKind.i64.wrap (x4_1 - 1)) = ji33 := (i64_w _).trans hji33; by_cases c34 : 0 ≤ (ji33)
              ·
               rw [if_pos c34] at H; have c34b0 : decide (0 ≤ (ji33)) = true := decide_eq_true c34; clear c34; by_cases c35 : (ji33) < (l0_2.length : Int)
               ·
                rw [if_pos c35] at H; have c35b0 : decide ((ji33) < (l0_2.length : Int)) = true := decide_eq_true c35; clear c35; have H' := Aside0.mk H; clear H; have hnb36 := NB411_408.out; have hnc36 := NB408_411.out; obtain ⟨hfz37_0, _, _, _⟩ := cf3 BK411; obtain ⟨hfz38_0, _, _, _⟩ := cf3 BK408; have p413 : 0 ≤ ((ji33) : Int) := of_x; have q413 : (ji33) < (l0_2.length : Int) := of_x; obtain ⟨ad413, e413, hx413_0, hx413_1, hx413_2⟩ := at_T62 HR0_2.out (ji33) p413 q413; obtain rfl : ad410 = ad413 := (by injection e413); replace hx413_0 := cell_x HB hx413_0; replace hx413_1 := cell_x HB hx413_1; replace hx413_2 := cell_x HB hx413_2; replace p413 := eq_true p413; replace q413 := eq_true q413; go_wp2
                repeat (go_quiet (fail); try go_wp2)
                go_meet
                case rel => exact ⟨_, (decide (((rd_T62 l0_2 x4_1).f0) ≤ ((rd_T62 l0_2 (ji33)).f0))), (by first | rfl | (simp; done) | (simp only [← hji33] <;> (first | rfl | simp)) | (simp [*]; done)), H', ⟨by have := HK1.out; have := HJ21.out; first | omega | exact Nat.le_refl _⟩, ⟨blk_x BK408.out⟩, ⟨blk_x BK411.out⟩, ⟨by exact below_y HB.out⟩⟩
               ·
                rw [if_neg c35] at H; exact absurd H (by simp)
              ·
               rw [if_neg c34] at H; exact absurd H (by simp)
             ·
              rw [if_neg c32] at H; have c32b0 : decide (0 < x4_1) = false := decide_eq_false c32; clear c32
              (first | rw [c32b0] | (simp only [i64_w, i32_w]; rw [c32b0]) | skip)
              have H' := Aside0.mk H; clear H; go_wp2
              repeat (go_quiet (fail); try go_wp2)
              go_meet
              case rel => exact ⟨_, (false), (by first | rfl | (simp; done) | (simp [*]; done)), H', ⟨by have := HK1.out; have := HJ21.out; first | omega | exact Nat.le_refl _⟩, ⟨blk_x BK408.out⟩, ⟨blk_x BK411.out⟩, ⟨by exact below_y HB.out⟩⟩
            case rest =>
             clear HC31; obtain ⟨kq, x57_30, rfl, HA, HJ30, BK408, BK411, HB⟩ := hcut; cases kq with
             | zero => exact absurd HA.out (by simp [swarfref07_checkSill.j2])
             | succ kj30 =>
              have H := HA.out; clear HA; simp only [swarfref07_checkSill.j2] at H; by_cases c39 : x57_30 = true
              ·
               subst c39; (have H1 : (some 5) = some r := by rw [if_pos rfl] at H; exact H); clear H; have H := H1; clear H1; obtain rfl := Option.some.inj H; go_wp2
               repeat (go_quiet (fail); try go_wp2)
               go_ret; exact rt_y HB
              ·
               replace c39 := Bool.eq_false_iff.mpr c39; subst c39; replace H : ((swarfref07_checkRange.f kj30 ((rd_T62 l0_2 x4_1).f1.f0) ((rd_T62 l0_2 x4_1).f1.f1) 10000).bind fun t414 => (if t414 = 0 then (swarfref07_checkSill.l0 kj30 (wrap64 (x4_1 + 1)) a0_0 a0_1 l0_2) else (some t414))) = some r := ifn_x H; replace H := Option.bind_eq_some_iff.mp H; obtain ⟨t414, A400, H⟩ := H
               try dsimp only at H
               have A40 := Aside0.mk A400; clear A400; by_cases c41 : t414 = 0
               ·
                rw [if_pos c41] at H; have c41b0 : (t414 == 0) = true := beq_iff_eq.mpr c41; have c41b1 : (t414 != 0) = false := bne_eq_false_iff_eq.mpr c41; clear c41; have H' := Aside0.mk H; clear H; have hnb42 := NB411_408.out; have hnc42 := NB408_411.out; obtain ⟨hfz43_0, _, _, _⟩ := cf3 BK411
                go_wp2_with (first | (go_at_call 60; (with_reducible refine (swarfref07_checkRange.calls kj30 ((rd_T62 l0_2 x4_1).f1.f0) ((rd_T62 l0_2 x4_1).f1.f1) 10000 t414 _ A40.out).mono ?_); rintro e w44 ⟨rfl, hb⟩; replace BK408 := bk_x BK408 hb; replace BK411 := bk_x BK411 hb; replace HB := bl_x HB hb; (try clear hb); (try clear hk); (try clear hi)))
                repeat (go_quiet (first | (go_at_call 60; (with_reducible refine (swarfref07_checkRange.calls kj30 ((rd_T62 l0_2 x4_1).f1.f0) ((rd_T62 l0_2 x4_1).f1.f1) 10000 t414 _ A40.out).mono ?_); rintro e w44 ⟨rfl, hb⟩; replace BK408 := bk_x BK408 hb; replace BK411 := bk_x BK411 hb; replace HB := bl_x HB hb; (try clear hb); (try clear hk); (try clear hi))); try go_wp2_with (first | (go_at_call 60; (with_reducible refine (swarfref07_checkRange.calls kj30 ((rd_T62 l0_2 x4_1).f1.f0) ((rd_T62 l0_2 x4_1).f1.f1) 10000 t414 _ A40.out).mono ?_); rintro e w44 ⟨rfl, hb⟩; replace BK408 := bk_x BK408 hb; replace BK411 := bk_x BK411 hb; replace HB := bl_x HB hb; (try clear hb); (try clear hk); (try clear hi))))
                go_roundg kj30
                case measure => have := HK1.out; have := HJ21.out; have := HJ30.out; omega
                case rel => exact ⟨(wrap64 (x4_1 + 1)), (by first | rfl | (simp; done) | (simp [*]; done)), H', ⟨by have := HK1.out; have := HJ21.out; have := HJ30.out; omega⟩, ⟨blk_x BK408.out⟩, ⟨by exact below_y HB.out⟩⟩
               ·
                rw [if_neg c41] at H; have c41b0 : (t414 == 0) = false := beq_eq_false_iff_ne.mpr c41; have c41b1 : (t414 != 0) = true := bne_iff_ne.mpr c41; obtain rfl := Option.some.inj H; have hnb45 := NB411_408.out; have hnc45 := NB408_411.out; obtain ⟨hfz46_0, _, _, _⟩ := cf3 BK411
                go_wp2_with (first | (go_at_call 60; (with_reducible refine (swarfref07_checkRange.calls kj30 ((rd_T62 l0_2 x4_1).f1.f0) ((rd_T62 l0_2 x4_1).f1.f1) 10000 t414 _ A40.out).mono ?_); rintro e w47 ⟨rfl, hb⟩; replace BK408 := bk_x BK408 hb; replace BK411 := bk_x BK411 hb; replace HB := bl_x HB hb; (try clear hb); (try clear hk); (try clear hi)))
                repeat (go_quiet (first | (go_at_call 60; (with_reducible refine (swarfref07_checkRange.calls kj30 ((rd_T62 l0_2 x4_1).f1.f0) ((rd_T62 l0_2 x4_1).f1.f1) 10000 t414 _ A40.out).mono ?_); rintro e w47 ⟨rfl, hb⟩; replace BK408 := bk_x BK408 hb; replace BK411 := bk_x BK411 hb; replace HB := bl_x HB hb; (try clear hb); (try clear hk); (try clear hi))); try go_wp2_with (first | (go_at_call 60; (with_reducible refine (swarfref07_checkRange.calls kj30 ((rd_T62 l0_2 x4_1).f1.f0) ((rd_T62 l0_2 x4_1).f1.f1) 10000 t414 _ A40.out).mono ?_); rintro e w47 ⟨rfl, hb⟩; replace BK408 := bk_x BK408 hb; replace BK411 := bk_x BK411 hb; replace HB := bl_x HB hb; (try clear hb); (try clear hk); (try clear hi))))
                go_ret; exact rt_y HB
        ·
         replace c21 := Bool.eq_false_iff.mpr c21; subst c21; replace H : (some 1) = some r := ifn_x H; obtain rfl := Option.some.inj H; obtain ⟨hfz48_0, _, _, _⟩ := cf3 BK408; have p410 : 0 ≤ (x4_1 : Int) := of_x; have q410 : x4_1 < (l0_2.length : Int) := of_x; obtain ⟨ad410, e410, hx410_0, hx410_1, hx410_2⟩ := at_T62 HR0_2.out x4_1 p410 q410; (cases e410); replace hx410_0 := cell_x HB hx410_0; replace hx410_1 := cell_x HB hx410_1; replace hx410_2 := cell_x HB hx410_2; replace p410 := eq_true p410; replace q410 := eq_true q410
         go_wp2_with (first | (refine box_r (N := 5) rfl (cs := #[.int .i64 0, .int .i64 0, .int .i64 0]) (t := 62) ?_; intro gb411 hg w49 hbox hb; have BK411 := Aside0.mk (hbox); have GW411 := gw_x hg HB; have GE411 := GW411; replace HB := bl_x HB hb; have NB408_411 := nb_x hg BK408; have NB411_408 := nb_y hg BK408; replace BK408 := bk_x BK408 hb; clear hb hbox hg; have hnb50 := NB411_408.out; have hnc50 := NB408_411.out; obtain ⟨hfz51_0, _, _, _⟩ := cf3 BK411) | (go_at_call 61; (with_reducible refine (swarfref07_between.calls ((rd_T62 l0_2 x4_1).f0) 0 2880 false _ A20.out).mono ?_); rintro e w' ⟨rfl, ⟨nd, rfl⟩⟩; (try first | exact ⟨rfl, _, World.drewN_drewN _ _ _⟩ | exact ⟨rfl, _, Eq.trans (World.drewN_drewN _ _ _) (congrArg (World.drewN _) (Nat.add_assoc _ _ _))⟩)))
         repeat (go_quiet (first | (refine box_r (N := 5) rfl (cs := #[.int .i64 0, .int .i64 0, .int .i64 0]) (t := 62) ?_; intro gb411 hg w49 hbox hb; have BK411 := Aside0.mk (hbox); have GW411 := gw_x hg HB; have GE411 := GW411; replace HB := bl_x HB hb; have NB408_411 := nb_x hg BK408; have NB411_408 := nb_y hg BK408; replace BK408 := bk_x BK408 hb; clear hb hbox hg; have hnb50 := NB411_408.out; have hnc50 := NB408_411.out; obtain ⟨hfz51_0, _, _, _⟩ := cf3 BK411) | (go_at_call 61; (with_reducible refine (swarfref07_between.calls ((rd_T62 l0_2 x4_1).f0) 0 2880 false _ A20.out).mono ?_); rintro e w' ⟨rfl, ⟨nd, rfl⟩⟩; (try first | exact ⟨rfl, _, World.drewN_drewN _ _ _⟩ | exact ⟨rfl, _, Eq.trans (World.drewN_drewN _ _ _) (congrArg (World.drewN _) (Nat.add_assoc _ _ _))⟩))); try go_wp2_with (first | (refine box_r (N := 5) rfl (cs := #[.int .i64 0, .int .i64 0, .int .i64 0]) (t := 62) ?_; intro gb411 hg w49 hbox hb; have BK411 := Aside0.mk (hbox); have GW411 := gw_x hg HB; have GE411 := GW411; replace HB := bl_x HB hb; have NB408_411 := nb_x hg BK408; have NB411_408 := nb_y hg BK408; replace BK408 := bk_x BK408 hb; clear hb hbox hg; have hnb50 := NB411_408.out; have hnc50 := NB408_411.out; obtain ⟨hfz51_0, _, _, _⟩ := cf3 BK411) | (go_at_call 61; (with_reducible refine (swarfref07_between.calls ((rd_T62 l0_2 x4_1).f0) 0 2880 false _ A20.out).mono ?_); rintro e w' ⟨rfl, ⟨nd, rfl⟩⟩; (try first | exact ⟨rfl, _, World.drewN_drewN _ _ _⟩ | exact ⟨rfl, _, Eq.trans (World.drewN_drewN _ _ _) (congrArg (World.drewN _) (Nat.add_assoc _ _ _))⟩))))
         go_ret; exact rt_y HB
       ·
        rw [if_neg c19] at H; exact absurd H (by simp)
      ·
       rw [if_neg c18] at H; have c18b0 : decide (x4_1 < (l0_2.length : Int)) = false := decide_eq_false c18; clear c18; obtain rfl := Option.some.inj H; obtain ⟨hfz52_0, _, _, _⟩ := cf3 BK408; go_wp2
       repeat (go_quiet (fail); try go_wp2)
       go_ret; exact rt_y HB
 ·
  rw [if_neg c3] at H; have c3b0 : (t409 == 0) = false := beq_eq_false_iff_ne.mpr c3; have c3b1 : (t409 != 0) = true := bne_iff_ne.mpr c3; obtain rfl := Option.some.inj H; go_enter Try.func59, Try.ntmps59
  go_wp2_with (first | (refine box_r (N := 1) rfl (cs := #[.int .i64 a0_0, .int .i64 a0_1, .slice A0_2 l0_2.length c0_2]) (t := 59) ?_; intro gb408 hg w53 hbox hb; have BK408 := Aside0.mk (hbox); have GW408 := gw_x hg HB; have GE408 := GW408; replace HB := Aside0.mk (below_step (below_x HB.out) hb); clear hb hbox hg; obtain ⟨hfz54_0, _, _, _⟩ := cf3 BK408) | (go_at_call 60; (with_reducible refine (swarfref07_checkRange.calls k a0_0 a0_1 2880 t409 _ A2.out).mono ?_); rintro e w55 ⟨rfl, hb⟩; replace BK408 := bk_x BK408 hb; replace HB := bl_x HB hb; (try clear hb); (try clear hk); (try clear hi)))
  repeat (go_quiet (first | (refine box_r (N := 1) rfl (cs := #[.int .i64 a0_0, .int .i64 a0_1, .slice A0_2 l0_2.length c0_2]) (t := 59) ?_; intro gb408 hg w53 hbox hb; have BK408 := Aside0.mk (hbox); have GW408 := gw_x hg HB; have GE408 := GW408; replace HB := Aside0.mk (below_step (below_x HB.out) hb); clear hb hbox hg; obtain ⟨hfz54_0, _, _, _⟩ := cf3 BK408) | (go_at_call 60; (with_reducible refine (swarfref07_checkRange.calls k a0_0 a0_1 2880 t409 _ A2.out).mono ?_); rintro e w55 ⟨rfl, hb⟩; replace BK408 := bk_x BK408 hb; replace HB := bl_x HB hb; (try clear hb); (try clear hk); (try clear hi))); try go_wp2_with (first | (refine box_r (N := 1) rfl (cs := #[.int .i64 a0_0, .int .i64 a0_1, .slice A0_2 l0_2.length c0_2]) (t := 59) ?_; intro gb408 hg w53 hbox hb; have BK408 := Aside0.mk (hbox); have GW408 := gw_x hg HB; have GE408 := GW408; replace HB := Aside0.mk (below_step (below_x HB.out) hb); clear hb hbox hg; obtain ⟨hfz54_0, _, _, _⟩ := cf3 BK408) | (go_at_call 60; (with_reducible refine (swarfref07_checkRange.calls k a0_0 a0_1 2880 t409 _ A2.out).mono ?_); rintro e w55 ⟨rfl, hb⟩; replace BK408 := bk_x BK408 hb; replace HB := bl_x HB hb; (try clear hb); (try clear hk); (try clear hi))))
  go_ret; exact rt_y HB
mutual
def swarfref07_Check.l0 : Nat → Int → Int → Int → Int → List (S85) → Int → List (S59) → List (S79) → Option (Int)
 | 0, _, _, _, _, _, _, _, _ => none
 | k + 1, x4, x416000, x416001, x416002, x416003, x416004, x416005, x416006 => if x4 < (x416005.length : Int) then (if 0 ≤ x4 then ((swarfref07_checkSill.f k ((rd_T59 x416005 x4).f0.f0) ((rd_T59 x416005 x4).f0.f1) ((rd_T59 x416005 x4).f1)).bind fun t418 => (if t418 = 0 then (swarfref07_Check.l0 k (wrap64 (x4 + 1)) x416000 x416001 x416002 x416003 x416004 x416005 x416006) else (some t418))) else (none)) else (if (x416006.length : Int) > 6 then (some 6) else (swarfref07_Check.l1 k 0 x416000 x416001 x416002 x416003 x416004 x416005 x416006))
def swarfref07_Check.l1 : Nat → Int → Int → Int → Int → List (S85) → Int → List (S59) → List (S79) → Option (Int)
 | 0, _, _, _, _, _, _, _, _ => none
 | k + 1, x6, x416000, x416001, x416002, x416003, x416004, x416005, x416006 => if x6 < (x416006.length : Int) then (if 0 ≤ x6 then ((swarfref07_checkRange.f k ((rd_T79 x416006 x6).f0.f0) ((rd_T79 x416006 x6).f0.f1) 5000).bind fun t420 => (if t420 = 0 then ((swarfref07_between.f ((rd_T79 x416006 x6).f1) 0 100000).bind fun t422 => (if t422 = true then (swarfref07_Check.l1 k (wrap64 (x6 + 1)) x416000 x416001 x416002 x416003 x416004 x416005 x416006) else (some 1))) else (some t420))) else (none)) else (some 0)
end
def swarfref07_Check.f (k : Nat) (a0_0 : Int) (a0_1 : Int) (a0_2 : Int) (l0_3 : List (S85)) (a0_4 : Int) (l0_5 : List (S59)) (l0_6 : List (S79)) : Option (Int) := (swarfref07_checkBarge.f k a0_0 a0_1 a0_2 l0_3 a0_4 l0_5 l0_6).bind fun t416 => (if t416 = 0 then (if (l0_5.length : Int) > 4 then (some 6) else (swarfref07_Check.l0 k 0 a0_0 a0_1 a0_2 l0_3 a0_4 l0_5 l0_6)) else (some t416))
set_option maxHeartbeats 8000000 in
set_option maxRecDepth 100000 in
theorem swarfref07_Check.calls (k : Nat) (a0_0 : Int) (a0_1 : Int) (a0_2 : Int) (A0_3 : Option Addr) (c0_3 : Nat) (l0_3 : List (S85)) (a0_4 : Int) (A0_5 : Option Addr) (c0_5 : Nat) (l0_5 : List (S59)) (A0_6 : Option Addr) (c0_6 : Nat) (l0_6 : List (S79)) (r : Int) (w : World) (hr0_3 : Kd.C k85 w A0_3 l0_3.length l0_3) (hc0_3 : l0_3.length ≤ c0_3) (hr0_5 : Kd.C k59 w A0_5 l0_5.length l0_5) (hc0_5 : l0_5.length ≤ c0_5) (hr0_6 : Kd.C k79 w A0_6 l0_6.length l0_6) (hc0_6 : l0_6.length ≤ c0_6) (h : swarfref07_Check.f k a0_0 a0_1 a0_2 l0_3 a0_4 l0_5 l0_6 = some r) :
  Calls Try.prog 27 #[.agg #[.int .i64 a0_0, .int .i64 a0_1, .int .i64 a0_2, .slice A0_3 l0_3.length c0_3, .int .i64 a0_4, .slice A0_5 l0_5.length c0_5, .slice A0_6 l0_6.length c0_6]] w fun e w' => e = .returned (.int .i64 r) ∧ Below w.heap.size w w' := by
 have hu26 := Try.underlying26
 have hu59 := Try.underlying59
 have hu56 := Try.underlying56
 have HR0_3 := Aside0.mk hr0_3
 have HC0_3 := Aside0.mk hc0_3
 clear hr0_3 hc0_3
 have HR0_5 := Aside0.mk hr0_5
 have HC0_5 := Aside0.mk hc0_5
 clear hr0_5 hc0_5
 have HR0_6 := Aside0.mk hr0_6
 have HC0_6 := Aside0.mk hc0_6
 clear hr0_6 hc0_6
 have HB := Aside0.mk (Below.refl w.heap.size w)
 have H : ((swarfref07_checkBarge.f k a0_0 a0_1 a0_2 l0_3 a0_4 l0_5 l0_6).bind fun t416 => (if t416 = 0 then (if (l0_5.length : Int) > 4 then (some 6) else (swarfref07_Check.l0 k 0 a0_0 a0_1 a0_2 l0_3 a0_4 l0_5 l0_6)) else (some t416))) = some r := h
 clear h
 replace H := Option.bind_eq_some_iff.mp H
 obtain ⟨t416, A20, H⟩ := H
 try dsimp only at H
 have A2 := Aside0.mk A20
 clear A20
 by_cases c3 : t416 = 0
 ·
  rw [if_pos c3] at H; have c3b0 : (t416 == 0) = true := beq_iff_eq.mpr c3; have c3b1 : (t416 != 0) = false := bne_eq_false_iff_eq.mpr c3; clear c3; by_cases c4 : (l0_5.length : Int) > 4
  ·
   rw [if_pos c4] at H; have c4b0 : decide (4 < (l0_5.length : Int)) = true := decide_eq_true c4; have c4b1 : decide (4 < l0_5.length) = true := decide_eq_true (by omega); clear c4; obtain rfl := Option.some.inj H; go_enter Try.func27, Try.ntmps27
   go_wp2_with (first | (refine box_r (N := 1) rfl (cs := #[.int .i64 a0_0, .int .i64 a0_1, .int .i64 a0_2, .slice A0_3 l0_3.length c0_3, .int .i64 a0_4, .slice A0_5 l0_5.length c0_5, .slice A0_6 l0_6.length c0_6]) (t := 26) ?_; intro gb415 hg w5 hbox hb; have BK415 := Aside0.mk (hbox); have GW415 := gw_x hg HB; have GE415 := GW415; replace HB := Aside0.mk (below_step (below_x HB.out) hb); clear hb hbox hg; obtain ⟨hfz6_0, _, _, _, _, _, _, _⟩ := cf7 BK415) | (refine goesG_x 58 rfl (some 9) Try.func58 #[.agg #[.int .i64 a0_0, .int .i64 a0_1, .int .i64 a0_2, .slice A0_3 l0_3.length c0_3, .int .i64 a0_4, .slice A0_5 l0_5.length c0_5, .slice A0_6 l0_6.length c0_6]] ?_; (with_reducible refine (swarfref07_checkBarge.calls k a0_0 a0_1 a0_2 _ _ l0_3 a0_4 _ _ l0_5 _ _ l0_6 t416 _ ?side1 ?side2 ?side3 ?side4 ?side5 ?side6 A2.out).mono ?_); (case side1 => exact Kd.C_x HR0_3.out HB.out); (case side2 => exact HC0_3.out); (case side3 => exact Kd.C_x HR0_5.out HB.out); (case side4 => exact HC0_5.out); (case side5 => exact Kd.C_x HR0_6.out HB.out); (case side6 => exact HC0_6.out); rintro e w7 ⟨rfl, hb⟩; refine ⟨_, rfl, ?_⟩; replace BK415 := bk_x BK415 hb; replace HB := bl_x HB hb; (try clear hb); (try clear hk); (try clear hi); obtain ⟨hfz8_0, _, _, _, _, _, _, _⟩ := cf7 BK415))
   go_ret; exact rt_y HB
  ·
   rw [if_neg c4] at H; have c4b0 : decide (4 < (l0_5.length : Int)) = false := decide_eq_false c4; have c4b1 : decide (4 < l0_5.length) = false := decide_eq_false (by omega); clear c4; have H' := Aside0.mk H; clear H; go_enter Try.func27, Try.ntmps27
   go_wp2_with (first | (refine box_r (N := 1) rfl (cs := #[.int .i64 a0_0, .int .i64 a0_1, .int .i64 a0_2, .slice A0_3 l0_3.length c0_3, .int .i64 a0_4, .slice A0_5 l0_5.length c0_5, .slice A0_6 l0_6.length c0_6]) (t := 26) ?_; intro gb415 hg w9 hbox hb; have BK415 := Aside0.mk (hbox); have GW415 := gw_x hg HB; have GE415 := GW415; replace HB := Aside0.mk (below_step (below_x HB.out) hb); clear hb hbox hg; obtain ⟨hfz10_0, _, _, _, _, _, _, _⟩ := cf7 BK415) | (refine goesG_x 58 rfl (some 9) Try.func58 #[.agg #[.int .i64 a0_0, .int .i64 a0_1, .int .i64 a0_2, .slice A0_3 l0_3.length c0_3, .int .i64 a0_4, .slice A0_5 l0_5.length c0_5, .slice A0_6 l0_6.length c0_6]] ?_; (with_reducible refine (swarfref07_checkBarge.calls k a0_0 a0_1 a0_2 _ _ l0_3 a0_4 _ _ l0_5 _ _ l0_6 t416 _ ?side1 ?side2 ?side3 ?side4 ?side5 ?side6 A2.out).mono ?_); (case side1 => exact Kd.C_x HR0_3.out HB.out); (case side2 => exact HC0_3.out); (case side3 => exact Kd.C_x HR0_5.out HB.out); (case side4 => exact HC0_5.out); (case side5 => exact Kd.C_x HR0_6.out HB.out); (case side6 => exact HC0_6.out); rintro e w11 ⟨rfl, hb⟩; refine ⟨_, rfl, ?_⟩; replace BK415 := bk_x BK415 hb; replace HB := bl_x HB hb; (try clear hb); (try clear hk); (try clear hi); obtain ⟨hfz12_0, _, _, _, _, _, _, _⟩ := cf7 BK415))
   go_loopg [4] k (fun kq v4 w' => ∃ (x4_1 : Int), v4 = .int .i64 x4_1 ∧ Aside0 (swarfref07_Check.l0 kq x4_1 a0_0 a0_1 a0_2 l0_3 a0_4 l0_5 l0_6 = some r) ∧ Aside0 (kq ≤ k) ∧ Aside0 (w'.heap[gb415]? = some (.cells #[.int .i64 a0_0, .int .i64 a0_1, .int .i64 a0_2, (.slice A0_3 l0_3.length c0_3), .int .i64 a0_4, (.slice A0_5 l0_5.length c0_5), (.slice A0_6 l0_6.length c0_6)] 26 (0, 0))) ∧ Aside0 (Below w.heap.size w w'))
   case atStart => exact ⟨(0), (by first | rfl | (simp; done) | (simp [*]; done)), H', ⟨Nat.le_refl _⟩, ⟨blk_x BK415.out⟩, ⟨by exact below_y HB.out⟩⟩
   case round =>
    clear H'; obtain ⟨x4_1, rfl, HA, HK1, BK415, HB⟩ := hrel; cases gk with
    | zero => exact absurd HA.out (by simp [swarfref07_Check.l0])
    | succ k1 =>
     have H := HA.out; clear HA; simp only [swarfref07_Check.l0] at H; by_cases c13 : x4_1 < (l0_5.length : Int)
     ·
      rw [if_pos c13] at H; have c13b0 : decide (x4_1 < (l0_5.length : Int)) = true := decide_eq_true c13; clear c13; by_cases c14 : 0 ≤ x4_1
      ·
       rw [if_pos c14] at H; have c14b0 : decide (0 ≤ x4_1) = true := decide_eq_true c14; clear c14; replace H := Option.bind_eq_some_iff.mp H; obtain ⟨t418, A150, H⟩ := H
       try dsimp only at H
       have A15 := Aside0.mk A150; clear A150; by_cases c16 : t418 = 0
       ·
        rw [if_pos c16] at H; have c16b0 : (t418 == 0) = true := beq_iff_eq.mpr c16; have c16b1 : (t418 != 0) = false := bne_eq_false_iff_eq.mpr c16; clear c16; have H' := Aside0.mk H; clear H; obtain ⟨hfz17_0, _, _, _, _, _, _, _⟩ := cf7 BK415; have p417 : 0 ≤ (x4_1 : Int) := of_x; have q417 : x4_1 < (l0_5.length : Int) := of_x; obtain ⟨ad417, A417_2, c417_2, e417, hx417_0, hx417_1, hx417_2, hl417_2, hi417_2⟩ := at_T59 HR0_5.out x4_1 p417 q417; (cases e417); replace hx417_0 := cell_x HB hx417_0; replace hx417_1 := cell_x HB hx417_1; replace hx417_2 := cell_x HB hx417_2; have HR417_2 := Aside0.mk hi417_2; have HC417_2 := Aside0.mk hl417_2; clear hi417_2 hl417_2; replace p417 := eq_true p417; replace q417 := eq_true q417
        go_wp2_with (first | (refine goesG_x 59 rfl (some 29) Try.func59 #[.agg #[.int .i64 ((rd_T59 l0_5 x4_1).f0.f0), .int .i64 ((rd_T59 l0_5 x4_1).f0.f1), .slice A417_2 ((rd_T59 l0_5 x4_1).f1).length c417_2]] ?_; (with_reducible refine (swarfref07_checkSill.calls k1 ((rd_T59 l0_5 x4_1).f0.f0) ((rd_T59 l0_5 x4_1).f0.f1) _ _ ((rd_T59 l0_5 x4_1).f1) t418 _ ?side1 ?side2 A15.out).mono ?_); (case side1 => exact Kd.C_x HR417_2.out HB.out); (case side2 => exact HC417_2.out); rintro e w18 ⟨rfl, hb⟩; refine ⟨_, rfl, ?_⟩; replace BK415 := bk_x BK415 hb; replace HB := bl_x HB hb; (try clear hb); (try clear hk); (try clear hi)))
        go_roundg k1
        case measure => have := HK1.out; omega
        case rel => exact ⟨(wrap64 (x4_1 + 1)), (by first | rfl | (simp; done) | (simp [*]; done)), H', ⟨by have := HK1.out; omega⟩, ⟨blk_x BK415.out⟩, ⟨by exact below_y HB.out⟩⟩
       ·
        rw [if_neg c16] at H; have c16b0 : (t418 == 0) = false := beq_eq_false_iff_ne.mpr c16; have c16b1 : (t418 != 0) = true := bne_iff_ne.mpr c16; obtain rfl := Option.some.inj H; obtain ⟨hfz19_0, _, _, _, _, _, _, _⟩ := cf7 BK415; have p417 : 0 ≤ (x4_1 : Int) := of_x; have q417 : x4_1 < (l0_5.length : Int) := of_x; obtain ⟨ad417, A417_2, c417_2, e417, hx417_0, hx417_1, hx417_2, hl417_2, hi417_2⟩ := at_T59 HR0_5.out x4_1 p417 q417; (cases e417); replace hx417_0 := cell_x HB hx417_0; replace hx417_1 := cell_x HB hx417_1; replace hx417_2 := cell_x HB hx417_2; have HR417_2 := Aside0.mk hi417_2; have HC417_2 := Aside0.mk hl417_2; clear hi417_2 hl417_2; replace p417 := eq_true p417; replace q417 := eq_true q417
        go_wp2_with (first | (refine goesG_x 59 rfl (some 29) Try.func59 #[.agg #[.int .i64 ((rd_T59 l0_5 x4_1).f0.f0), .int .i64 ((rd_T59 l0_5 x4_1).f0.f1), .slice A417_2 ((rd_T59 l0_5 x4_1).f1).length c417_2]] ?_; (with_reducible refine (swarfref07_checkSill.calls k1 ((rd_T59 l0_5 x4_1).f0.f0) ((rd_T59 l0_5 x4_1).f0.f1) _ _ ((rd_T59 l0_5 x4_1).f1) t418 _ ?side1 ?side2 A15.out).mono ?_); (case side1 => exact Kd.C_x HR417_2.out HB.out); (case side2 => exact HC417_2.out); rintro e w20 ⟨rfl, hb⟩; refine ⟨_, rfl, ?_⟩; replace BK415 := bk_x BK415 hb; replace HB := bl_x HB hb; (try clear hb); (try clear hk); (try clear hi)))
        go_ret; exact rt_y HB
      ·
       rw [if_neg c14] at H; exact absurd H (by simp)
     ·
      rw [if_neg c13] at H; have c13b0 : decide (x4_1 < (l0_5.length : Int)) = false := decide_eq_false c13; clear c13; by_cases c21 : (l0_6.length : Int) > 6
      ·
       rw [if_pos c21] at H; have c21b0 : decide (6 < (l0_6.length : Int)) = true := decide_eq_true c21; have c21b1 : decide (6 < l0_6.length) = true := decide_eq_true (by omega); clear c21; obtain rfl := Option.some.inj H; obtain ⟨hfz22_0, _, _, _, _, _, _, _⟩ := cf7 BK415; go_wp2; go_ret; exact rt_y HB
      ·
       rw [if_neg c21] at H; have c21b0 : decide (6 < (l0_6.length : Int)) = false := decide_eq_false c21; have c21b1 : decide (6 < l0_6.length) = false := decide_eq_false (by omega); clear c21; have H' := Aside0.mk H; clear H; obtain ⟨hfz23_0, _, _, _, _, _, _, _⟩ := cf7 BK415; go_wp2
       go_loopg [6] k1 (fun kq v6 w' => ∃ (x6_2 : Int), v6 = .int .i64 x6_2 ∧ Aside0 (swarfref07_Check.l1 kq x6_2 a0_0 a0_1 a0_2 l0_3 a0_4 l0_5 l0_6 = some r) ∧ Aside0 (kq ≤ k1) ∧ Aside0 (w'.heap[gb415]? = some (.cells #[.int .i64 a0_0, .int .i64 a0_1, .int .i64 a0_2, (.slice A0_3 l0_3.length c0_3), .int .i64 a0_4, (.slice A0_5 l0_5.length c0_5), (.slice A0_6 l0_6.length c0_6)] 26 (0, 0))) ∧ Aside0 (Below w.heap.size w w'))
       case atStart => exact ⟨(0), (by first | rfl | (simp; done) | (simp [*]; done)), H', ⟨Nat.le_refl _⟩, ⟨blk_x BK415.out⟩, ⟨by exact below_y HB.out⟩⟩
       case round =>
        clear H'; obtain ⟨x6_2, rfl, HA, HK2, BK415, HB⟩ := hrel; cases gk with
        | zero => exact absurd HA.out (by simp [swarfref07_Check.l1])
        | succ k2 =>
         have H := HA.out; clear HA; simp only [swarfref07_Check.l1] at H; by_cases c24 : x6_2 < (l0_6.length : Int)
         ·
          rw [if_pos c24] at H; have c24b0 : decide (x6_2 < (l0_6.length : Int)) = true := decide_eq_true c24; clear c24; by_cases c25 : 0 ≤ x6_2
          ·
           rw [if_pos c25] at H; have c25b0 : decide (0 ≤ x6_2) = true := decide_eq_true c25; clear c25; replace H := Option.bind_eq_some_iff.mp H; obtain ⟨t420, A260, H⟩ := H
           try dsimp only at H
           have A26 := Aside0.mk A260; clear A260; by_cases c27 : t420 = 0
           ·
            rw [if_pos c27] at H; have c27b0 : (t420 == 0) = true := beq_iff_eq.mpr c27; have c27b1 : (t420 != 0) = false := bne_eq_false_iff_eq.mpr c27; clear c27; replace H := Option.bind_eq_some_iff.mp H; obtain ⟨t422, A280, H⟩ := H
            try dsimp only at H
            have A28 := Aside0.mk A280; clear A280; by_cases c29 : t422 = true
            ·
             subst c29; (have H1 : (swarfref07_Check.l1 k2 (wrap64 (x6_2 + 1)) a0_0 a0_1 a0_2 l0_3 a0_4 l0_5 l0_6) = some r := by rw [if_pos rfl] at H; exact H); clear H; have H := H1; clear H1; have H' := Aside0.mk H; clear H; obtain ⟨hfz30_0, _, _, _, _, _, _, _⟩ := cf7 BK415; have p419 : 0 ≤ (x6_2 : Int) := of_x; have q419 : x6_2 < (l0_6.length : Int) := of_x; obtain ⟨ad419, e419, hx419_0, hx419_1, hx419_2⟩ := at_T79 HR0_6.out x6_2 p419 q419; (cases e419); replace hx419_0 := cell_x HB hx419_0; replace hx419_1 := cell_x HB hx419_1; replace hx419_2 := cell_x HB hx419_2; replace p419 := eq_true p419; replace q419 := eq_true q419
             go_wp2_with (first | (refine goesG_x 60 rfl (some 50) Try.func60 #[.agg #[.int .i64 ((rd_T79 l0_6 x6_2).f0.f0), .int .i64 ((rd_T79 l0_6 x6_2).f0.f1)], .int .i64 5000] ?_; (with_reducible refine (swarfref07_checkRange.calls k2 ((rd_T79 l0_6 x6_2).f0.f0) ((rd_T79 l0_6 x6_2).f0.f1) 5000 t420 _ A26.out).mono ?_); rintro e w31 ⟨rfl, hb⟩; refine ⟨_, rfl, ?_⟩; replace BK415 := bk_x BK415 hb; replace HB := bl_x HB hb; (try clear hb); (try clear hk); (try clear hi); obtain ⟨hfz32_0, _, _, _, _, _, _, _⟩ := cf7 BK415; have p421 : 0 ≤ (x6_2 : Int) := of_x; have q421 : x6_2 < (l0_6.length : Int) := of_x; obtain ⟨ad421, e421, hx421_0, hx421_1, hx421_2⟩ := at_T79 HR0_6.out x6_2 p421 q421; obtain rfl : ad419 = ad421 := (by injection e421); replace hx421_0 := cell_x HB hx421_0; replace hx421_1 := cell_x HB hx421_1; replace hx421_2 := cell_x HB hx421_2; replace p421 := eq_true p421; replace q421 := eq_true q421) | (refine goesG_x 61 rfl (some 60) Try.func61 #[.int .i64 ((rd_T79 l0_6 x6_2).f1), .int .i64 0, .int .i64 100000] ?_; (with_reducible refine (swarfref07_between.calls ((rd_T79 l0_6 x6_2).f1) 0 100000 true _ A28.out).mono ?_); rintro e w' ⟨rfl, ⟨nd, rfl⟩⟩; refine ⟨_, rfl, ?_⟩))
             go_roundg k2
             case measure => have := HK1.out; have := HK2.out; omega
             case rel => exact ⟨(wrap64 (x6_2 + 1)), (by first | rfl | (simp; done) | (simp [*]; done)), H', ⟨by have := HK1.out; have := HK2.out; omega⟩, ⟨blk_x BK415.out⟩, ⟨by exact below_y HB.out⟩⟩
            ·
             replace c29 := Bool.eq_false_iff.mpr c29; subst c29; replace H : (some 1) = some r := ifn_x H; obtain rfl := Option.some.inj H; obtain ⟨hfz33_0, _, _, _, _, _, _, _⟩ := cf7 BK415; have p419 : 0 ≤ (x6_2 : Int) := of_x; have q419 : x6_2 < (l0_6.length : Int) := of_x; obtain ⟨ad419, e419, hx419_0, hx419_1, hx419_2⟩ := at_T79 HR0_6.out x6_2 p419 q419; (cases e419); replace hx419_0 := cell_x HB hx419_0; replace hx419_1 := cell_x HB hx419_1; replace hx419_2 := cell_x HB hx419_2; replace p419 := eq_true p419; replace q419 := eq_true q419
             go_wp2_with (first | (refine goesG_x 60 rfl (some 50) Try.func60 #[.agg #[.int .i64 ((rd_T79 l0_6 x6_2).f0.f0), .int .i64 ((rd_T79 l0_6 x6_2).f0.f1)], .int .i64 5000] ?_; (with_reducible refine (swarfref07_checkRange.calls k2 ((rd_T79 l0_6 x6_2).f0.f0) ((rd_T79 l0_6 x6_2).f0.f1) 5000 t420 _ A26.out).mono ?_); rintro e w34 ⟨rfl, hb⟩; refine ⟨_, rfl, ?_⟩; replace BK415 := bk_x BK415 hb; replace HB := bl_x HB hb; (try clear hb); (try clear hk); (try clear hi); obtain ⟨hfz35_0, _, _, _, _, _, _, _⟩ := cf7 BK415; have p421 : 0 ≤ (x6_2 : Int) := of_x; have q421 : x6_2 < (l0_6.length : Int) := of_x; obtain ⟨ad421, e421, hx421_0, hx421_1, hx421_2⟩ := at_T79 HR0_6.out x6_2 p421 q421; obtain rfl : ad419 = ad421 := (by injection e421); replace hx421_0 := cell_x HB hx421_0; replace hx421_1 := cell_x HB hx421_1; replace hx421_2 := cell_x HB hx421_2; replace p421 := eq_true p421; replace q421 := eq_true q421) | (refine goesG_x 61 rfl (some 60) Try.func61 #[.int .i64 ((rd_T79 l0_6 x6_2).f1), .int .i64 0, .int .i64 100000] ?_; (with_reducible refine (swarfref07_between.calls ((rd_T79 l0_6 x6_2).f1) 0 100000 false _ A28.out).mono ?_); rintro e w' ⟨rfl, ⟨nd, rfl⟩⟩; refine ⟨_, rfl, ?_⟩))
             go_ret; exact rt_y HB
           ·
            rw [if_neg c27] at H; have c27b0 : (t420 == 0) = false := beq_eq_false_iff_ne.mpr c27; have c27b1 : (t420 != 0) = true := bne_iff_ne.mpr c27; obtain rfl := Option.some.inj H; obtain ⟨hfz36_0, _, _, _, _, _, _, _⟩ := cf7 BK415; have p419 : 0 ≤ (x6_2 : Int) := of_x; have q419 : x6_2 < (l0_6.length : Int) := of_x; obtain ⟨ad419, e419, hx419_0, hx419_1, hx419_2⟩ := at_T79 HR0_6.out x6_2 p419 q419; (cases e419); replace hx419_0 := cell_x HB hx419_0; replace hx419_1 := cell_x HB hx419_1; replace hx419_2 := cell_x HB hx419_2; replace p419 := eq_true p419; replace q419 := eq_true q419
            go_wp2_with (first | (refine goesG_x 60 rfl (some 50) Try.func60 #[.agg #[.int .i64 ((rd_T79 l0_6 x6_2).f0.f0), .int .i64 ((rd_T79 l0_6 x6_2).f0.f1)], .int .i64 5000] ?_; (with_reducible refine (swarfref07_checkRange.calls k2 ((rd_T79 l0_6 x6_2).f0.f0) ((rd_T79 l0_6 x6_2).f0.f1) 5000 t420 _ A26.out).mono ?_); rintro e w37 ⟨rfl, hb⟩; refine ⟨_, rfl, ?_⟩; replace BK415 := bk_x BK415 hb; replace HB := bl_x HB hb; (try clear hb); (try clear hk); (try clear hi)))
            go_ret; exact rt_y HB
          ·
           rw [if_neg c25] at H; exact absurd H (by simp)
         ·
          rw [if_neg c24] at H; have c24b0 : decide (x6_2 < (l0_6.length : Int)) = false := decide_eq_false c24; clear c24; obtain rfl := Option.some.inj H; obtain ⟨hfz38_0, _, _, _, _, _, _, _⟩ := cf7 BK415; go_wp2; go_ret; exact rt_y HB
 ·
  rw [if_neg c3] at H; have c3b0 : (t416 == 0) = false := beq_eq_false_iff_ne.mpr c3; have c3b1 : (t416 != 0) = true := bne_iff_ne.mpr c3; obtain rfl := Option.some.inj H; go_enter Try.func27, Try.ntmps27
  go_wp2_with (first | (refine box_r (N := 1) rfl (cs := #[.int .i64 a0_0, .int .i64 a0_1, .int .i64 a0_2, .slice A0_3 l0_3.length c0_3, .int .i64 a0_4, .slice A0_5 l0_5.length c0_5, .slice A0_6 l0_6.length c0_6]) (t := 26) ?_; intro gb415 hg w39 hbox hb; have BK415 := Aside0.mk (hbox); have GW415 := gw_x hg HB; have GE415 := GW415; replace HB := Aside0.mk (below_step (below_x HB.out) hb); clear hb hbox hg; obtain ⟨hfz40_0, _, _, _, _, _, _, _⟩ := cf7 BK415) | (refine goesG_x 58 rfl (some 9) Try.func58 #[.agg #[.int .i64 a0_0, .int .i64 a0_1, .int .i64 a0_2, .slice A0_3 l0_3.length c0_3, .int .i64 a0_4, .slice A0_5 l0_5.length c0_5, .slice A0_6 l0_6.length c0_6]] ?_; (with_reducible refine (swarfref07_checkBarge.calls k a0_0 a0_1 a0_2 _ _ l0_3 a0_4 _ _ l0_5 _ _ l0_6 t416 _ ?side1 ?side2 ?side3 ?side4 ?side5 ?side6 A2.out).mono ?_); (case side1 => exact Kd.C_x HR0_3.out HB.out); (case side2 => exact HC0_3.out); (case side3 => exact Kd.C_x HR0_5.out HB.out); (case side4 => exact HC0_5.out); (case side5 => exact Kd.C_x HR0_6.out HB.out); (case side6 => exact HC0_6.out); rintro e w41 ⟨rfl, hb⟩; refine ⟨_, rfl, ?_⟩; replace BK415 := bk_x BK415 hb; replace HB := bl_x HB hb; (try clear hb); (try clear hk); (try clear hi)))
  go_ret; exact rt_y HB
end Go.Proofs.Ytodmemndaaiolaa.PC7
namespace Go.Proofs.Ytodmemndaaiolaa.PC7
set_option linter.unusedVariables false
set_option linter.unusedSimpArgs false
open Go.RowKit Go.Proofs.YtodmemndaaiolaaW.PrintWords Go.Proofs.YtodmemndaaiolaaW.PrintLast Go.Proofs.YtodmemndaaiolaaW.PrintMore
theorem in_e (a lo hi : Int) : ship_in.f a lo hi = some (decide (lo ≤ a ∧ a ≤ hi)) := by
  unfold ship_in.f
  by_cases h : lo ≤ a
  · rw [if_pos h]; by_cases h2 : a ≤ hi <;> simp [h, h2]
  · rw [if_neg h]; simp [h]
theorem between_e (a lo hi : Int) : swarfref07_between.f a lo hi = some (decide (lo ≤ a ∧ a ≤ hi)) := by
  unfold swarfref07_between.f
  by_cases h : a ≥ lo
  · rw [if_pos h]; by_cases h2 : a ≤ hi <;> simp [h, h2]
  · rw [if_neg h]; have h' : ¬ lo ≤ a := h; simp [h']
def rangeE (a b hi : Int) : Int := if (0 ≤ a ∧ a ≤ hi) ∧ (0 ≤ b ∧ b ≤ hi) then (if a > b then 5 else 0) else 1
theorem shipRange_ev (a b hi : Int) : Ev (fun k => ship_checkRange.f k a b hi) (rangeE a b hi) := by
  unfold ship_checkRange.f rangeE
  simp only [in_e, Option.bind_some, decide_eq_true_eq]
  by_cases h1 : 0 ≤ a ∧ a ≤ hi
  · simp only [if_pos h1]
    by_cases h2 : 0 ≤ b ∧ b ≤ hi
    · rw [if_pos (show (0 ≤ a ∧ a ≤ hi) ∧ (0 ≤ b ∧ b ≤ hi) from ⟨h1, h2⟩), decide_eq_true h2]
      refine Ev.succ ?_
      simp only [ship_checkRange.j0, Bool.not_true, Bool.false_eq_true, if_false]
      by_cases h3 : a > b
      · simp only [if_pos h3]; exact Ev.now _
      · simp only [if_neg h3]; exact Ev.now _
    · rw [if_neg (fun h => h2 h.2), decide_eq_false h2]
      refine Ev.succ ?_
      simp only [ship_checkRange.j0, Bool.not_false, if_true]; exact Ev.now _
  · simp only [if_neg h1]
    rw [if_neg (fun h => h1 h.1), decide_eq_false h1]
    refine Ev.succ ?_
    simp only [ship_checkRange.j0, Bool.not_false, if_true]; exact Ev.now _
theorem refRange_ev (a b hi : Int) : Ev (fun k => swarfref07_checkRange.f k a b hi) (rangeE a b hi) := by
  unfold swarfref07_checkRange.f rangeE
  simp only [between_e, Option.bind_some, decide_eq_true_eq]
  by_cases h1 : 0 ≤ a ∧ a ≤ hi
  · simp only [if_pos h1]
    by_cases h2 : 0 ≤ b ∧ b ≤ hi
    · rw [if_pos (show (0 ≤ a ∧ a ≤ hi) ∧ (0 ≤ b ∧ b ≤ hi) from ⟨h1, h2⟩), decide_eq_true h2]
      refine Ev.succ ?_
      simp only [swarfref07_checkRange.j0, Bool.not_true, Bool.false_eq_true, if_false]
      by_cases h3 : a > b
      · simp only [if_pos h3]; exact Ev.now _
      · simp only [if_neg h3]; exact Ev.now _
    · rw [if_neg (fun h => h2 h.2), decide_eq_false h2]
      refine Ev.succ ?_
      simp only [swarfref07_checkRange.j0, Bool.not_false, if_true]; exact Ev.now _
  · simp only [if_neg h1]
    rw [if_neg (fun h => h1 h.1)]
    refine Ev.succ ?_
    simp only [swarfref07_checkRange.j0, if_true]; exact Ev.now _
def levE : Nat → Int → List S62 → Int
  | _, _, [] => 0
  | i, p, x :: r => if 0 ≤ x.f0 ∧ x.f0 ≤ 2880 then (if i = 0 ∧ x.f0 ≠ 0 then 2 else if 0 < i ∧ x.f0 ≤ p then 5 else if rangeE x.f1.f0 x.f1.f1 10000 = 0 then levE (i + 1) x.f0 r else rangeE x.f1.f0 x.f1.f1 10000) else 1
def sillE (s : S59) : Int := if rangeE s.f0.f0 s.f0.f1 2880 = 0 then (if s.f1.length = 0 then 7 else if s.f1.length > 6 then 6 else levE 0 0 s.f1) else rangeE s.f0.f0 s.f0.f1 2880
theorem shipSill_j2 (l : List S62) (p q : Int) (i : Nat) (b : Bool) (x y z R : Int) (hi : i < 4611686018427387904) (h : Ev (fun k => ship_checkSill.l0 k l (l.length : Int) ((i + 1 : Nat) : Int) p q l) R) :
    Ev (fun k => ship_checkSill.j2 k l (l.length : Int) (i : Int) b p q l x y z) (if b = true then 5 else if rangeE y z 10000 = 0 then R else rangeE y z 10000) := by
  refine Ev.succ ?_
  simp only [ship_checkSill.j2]
  cases b
  · simp only [Bool.false_eq_true, if_false]
    refine Ev.bind (shipRange_ev _ _ _) ?_
    by_cases h0 : rangeE y z 10000 = 0
    · simp only [if_pos h0]; rw [wrapS hi]; exact h
    · simp only [if_neg h0]; exact Ev.now _
  · simp only [if_true]; exact Ev.now _
theorem refSill_j2 (l : List S62) (p q : Int) (i : Nat) (b : Bool) (x y z R : Int) (hi : i < 4611686018427387904) (h : Ev (fun k => swarfref07_checkSill.l0 k ((i + 1 : Nat) : Int) p q l) R) :
    Ev (fun k => swarfref07_checkSill.j2 k (i : Int) b p q l x y z) (if b = true then 5 else if rangeE y z 10000 = 0 then R else rangeE y z 10000) := by
  refine Ev.succ ?_
  simp only [swarfref07_checkSill.j2]
  cases b
  · simp only [Bool.false_eq_true, if_false]
    refine Ev.bind (refRange_ev _ _ _) ?_
    by_cases h0 : rangeE y z 10000 = 0
    · simp only [if_pos h0]; rw [wrapS hi]; exact h
    · simp only [if_neg h0]; exact Ev.now _
  · simp only [if_true]; exact Ev.now _
theorem shipLev_ev (l : List S62) (hl : l.length ≤ 1000) (p q : Int) (d : Nat) : ∀ i : Nat, i + d = l.length → Ev (fun k => ship_checkSill.l0 k l (l.length : Int) (i : Int) p q l) (levE i (l.getD (i - 1) z62).f0 (l.drop i)) := by
  induction d with
  | zero =>
    intro i hi
    refine Ev.succ ?_
    rw [List.drop_eq_nil_of_le (by omega)]
    simp (disch := omega) only [ship_checkSill.l0, if_neg, levE]
    exact Ev.now _
  | succ d ih =>
    intro i hi
    have hlt : i < l.length := by omega
    have ih' := ih (i + 1) (by omega)
    rw [show i + 1 - 1 = i by omega] at ih'
    rw [drop_cons_of l i hlt z62]
    refine Ev.succ ?_
    simp (disch := omega) only [ship_checkSill.l0, if_pos, rd62, in_e, Option.bind_some, decide_eq_true_eq, levE]
    by_cases h1 : 0 ≤ (l.getD i z62).f0 ∧ (l.getD i z62).f0 ≤ 2880
    · simp only [if_pos h1]
      have h2 := fun b => shipSill_j2 l p q i b (l.getD i z62).f0 (l.getD i z62).f1.f0 (l.getD i z62).f1.f1 _ (by omega) ih'
      by_cases h0 : i = 0
      · subst h0
        simp only [show ((0 : Nat) : Int) = 0 from rfl, if_true, true_and]
        refine Ev.succ ?_
        simp only [ship_checkSill.j1, bne_iff_ne]
        by_cases h3 : (l.getD 0 z62).f0 ≠ 0
        · simp only [if_pos h3]; exact Ev.now _
        · simp only [if_neg h3, Nat.lt_irrefl, false_and, if_false, show ¬ (0 : Int) > 0 from by decide]
          simpa using h2 false
      · rw [if_neg (fun h => h0 h.1)]
        simp (disch := omega) only [if_neg]
        refine Ev.succ ?_
        simp (disch := omega) only [ship_checkSill.j1, Bool.false_eq_true, if_false, if_pos, wrapP, rd62]
        have h3 := h2 (decide ((l.getD i z62).f0 ≤ (l.getD (i - 1) z62).f0))
        simp only [decide_eq_true_eq] at h3
        simp only [show 0 < i from by omega, true_and]
        exact h3
    · simp only [if_neg h1]; exact Ev.now _
theorem refLev_ev (l : List S62) (hl : l.length ≤ 1000) (p q : Int) (d : Nat) : ∀ i : Nat, i + d = l.length → Ev (fun k => swarfref07_checkSill.l0 k (i : Int) p q l) (levE i (l.getD (i - 1) z62).f0 (l.drop i)) := by
  induction d with
  | zero =>
    intro i hi
    refine Ev.succ ?_
    rw [List.drop_eq_nil_of_le (by omega)]
    simp (disch := omega) only [swarfref07_checkSill.l0, if_neg, levE]
    exact Ev.now _
  | succ d ih =>
    intro i hi
    have hlt : i < l.length := by omega
    have ih' := ih (i + 1) (by omega)
    rw [show i + 1 - 1 = i by omega] at ih'
    rw [drop_cons_of l i hlt z62]
    refine Ev.succ ?_
    simp (disch := omega) only [swarfref07_checkSill.l0, if_pos, rd62, between_e, Option.bind_some, decide_eq_true_eq, levE]
    by_cases h1 : 0 ≤ (l.getD i z62).f0 ∧ (l.getD i z62).f0 ≤ 2880
    · simp only [if_pos h1]
      have h2 := fun b => refSill_j2 l p q i b (l.getD i z62).f0 (l.getD i z62).f1.f0 (l.getD i z62).f1.f1 _ (by omega) ih'
      by_cases h0 : i = 0
      · subst h0
        simp only [show ((0 : Nat) : Int) = 0 from rfl, if_true, true_and]
        refine Ev.succ ?_
        simp only [swarfref07_checkSill.j1, bne_iff_ne]
        by_cases h3 : (l.getD 0 z62).f0 ≠ 0
        · simp only [if_pos h3]; exact Ev.now _
        · simp only [if_neg h3, Nat.lt_irrefl, false_and, if_false, show ¬ (0 : Int) > 0 from by decide]
          simpa using h2 false
      · rw [if_neg (fun h => h0 h.1)]
        simp (disch := omega) only [if_neg]
        refine Ev.succ ?_
        simp (disch := omega) only [swarfref07_checkSill.j1, Bool.false_eq_true, if_false, if_pos, wrapP, rd62]
        have h3 := h2 (decide ((l.getD i z62).f0 ≤ (l.getD (i - 1) z62).f0))
        simp only [decide_eq_true_eq] at h3
        simp only [show 0 < i from by omega, true_and]
        exact h3
    · simp only [if_neg h1]; exact Ev.now _
theorem shipSill_ev (s : S59) (hl : s.f1.length ≤ 1000) : Ev (fun k => ship_checkSill.f k s.f0.f0 s.f0.f1 s.f1) (sillE s) := by
  unfold ship_checkSill.f sillE
  refine Ev.bind (shipRange_ev _ _ _) ?_
  by_cases h0 : rangeE s.f0.f0 s.f0.f1 2880 = 0
  · simp only [if_pos h0, ship_many.f]
    by_cases h1 : s.f1.length = 0
    · simp (disch := omega) only [if_pos, Option.bind_some]
      simp only [show ¬ (7 : Int) = 0 from by decide, if_false]; exact Ev.now _
    · by_cases h2 : s.f1.length > 6
      · simp (disch := omega) only [if_neg, if_pos, Option.bind_some]
        exact Ev.now _
      · simp (disch := omega) only [if_neg, Option.bind_some, if_true]
        have h3 := shipLev_ev s.f1 hl s.f0.f0 s.f0.f1 s.f1.length 0 (by omega)
        rw [List.drop_zero] at h3
        have e : levE 0 (s.f1.getD (0 - 1) z62).f0 s.f1 = levE 0 0 s.f1 := by
          cases s.f1 with
          | nil => rfl
          | cons x r => simp only [levE, Nat.lt_irrefl, false_and, if_false]
        rw [e] at h3
        exact h3
  · simp only [if_neg h0]; exact Ev.now _
theorem refSill_ev (s : S59) (hl : s.f1.length ≤ 1000) : Ev (fun k => swarfref07_checkSill.f k s.f0.f0 s.f0.f1 s.f1) (sillE s) := by
  unfold swarfref07_checkSill.f sillE
  refine Ev.bind (refRange_ev _ _ _) ?_
  by_cases h0 : rangeE s.f0.f0 s.f0.f1 2880 = 0
  · simp only [if_pos h0]
    by_cases h1 : s.f1.length = 0
    · simp (disch := omega) only [if_pos]; exact Ev.now _
    · by_cases h2 : s.f1.length > 6
      · simp (disch := omega) only [if_neg, if_pos]; exact Ev.now _
      · simp (disch := omega) only [if_neg]
        have h3 := refLev_ev s.f1 hl s.f0.f0 s.f0.f1 s.f1.length 0 (by omega)
        rw [List.drop_zero] at h3
        have e : levE 0 (s.f1.getD (0 - 1) z62).f0 s.f1 = levE 0 0 s.f1 := by
          cases s.f1 with
          | nil => rfl
          | cons x r => simp only [levE, Nat.lt_irrefl, false_and, if_false]
        rw [e] at h3
        exact h3
  · simp only [if_neg h0]; exact Ev.now _
def lotsE : List S79 → Int
  | [] => 0
  | x :: r => if rangeE x.f0.f0 x.f0.f1 5000 = 0 then (if 0 ≤ x.f1 ∧ x.f1 ≤ 100000 then lotsE r else 1) else rangeE x.f0.f0 x.f0.f1 5000
def sillsE (e : Int) : List S59 → Int
  | [] => e
  | x :: r => if sillE x = 0 then sillsE e r else sillE x
def holdsE (e : Int) : List S85 → Int
  | [] => e
  | x :: r => if 0 ≤ x.f0 ∧ x.f0 ≤ 5000 then (if 0 ≤ x.f1 ∧ x.f1 ≤ 10000 then (if 0 ≤ x.f2 ∧ x.f2 ≤ 10000 then holdsE e r else 1) else 1) else 1
def tailE (V : Int) (sills : List S59) (lots : List S79) : Int := if 0 ≤ V ∧ V ≤ 2880 then (if sills.length > 4 then 6 else sillsE (if lots.length > 6 then 6 else lotsE lots) sills) else 1
def checkE (L U R : Int) (holds : List S85) (V : Int) (sills : List S59) (lots : List S79) : Int :=
  if 0 ≤ L ∧ L ≤ 5000 then (if 0 ≤ U ∧ U ≤ 5000 then (if 0 ≤ R ∧ R ≤ 5000 then (if holds.length = 0 then 7 else if holds.length > 3 then 6 else holdsE (tailE V sills lots) holds) else 1) else 1) else 1
theorem shipLots_ev (l : List S79) (hl : l.length ≤ 1000) (d : Nat) : ∀ i : Nat, i + d = l.length → Ev (fun k => ship_Check.l2 k l (l.length : Int) (i : Int)) (lotsE (l.drop i)) := by
  induction d with
  | zero =>
    intro i hi
    refine Ev.succ ?_
    rw [List.drop_eq_nil_of_le (by omega)]
    simp (disch := omega) only [ship_Check.l2, if_neg, lotsE]
    exact Ev.now _
  | succ d ih =>
    intro i hi
    have ih' := ih (i + 1) (by omega)
    rw [drop_cons_of l i (by omega) z79]
    refine Ev.succ ?_
    simp (disch := omega) only [ship_Check.l2, if_pos, rd79, in_e, Option.bind_some, decide_eq_true_eq, lotsE]
    refine Ev.bind (shipRange_ev _ _ _) ?_
    by_cases h1 : rangeE (l.getD i z79).f0.f0 (l.getD i z79).f0.f1 5000 = 0
    · simp only [if_pos h1]
      by_cases h2 : 0 ≤ (l.getD i z79).f1 ∧ (l.getD i z79).f1 ≤ 100000
      · simp only [if_pos h2]; rw [wrapS (by omega)]; exact ih'
      · simp only [if_neg h2]; exact Ev.now _
    · simp only [if_neg h1]; exact Ev.now _
theorem refLots_ev (L U R V : Int) (holds : List S85) (sills : List S59) (l : List S79) (hl : l.length ≤ 1000) (d : Nat) : ∀ i : Nat, i + d = l.length → Ev (fun k => swarfref07_Check.l1 k (i : Int) L U R holds V sills l) (lotsE (l.drop i)) := by
  induction d with
  | zero =>
    intro i hi
    refine Ev.succ ?_
    rw [List.drop_eq_nil_of_le (by omega)]
    simp (disch := omega) only [swarfref07_Check.l1, if_neg, lotsE]
    exact Ev.now _
  | succ d ih =>
    intro i hi
    have ih' := ih (i + 1) (by omega)
    rw [drop_cons_of l i (by omega) z79]
    refine Ev.succ ?_
    simp (disch := omega) only [swarfref07_Check.l1, if_pos, rd79, between_e, Option.bind_some, decide_eq_true_eq, lotsE]
    refine Ev.bind (refRange_ev _ _ _) ?_
    by_cases h1 : rangeE (l.getD i z79).f0.f0 (l.getD i z79).f0.f1 5000 = 0
    · simp only [if_pos h1]
      by_cases h2 : 0 ≤ (l.getD i z79).f1 ∧ (l.getD i z79).f1 ≤ 100000
      · simp only [if_pos h2]; rw [wrapS (by omega)]; exact ih'
      · simp only [if_neg h2]; exact Ev.now _
    · simp only [if_neg h1]; exact Ev.now _
theorem shipSills_ev (L U R V : Int) (holds : List S85) (l : List S59) (lots : List S79) (hl : l.length ≤ 1000) (hn : ∀ s, s ∈ l → s.f1.length ≤ 1000) (hlo : lots.length ≤ 1000) (d : Nat) : ∀ i : Nat, i + d = l.length → Ev (fun k => ship_Check.l1 k l (l.length : Int) (i : Int) L U R holds V l lots) (sillsE (if lots.length > 6 then 6 else lotsE lots) (l.drop i)) := by
  induction d with
  | zero =>
    intro i hi
    refine Ev.succ ?_
    rw [List.drop_eq_nil_of_le (by omega)]
    simp (disch := omega) only [ship_Check.l1, if_neg, sillsE]
    by_cases h : lots.length > 6
    · simp (disch := omega) only [if_pos]; exact Ev.now _
    · simp (disch := omega) only [if_neg]; exact shipLots_ev lots hlo lots.length 0 (by omega)
  | succ d ih =>
    intro i hi
    have ih' := ih (i + 1) (by omega)
    rw [drop_cons_of l i (by omega) z59]
    refine Ev.succ ?_
    simp (disch := omega) only [ship_Check.l1, if_pos, rd59, sillsE]
    refine Ev.bind (shipSill_ev _ (hn _ (getD_mem l i z59 (by omega)))) ?_
    by_cases h1 : sillE (l.getD i z59) = 0
    · simp only [if_pos h1]; rw [wrapS (by omega)]; exact ih'
    · simp only [if_neg h1]; exact Ev.now _
theorem refSills_ev (L U R V : Int) (holds : List S85) (l : List S59) (lots : List S79) (hl : l.length ≤ 1000) (hn : ∀ s, s ∈ l → s.f1.length ≤ 1000) (hlo : lots.length ≤ 1000) (d : Nat) : ∀ i : Nat, i + d = l.length → Ev (fun k => swarfref07_Check.l0 k (i : Int) L U R holds V l lots) (sillsE (if lots.length > 6 then 6 else lotsE lots) (l.drop i)) := by
  induction d with
  | zero =>
    intro i hi
    refine Ev.succ ?_
    rw [List.drop_eq_nil_of_le (by omega)]
    simp (disch := omega) only [swarfref07_Check.l0, if_neg, sillsE]
    by_cases h : lots.length > 6
    · simp (disch := omega) only [if_pos]; exact Ev.now _
    · simp (disch := omega) only [if_neg]; exact refLots_ev L U R V holds l lots hlo lots.length 0 (by omega)
  | succ d ih =>
    intro i hi
    have ih' := ih (i + 1) (by omega)
    rw [drop_cons_of l i (by omega) z59]
    refine Ev.succ ?_
    simp (disch := omega) only [swarfref07_Check.l0, if_pos, rd59, sillsE]
    refine Ev.bind (refSill_ev _ (hn _ (getD_mem l i z59 (by omega)))) ?_
    by_cases h1 : sillE (l.getD i z59) = 0
    · simp only [if_pos h1]; rw [wrapS (by omega)]; exact ih'
    · simp only [if_neg h1]; exact Ev.now _
theorem shipHolds_ev (L U R V : Int) (l : List S85) (sills : List S59) (lots : List S79) (hl : l.length ≤ 1000) (hsl : sills.length ≤ 1000) (hn : ∀ s, s ∈ sills → s.f1.length ≤ 1000) (hlo : lots.length ≤ 1000) (d : Nat) : ∀ i : Nat, i + d = l.length → Ev (fun k => ship_Check.l0 k l (l.length : Int) (i : Int) L U R l V sills lots) (holdsE (tailE V sills lots) (l.drop i)) := by
  induction d with
  | zero =>
    intro i hi
    refine Ev.succ ?_
    rw [List.drop_eq_nil_of_le (by omega)]
    simp (disch := omega) only [ship_Check.l0, if_neg, in_e, Option.bind_some, decide_eq_true_eq, holdsE, tailE]
    by_cases h : 0 ≤ V ∧ V ≤ 2880
    · simp only [if_pos h]
      by_cases h2 : sills.length > 4
      · simp (disch := omega) only [if_pos]; exact Ev.now _
      · simp (disch := omega) only [if_neg]; exact shipSills_ev L U R V l sills lots hsl hn hlo sills.length 0 (by omega)
    · simp only [if_neg h]; exact Ev.now _
  | succ d ih =>
    intro i hi
    have ih' := ih (i + 1) (by omega)
    rw [drop_cons_of l i (by omega) z85]
    refine Ev.succ ?_
    simp (disch := omega) only [ship_Check.l0, if_pos, rd85, in_e, Option.bind_some, decide_eq_true_eq, holdsE]
    by_cases h1 : 0 ≤ (l.getD i z85).f0 ∧ (l.getD i z85).f0 ≤ 5000
    · by_cases h2 : 0 ≤ (l.getD i z85).f1 ∧ (l.getD i z85).f1 ≤ 10000
      · by_cases h3 : 0 ≤ (l.getD i z85).f2 ∧ (l.getD i z85).f2 ≤ 10000
        · simp only [if_pos h1, if_pos h2, if_pos h3]; rw [wrapS (by omega)]; exact ih'
        · simp only [if_pos h1, if_pos h2, if_neg h3]; exact Ev.now _
      · simp only [if_pos h1, if_neg h2]; exact Ev.now _
    · simp only [if_neg h1]; exact Ev.now _
theorem refHolds_ev (L U R V : Int) (l : List S85) (sills : List S59) (lots : List S79) (hl : l.length ≤ 1000) (d : Nat) : ∀ i : Nat, i + d = l.length → Ev (fun k => swarfref07_checkBarge.l0 k (i : Int) L U R l V sills lots) (holdsE (if 0 ≤ V ∧ V ≤ 2880 then 0 else 1) (l.drop i)) := by
  induction d with
  | zero =>
    intro i hi
    refine Ev.succ ?_
    rw [List.drop_eq_nil_of_le (by omega)]
    simp (disch := omega) only [swarfref07_checkBarge.l0, if_neg, between_e, Option.bind_some, decide_eq_true_eq, holdsE]
    by_cases h : 0 ≤ V ∧ V ≤ 2880
    · simp only [if_pos h]; exact Ev.now _
    · simp only [if_neg h]; exact Ev.now _
  | succ d ih =>
    intro i hi
    have ih' := ih (i + 1) (by omega)
    rw [drop_cons_of l i (by omega) z85]
    refine Ev.succ ?_
    simp (disch := omega) only [swarfref07_checkBarge.l0, if_pos, rd85, between_e, Option.bind_some, decide_eq_true_eq, holdsE]
    by_cases h1 : 0 ≤ (l.getD i z85).f0 ∧ (l.getD i z85).f0 ≤ 5000
    · by_cases h2 : 0 ≤ (l.getD i z85).f1 ∧ (l.getD i z85).f1 ≤ 10000
      · by_cases h3 : 0 ≤ (l.getD i z85).f2 ∧ (l.getD i z85).f2 ≤ 10000
        · simp only [if_pos h1, if_pos h2, if_pos h3]; rw [wrapS (by omega)]; exact ih'
        · simp only [if_pos h1, if_pos h2, if_neg h3]; exact Ev.now _
      · simp only [if_pos h1, if_neg h2]; exact Ev.now _
    · simp only [if_neg h1]; exact Ev.now _
theorem holdsE_split (v : Prop) [Decidable v] (X : Int) : ∀ l : List S85, holdsE (if v then X else 1) l = if holdsE (if v then 0 else 1) l = 0 then X else holdsE (if v then 0 else 1) l
  | [] => by
    simp only [holdsE]
    by_cases h : v
    · simp only [if_pos h, if_true]
    · simp only [if_neg h]; rfl
  | x :: l => by
    have ih := holdsE_split v X l
    simp only [holdsE]
    by_cases h1 : 0 ≤ x.f0 ∧ x.f0 ≤ 5000
    · by_cases h2 : 0 ≤ x.f1 ∧ x.f1 ≤ 10000
      · by_cases h3 : 0 ≤ x.f2 ∧ x.f2 ≤ 10000
        · simp only [if_pos h1, if_pos h2, if_pos h3]; exact ih
        · simp only [if_pos h1, if_pos h2, if_neg h3]; rfl
      · simp only [if_pos h1, if_neg h2]; rfl
    · simp only [if_neg h1]; rfl
theorem shipCheck_ev (L U R V : Int) (l : List S85) (sills : List S59) (lots : List S79) (hl : l.length ≤ 1000) (hsl : sills.length ≤ 1000) (hn : ∀ s, s ∈ sills → s.f1.length ≤ 1000) (hlo : lots.length ≤ 1000) : Ev (fun k => ship_Check.f k L U R l V sills lots) (checkE L U R l V sills lots) := by
  have bad : Ev (fun k => ship_Check.j0 k true L U R l V sills lots) 1 := by
    refine Ev.succ ?_
    simp only [ship_Check.j0, if_true]; exact Ev.now _
  unfold ship_Check.f checkE
  simp only [in_e, Option.bind_some, decide_eq_true_eq]
  by_cases h1 : 0 ≤ L ∧ L ≤ 5000
  · by_cases h2 : 0 ≤ U ∧ U ≤ 5000
    · by_cases h3 : 0 ≤ R ∧ R ≤ 5000
      · simp only [if_pos h1, if_pos h2, if_pos h3]
        rw [decide_eq_true h3]
        refine Ev.succ ?_
        simp only [ship_Check.j0, Bool.not_true, Bool.false_eq_true, if_false, ship_many.f]
        by_cases h4 : l.length = 0
        · simp (disch := omega) only [if_pos, Option.bind_some]
          simp only [show ¬ (7 : Int) = 0 from by decide, if_false]; exact Ev.now _
        · by_cases h5 : l.length > 3
          · simp (disch := omega) only [if_neg, if_pos, Option.bind_some]; exact Ev.now _
          · simp (disch := omega) only [if_neg, Option.bind_some, if_true]
            exact shipHolds_ev L U R V l sills lots hl hsl hn hlo l.length 0 (by omega)
      · simp only [if_pos h1, if_pos h2, if_neg h3]
        rw [decide_eq_false h3]; exact bad
    · simp only [if_pos h1, if_neg h2]; exact bad
  · simp only [if_neg h1]; exact bad
theorem refCheck_ev (L U R V : Int) (l : List S85) (sills : List S59) (lots : List S79) (hl : l.length ≤ 1000) (hsl : sills.length ≤ 1000) (hn : ∀ s, s ∈ sills → s.f1.length ≤ 1000) (hlo : lots.length ≤ 1000) : Ev (fun k => swarfref07_Check.f k L U R l V sills lots) (checkE L U R l V sills lots) := by
  have bad : Ev (fun k => swarfref07_checkBarge.j0 k true L U R l V sills lots) 1 := by
    refine Ev.succ ?_
    simp only [swarfref07_checkBarge.j0, if_true]; exact Ev.now _
  have rest : ∀ e : Int, Ev (fun k => swarfref07_checkBarge.f k L U R l V sills lots) e → Ev (fun k => swarfref07_Check.f k L U R l V sills lots) (if e = 0 then (if sills.length > 4 then 6 else sillsE (if lots.length > 6 then 6 else lotsE lots) sills) else e) := fun e he => by
    unfold swarfref07_Check.f
    refine Ev.bind he ?_
    by_cases h0 : e = 0
    · simp only [if_pos h0]
      by_cases h : sills.length > 4
      · simp (disch := omega) only [if_pos]; exact Ev.now _
      · simp (disch := omega) only [if_neg]; exact refSills_ev L U R V l sills lots hsl hn hlo sills.length 0 (by omega)
    · simp only [if_neg h0]; exact Ev.now _
  unfold checkE
  by_cases h1 : 0 ≤ L ∧ L ≤ 5000
  · by_cases h2 : 0 ≤ U ∧ U ≤ 5000
    · by_cases h3 : 0 ≤ R ∧ R ≤ 5000
      · simp only [if_pos h1, if_pos h2, if_pos h3]
        by_cases h4 : l.length = 0
        · rw [if_pos h4]
          refine rest 7 ?_
          unfold swarfref07_checkBarge.f
          simp only [between_e, Option.bind_some, decide_eq_true_eq, if_pos h1, if_pos h2]
          rw [decide_eq_true h3]
          refine Ev.succ ?_
          simp (disch := omega) only [swarfref07_checkBarge.j0, Bool.not_true, Bool.false_eq_true, if_false, if_pos]; exact Ev.now _
        · rw [if_neg h4]
          by_cases h5 : l.length > 3
          · rw [if_pos h5]
            refine rest 6 ?_
            unfold swarfref07_checkBarge.f
            simp only [between_e, Option.bind_some, decide_eq_true_eq, if_pos h1, if_pos h2]
            rw [decide_eq_true h3]
            refine Ev.succ ?_
            simp (disch := omega) only [swarfref07_checkBarge.j0, Bool.not_true, Bool.false_eq_true, if_false, if_pos, if_neg]; exact Ev.now _
          · rw [if_neg h5]
            have hb : Ev (fun k => swarfref07_checkBarge.f k L U R l V sills lots) (holdsE (if 0 ≤ V ∧ V ≤ 2880 then 0 else 1) l) := by
              unfold swarfref07_checkBarge.f
              simp only [between_e, Option.bind_some, decide_eq_true_eq, if_pos h1, if_pos h2]
              rw [decide_eq_true h3]
              refine Ev.succ ?_
              simp (disch := omega) only [swarfref07_checkBarge.j0, Bool.not_true, Bool.false_eq_true, if_false, if_neg]
              exact refHolds_ev L U R V l sills lots hl l.length 0 (by omega)
            have h6 := rest _ hb
            rw [tailE, holdsE_split (0 ≤ V ∧ V ≤ 2880) (if sills.length > 4 then 6 else sillsE (if lots.length > 6 then 6 else lotsE lots) sills) l]
            exact h6
      · simp only [if_pos h1, if_pos h2, if_neg h3]
        refine rest 1 ?_
        unfold swarfref07_checkBarge.f
        simp only [between_e, Option.bind_some, decide_eq_true_eq, if_pos h1, if_pos h2]
        rw [decide_eq_false h3]; exact bad
    · simp only [if_pos h1, if_neg h2]
      refine rest 1 ?_
      unfold swarfref07_checkBarge.f
      simp only [between_e, Option.bind_some, decide_eq_true_eq, if_pos h1, if_neg h2]; exact bad
  · simp only [if_neg h1]
    refine rest 1 ?_
    unfold swarfref07_checkBarge.f
    simp only [between_e, Option.bind_some, decide_eq_true_eq, if_neg h1]; exact bad
structure Valid (L U R : Int) (holds : List S85) (V : Int) (sills : List S59) (lots : List S79) : Prop where
  light : 0 ≤ L ∧ L ≤ 5000
  under : 0 ≤ U ∧ U ≤ 5000
  trim : 0 ≤ R ∧ R ≤ 5000
  leaves : 0 ≤ V ∧ V ≤ 2880
  hn : 1 ≤ holds.length ∧ holds.length ≤ 3
  ho : ∀ h, h ∈ holds → (0 ≤ h.f0 ∧ h.f0 ≤ 5000) ∧ (0 ≤ h.f1 ∧ h.f1 ≤ 10000) ∧ (0 ≤ h.f2 ∧ h.f2 ≤ 10000)
  sn : sills.length ≤ 4
  si : ∀ s, s ∈ sills → sillE s = 0
  ln : lots.length ≤ 6
  lo : ∀ c, c ∈ lots → 0 ≤ c.f0.f0 ∧ c.f0.f0 ≤ c.f0.f1 ∧ c.f0.f1 ≤ 5000 ∧ 0 ≤ c.f1 ∧ c.f1 ≤ 100000
theorem rangeE_zero {a b hi : Int} (h : rangeE a b hi = 0) : 0 ≤ a ∧ a ≤ b ∧ b ≤ hi := by
  unfold rangeE at h
  by_cases h1 : (0 ≤ a ∧ a ≤ hi) ∧ (0 ≤ b ∧ b ≤ hi)
  · rw [if_pos h1] at h
    by_cases h2 : a > b
    · rw [if_pos h2] at h; cases h
    · omega
  · rw [if_neg h1] at h; cases h
theorem lotsE_zero : ∀ l : List S79, lotsE l = 0 → ∀ c, c ∈ l → 0 ≤ c.f0.f0 ∧ c.f0.f0 ≤ c.f0.f1 ∧ c.f0.f1 ≤ 5000 ∧ 0 ≤ c.f1 ∧ c.f1 ≤ 100000
  | [], _, c, hc => by cases hc
  | x :: l, h, c, hc => by
    simp only [lotsE] at h
    by_cases h1 : rangeE x.f0.f0 x.f0.f1 5000 = 0
    · rw [if_pos h1] at h
      by_cases h2 : 0 ≤ x.f1 ∧ x.f1 ≤ 100000
      · rw [if_pos h2] at h
        rcases List.mem_cons.1 hc with rfl | hc
        · obtain ⟨a, b, d⟩ := rangeE_zero h1; exact ⟨a, b, d, h2.1, h2.2⟩
        · exact lotsE_zero l h c hc
      · rw [if_neg h2] at h; cases h
    · rw [if_neg h1] at h; exact absurd h h1
theorem sillsE_zero (e : Int) : ∀ l : List S59, sillsE e l = 0 → e = 0 ∧ ∀ s, s ∈ l → sillE s = 0
  | [], h => ⟨h, fun s hs => by cases hs⟩
  | x :: l, h => by
    simp only [sillsE] at h
    by_cases h1 : sillE x = 0
    · rw [if_pos h1] at h
      obtain ⟨a, b⟩ := sillsE_zero e l h
      refine ⟨a, fun s hs => ?_⟩
      rcases List.mem_cons.1 hs with rfl | hs
      · exact h1
      · exact b s hs
    · rw [if_neg h1] at h; exact absurd h h1
theorem holdsE_zero (e : Int) : ∀ l : List S85, holdsE e l = 0 → e = 0 ∧ ∀ h, h ∈ l → (0 ≤ h.f0 ∧ h.f0 ≤ 5000) ∧ (0 ≤ h.f1 ∧ h.f1 ≤ 10000) ∧ (0 ≤ h.f2 ∧ h.f2 ≤ 10000)
  | [], h => ⟨h, fun s hs => by cases hs⟩
  | x :: l, h => by
    simp only [holdsE] at h
    by_cases h1 : 0 ≤ x.f0 ∧ x.f0 ≤ 5000
    · by_cases h2 : 0 ≤ x.f1 ∧ x.f1 ≤ 10000
      · by_cases h3 : 0 ≤ x.f2 ∧ x.f2 ≤ 10000
        · rw [if_pos h1, if_pos h2, if_pos h3] at h
          obtain ⟨a, b⟩ := holdsE_zero e l h
          refine ⟨a, fun s hs => ?_⟩
          rcases List.mem_cons.1 hs with rfl | hs
          · exact ⟨h1, h2, h3⟩
          · exact b s hs
        · rw [if_pos h1, if_pos h2, if_neg h3] at h; cases h
      · rw [if_pos h1, if_neg h2] at h; cases h
    · rw [if_neg h1] at h; cases h
theorem valid_of {L U R V : Int} {holds : List S85} {sills : List S59} {lots : List S79} (h : checkE L U R holds V sills lots = 0) : Valid L U R holds V sills lots := by
  unfold checkE at h
  by_cases h1 : 0 ≤ L ∧ L ≤ 5000
  · by_cases h2 : 0 ≤ U ∧ U ≤ 5000
    · by_cases h3 : 0 ≤ R ∧ R ≤ 5000
      · rw [if_pos h1, if_pos h2, if_pos h3] at h
        by_cases h4 : holds.length = 0
        · rw [if_pos h4] at h; cases h
        · rw [if_neg h4] at h
          by_cases h5 : holds.length > 3
          · rw [if_pos h5] at h; cases h
          · rw [if_neg h5] at h
            obtain ⟨ht, hh⟩ := holdsE_zero _ _ h
            unfold tailE at ht
            by_cases h6 : 0 ≤ V ∧ V ≤ 2880
            · rw [if_pos h6] at ht
              by_cases h7 : sills.length > 4
              · rw [if_pos h7] at ht; cases ht
              · rw [if_neg h7] at ht
                obtain ⟨hl, hs⟩ := sillsE_zero _ _ ht
                by_cases h8 : lots.length > 6
                · rw [if_pos h8] at hl; cases hl
                · rw [if_neg h8] at hl
                  exact ⟨h1, h2, h3, h6, by omega, hh, by omega, hs, by omega, lotsE_zero lots hl⟩
            · rw [if_neg h6] at ht; cases ht
      · rw [if_pos h1, if_pos h2, if_neg h3] at h; cases h
    · rw [if_pos h1, if_neg h2] at h; cases h
  · rw [if_neg h1] at h; cases h
set_option maxHeartbeats 8000000 in
set_option maxRecDepth 100000 in
theorem laden_calls (x : VoyV) (A1 : Option Addr) (c1 : Nat) (l1 : List Int) (Q : Q4) (w : World) (hx : x.Ok w) (hr1 : Kd.C (Kd.int .i64) w A1 l1.length l1) (hc1 : l1.length ≤ c1) (hl1 : l1.length ≤ 140737488351232)
  (h : ladenO x.light x.holds x.lots l1 = some Q) :
  Calls Try.prog 55 #[.agg #[.int .i64 x.light, .int .i64 x.under, .int .i64 x.trim, .slice x.A3 x.holds.length x.c3, .int .i64 x.leaves, .slice x.A5 x.sills.length x.c5, .slice x.A6 x.lots.length x.c6], .slice A1 l1.length c1] w fun e w' => e = .returned (.agg #[.int .i64 x.light, .int .i64 x.under, .int .i64 x.trim, .slice x.A3 x.holds.length x.c3, .int .i64 x.leaves, .slice x.A5 x.sills.length x.c5, .slice x.A6 x.lots.length x.c6, .int .i64 Q.b0, .int .i64 Q.b1, .int .i64 Q.h0, .int .i64 Q.h1]) ∧ Below w.heap.size w w' := by
 have hu26 := Try.underlying26
 have hu93 := Try.underlying93
 have hu95 := Try.underlying95
 have hu92 := Try.underlying92
 have hu85 := Try.underlying85
 have hu56 := Try.underlying56
 have hu79 := Try.underlying79
 have HX := Aside0.mk hx
 have HR1 := Aside0.mk hr1
 have HF := Aside0.mk h
 clear hx hr1 h
 go_enter Try.func55, Try.ntmps55
 go_upto_region 1 with (first
  | (refine box_r (N := 2) rfl (cs := #[.int .i64 x.light, .int .i64 x.under, .int .i64 x.trim, .slice x.A3 x.holds.length x.c3, .int .i64 x.leaves, .slice x.A5 x.sills.length x.c5, .slice x.A6 x.lots.length x.c6]) (t := 26) ?_; intro gb hg w2 hbox hb2; have BK := Aside0.mk hbox; have HB := Aside0.mk hb2; clear hg hbox hb2))
 have hs2_ := HB.out.size
 obtain ⟨g4, hg_⟩ : ∃ b, b = w2.heap.size := ⟨_, rfl⟩
 have Ng4 := Aside0.mk (blk_new w2 (.cells #[.int .i64 0, .int .i64 0, .int .i64 0, .slice none 0 0, .int .i64 0, .slice none 0 0, .slice none 0 0, .int .i64 0, .int .i64 0, .int .i64 0, .int .i64 0] 95 (0, 0)))
 have hbw : Below w2.heap.size w2 (w2.alloc (.cells #[.int .i64 0, .int .i64 0, .int .i64 0, .slice none 0 0, .int .i64 0, .slice none 0 0, .slice none 0 0, .int .i64 0, .int .i64 0, .int .i64 0, .int .i64 0] 95 (0, 0))) := below_alloc (Below.refl _ _) _
 generalize hw_ : w2.alloc (.cells #[.int .i64 0, .int .i64 0, .int .i64 0, .slice none 0 0, .int .i64 0, .slice none 0 0, .slice none 0 0, .int .i64 0, .int .i64 0, .int .i64 0, .int .i64 0] 95 (0, 0)) = w3 at *
 rw [← hg_] at Ng4 ⊢
 replace BK := Aside0.mk (blk_below BK.out hbw)
 replace HB := Aside0.mk (below_step HB.out hbw)
 have HN4 : Aside0 (w.heap.size ≤ g4) := ⟨by omega⟩
 clear hs2_ hbw hw_ hg_
 have hz0_ := (blk_cell BK.out 0).trans rfl
 have hz1_ := (blk_cell BK.out 1).trans rfl
 have hz2_ := (blk_cell BK.out 2).trans rfl
 have hz3_ := (blk_cell BK.out 3).trans rfl
 have hz4_ := (blk_cell BK.out 4).trans rfl
 have hz5_ := (blk_cell BK.out 5).trans rfl
 have hz6_ := (blk_cell BK.out 6).trans rfl
 go_upto_region 2 with (fail)
 clear hz0_ hz1_ hz2_ hz3_ hz4_ hz5_ hz6_
 obtain ⟨g5, hg_⟩ : ∃ b, b = w3.heap.size := ⟨_, rfl⟩
 have Ng5 := Aside0.mk (blk_new w3 (.cells #[.int .i64 (wrap64 (1000 * x.light)), .int .i64 (wrap64 (1000 * x.light))] 93 (0, 0)))
 have hbw : Below w3.heap.size w3 (w3.alloc (.cells #[.int .i64 (wrap64 (1000 * x.light)), .int .i64 (wrap64 (1000 * x.light))] 93 (0, 0))) := below_alloc (Below.refl _ _) _
 generalize hw_ : w3.alloc (.cells #[.int .i64 (wrap64 (1000 * x.light)), .int .i64 (wrap64 (1000 * x.light))] 93 (0, 0)) = w4 at *
 rw [← hg_] at Ng5 ⊢
 replace BK := Aside0.mk (blk_below BK.out hbw)
 replace Ng4 := Aside0.mk (blk_below Ng4.out hbw)
 replace HB := Aside0.mk (below_step HB.out hbw)
 clear hbw hw_ hg_
 have hz0_ := (blk_cell BK.out 0).trans rfl
 have hz1_ := (blk_cell BK.out 1).trans rfl
 have hz2_ := (blk_cell BK.out 2).trans rfl
 have hz3_ := (blk_cell BK.out 3).trans rfl
 have hz4_ := (blk_cell BK.out 4).trans rfl
 have hz5_ := (blk_cell BK.out 5).trans rfl
 have hz6_ := (blk_cell BK.out 6).trans rfl
 have he0_ := (blk_cell Ng5.out 0).trans rfl
 have he1_ := (blk_cell Ng5.out 1).trans rfl
 go_upto_region 3 with (fail)
 clear hz0_ hz1_ hz2_ hz3_ hz4_ hz5_ hz6_ he0_ he1_
 have hs4_ := HB.out.size
 have hl4_ := blk_lt Ng4.out
 obtain ⟨g6, hg_⟩ : ∃ b, b = w4.heap.size := ⟨_, rfl⟩
 have Ng6 := Aside0.mk (blk_new w4 (.cells #[.int .i64 x.light, .int .i64 x.under, .int .i64 x.trim, .slice x.A3 x.holds.length x.c3, .int .i64 x.leaves, .slice x.A5 x.sills.length x.c5, .slice x.A6 x.lots.length x.c6, .int .i64 (wrap64 (1000 * x.light)), .int .i64 (wrap64 (1000 * x.light)), .int .i64 (wrap64 (1000 * x.light)), .int .i64 (wrap64 (1000 * x.light))] 95 (0, 0)))
 have hbw : Below w4.heap.size w4 (w4.alloc (.cells #[.int .i64 x.light, .int .i64 x.under, .int .i64 x.trim, .slice x.A3 x.holds.length x.c3, .int .i64 x.leaves, .slice x.A5 x.sills.length x.c5, .slice x.A6 x.lots.length x.c6, .int .i64 (wrap64 (1000 * x.light)), .int .i64 (wrap64 (1000 * x.light)), .int .i64 (wrap64 (1000 * x.light)), .int .i64 (wrap64 (1000 * x.light))] 95 (0, 0))) := below_alloc (Below.refl _ _) _
 generalize hw_ : w4.alloc (.cells #[.int .i64 x.light, .int .i64 x.under, .int .i64 x.trim, .slice x.A3 x.holds.length x.c3, .int .i64 x.leaves, .slice x.A5 x.sills.length x.c5, .slice x.A6 x.lots.length x.c6, .int .i64 (wrap64 (1000 * x.light)), .int .i64 (wrap64 (1000 * x.light)), .int .i64 (wrap64 (1000 * x.light)), .int .i64 (wrap64 (1000 * x.light))] 95 (0, 0)) = w5 at *
 rw [← hg_] at Ng6 ⊢
 replace BK := Aside0.mk (blk_below BK.out hbw)
 replace Ng4 := Aside0.mk (blk_below Ng4.out hbw)
 replace Ng5 := Aside0.mk (blk_below Ng5.out hbw)
 replace HB := Aside0.mk (below_step HB.out hbw)
 have HN6 : Aside0 (g4 ≠ g6 ∧ w.heap.size ≤ g6) := ⟨by omega, by omega⟩
 clear hs4_ hl4_ hbw hw_ hg_
 go_wp2
 go_loopg [26] l1.length (fun gk v26 wr => ∃ (k : Nat) (q : Q4), k ≤ l1.length ∧ l1.length - k ≤ gk ∧ v26 = .int .i64 k ∧ Aside0 (ladO x.holds x.lots k (l1.drop k) q = some Q) ∧ Aside0 (wr.heap[gb]? = some (.cells #[.int .i64 x.light, .int .i64 x.under, .int .i64 x.trim, .slice x.A3 x.holds.length x.c3, .int .i64 x.leaves, .slice x.A5 x.sills.length x.c5, .slice x.A6 x.lots.length x.c6] 26 (0, 0))) ∧ Aside0 (wr.heap[g4]? = some (.cells #[.int .i64 0, .int .i64 0, .int .i64 0, .slice none 0 0, .int .i64 0, .slice none 0 0, .slice none 0 0, .int .i64 0, .int .i64 0, .int .i64 0, .int .i64 0] 95 (0, 0))) ∧ Aside0 (wr.heap[g6]? = some (.cells #[.int .i64 x.light, .int .i64 x.under, .int .i64 x.trim, .slice x.A3 x.holds.length x.c3, .int .i64 x.leaves, .slice x.A5 x.sills.length x.c5, .slice x.A6 x.lots.length x.c6, .int .i64 q.b0, .int .i64 q.b1, .int .i64 q.h0, .int .i64 q.h1] 95 (0, 0))) ∧ Aside0 (Below w.heap.size w wr))
 case atStart => exact ⟨0, ⟨wrap64 (1000 * x.light), wrap64 (1000 * x.light), wrap64 (1000 * x.light), wrap64 (1000 * x.light)⟩, by omega, by omega, rfl, HF, BK, Ng4, Ng6, HB⟩
 case round =>
  clear BK Ng4 Ng5 Ng6 HB HF; obtain ⟨k, q, hk, hgk, rfl, HF, BK, B4, B6, HB⟩ := hrel; by_cases hlt : k < l1.length
  ·
   (have hlz : (k : Int) < (l1.length : Int) := by omega); have hdr := drop_rd l1 k hlt; rw [hdr] at HF; clear hdr; obtain ⟨ad, e, hx0⟩ := Kd.at_int HR1.out (k : Int) (by omega) hlz; (cases e); rw [Int.toNat_natCast] at hx0; replace hx0 := cell_x HB hx0; generalize rd l1 (k : Int) = a at *; by_cases ha : a < 0
   ·
    have HF2 := Aside0.mk ((show ladO x.holds x.lots (k + 1) (l1.drop (k + 1)) q = some Q by have := HF.out; simp only [ladO] at this; rwa [if_pos ha] at this)); go_wp2; go_roundg (l1.length - (k + 1))
    case measure => omega
    case rel => exact ⟨k + 1, q, by omega, by omega, by go_num, HF2, BK, B4, B6, HB⟩
   ·
    have hF := HF.out; simp only [ladO] at hF; rw [if_neg ha] at hF; by_cases ha2 : a < (x.holds.length : Int)
    case neg => rw [if_neg ha2] at hF; cases hF
    rw [if_pos ha2] at hF; by_cases hk2 : k < x.lots.length
    case neg => rw [if_neg hk2] at hF; cases hF
    rw [if_pos hk2] at hF; have HF2 := Aside0.mk hF; clear hF
    go_upto_region 7 with (fail)
    obtain ⟨adh, e3, hh0, hh1, hh2⟩ := at_T85 HX.out.h a (by omega) ha2; obtain ⟨adl, e6, ht0, ht1, ht2⟩ := at_T79 HX.out.l (k : Int) (by omega) (by omega); rw [Int.toNat_natCast] at ht0 ht1; replace hh0 := cell_x HB hh0; replace hh1 := cell_x HB hh1; replace hh2 := cell_x HB hh2; replace ht0 := cell_x HB ht0; replace ht1 := cell_x HB ht1; have hz3_ : wr.cell? ⟨gb, 3, none⟩ = some (.slice (some adh) x.holds.length x.c3) := (by rw [← e3]; exact (blk_cell BK.out 3).trans rfl); have hz6_ : wr.cell? ⟨gb, 6, none⟩ = some (.slice (some adl) x.lots.length x.c6) := (by rw [← e6]; exact (blk_cell BK.out 6).trans rfl); (have haz : 0 ≤ a := by omega); (have hkz : (k : Int) < (x.lots.length : Int) := by omega); clear ha ht2 e3 e6 hk2; generalize rd_T85 x.holds a = hd at *; generalize (rd_T79 x.lots (k : Int)).f0 = tn at *; have hd_ := below_drew1 (Below.refl wr.heap.size wr); replace BK := Aside0.mk (blk_drew BK.out); replace B4 := Aside0.mk (blk_drew B4.out); replace B6 := Aside0.mk (blk_drew B6.out); replace HB := Aside0.mk (below_step HB.out hd_); have HS0 := Aside0.mk (show wr.drew.cell? ⟨gb, 3, none⟩ = some (.slice (some adh) x.holds.length x.c3) ∧ wr.drew.cell? ⟨gb, 6, none⟩ = some (.slice (some adl) x.lots.length x.c6) ∧ wr.drew.cell? (adh.add (a.toNat * 3)) = some (.int .i64 hd.f0) ∧ wr.drew.cell? ⟨(adh.add (a.toNat * 3)).block, (adh.add (a.toNat * 3)).off + 1, none⟩ = some (.int .i64 hd.f1) ∧ wr.drew.cell? ⟨(adh.add (a.toNat * 3)).block, (adh.add (a.toNat * 3)).off + 2, none⟩ = some (.int .i64 hd.f2) ∧ wr.drew.cell? (adl.add (k * 3)) = some (.int .i64 tn.f0) ∧ wr.drew.cell? ⟨(adl.add (k * 3)).block, (adl.add (k * 3)).off + 1, none⟩ = some (.int .i64 tn.f1) from ⟨hz3_, hz6_, hh0, hh1, hh2, ht0, ht1⟩); clear hd_; refine start_ (n := 15) (S := fun w' => w'.cell? ⟨gb, 3, none⟩ = some (.slice (some adh) x.holds.length x.c3) ∧ w'.cell? ⟨gb, 6, none⟩ = some (.slice (some adl) x.lots.length x.c6) ∧ w'.cell? (adh.add (a.toNat * 3)) = some (.int .i64 hd.f0) ∧ w'.cell? ⟨(adh.add (a.toNat * 3)).block, (adh.add (a.toNat * 3)).off + 1, none⟩ = some (.int .i64 hd.f1) ∧ w'.cell? ⟨(adh.add (a.toNat * 3)).block, (adh.add (a.toNat * 3)).off + 2, none⟩ = some (.int .i64 hd.f2) ∧ w'.cell? (adl.add (k * 3)) = some (.int .i64 tn.f0) ∧ w'.cell? ⟨(adl.add (k * 3)).block, (adl.add (k * 3)).off + 1, none⟩ = some (.int .i64 tn.f1)) (ds := [14]) #[false, false, false, false, false, false, false, false, false, false, false, false, false, false, false] (by kernel_rfl) rfl rfl ⟨hz3_, hz6_, hh0, hh1, hh2, ht0, ht1⟩ (fun hHeld => ?_); generalize wr.drew = wd at BK B4 B6 HB HS0 hHeld ⊢; refine pure_y 0 (some 33) (bz 15 1) ?_; refine pure_y 2 (some 35) (bz 15 5) ?_; refine pure_y 5 (some 38) (bz 15 37) ?_; refine pure_y 7 (some 40) (bz 15 165) ?_; refine take_y 1 (some 34) (bz 15 167) hHeld ?_; refine pure_y 3 (some 36) (bz 15 175) ?_; refine take_y 4 (some 37) (bz 15 191) hHeld ?_; refine take_y 6 (some 39) (bz 15 255) hHeld ?_; refine pure_y 8 (some 41) (bz 15 511) ?_; refine pure_y 9 (some 42) (bz 15 1023) ?_; refine take_y 10 (some 43) (bz 15 2047) hHeld ?_; refine join_ (σ := Nat × Nat) 2 (bz 15 8191) (fun s_ => [(9, .pointer (some ⟨s_.1, 0, none⟩)), (10, .pointer (some ⟨s_.2, 0, none⟩))]) (fun s_ w' => (w'.cell? ⟨gb, 3, none⟩ = some (.slice (some adh) x.holds.length x.c3) ∧ w'.cell? ⟨gb, 6, none⟩ = some (.slice (some adl) x.lots.length x.c6) ∧ w'.cell? (adh.add (a.toNat * 3)) = some (.int .i64 hd.f0) ∧ w'.cell? ⟨(adh.add (a.toNat * 3)).block, (adh.add (a.toNat * 3)).off + 1, none⟩ = some (.int .i64 hd.f1) ∧ w'.cell? ⟨(adh.add (a.toNat * 3)).block, (adh.add (a.toNat * 3)).off + 2, none⟩ = some (.int .i64 hd.f2) ∧ w'.cell? (adl.add (k * 3)) = some (.int .i64 tn.f0) ∧ w'.cell? ⟨(adl.add (k * 3)).block, (adl.add (k * 3)).off + 1, none⟩ = some (.int .i64 tn.f1)) ∧ Aside0 (w'.heap[s_.1]? = some (.cells #[.int .i64 0, .int .i64 0, .int .i64 0] 85 (0, 0))) ∧ Aside0 (w'.heap[s_.2]? = some (.cells #[.int .i64 0, .int .i64 0] 56 (0, 0))) ∧ wd.heap.size ≤ s_.1 ∧ wd.heap.size ≤ s_.2 ∧ Aside0 (Below wd.heap.size wd w')) ?_ ?_; rotate_left
    ·
     intro hCont; refine two_ (i := 11) (j := 12) (Ni := some 9) (Nj := some 10) (bz 15 4095) (bz 15 6143) rfl rfl rfl rfl (by kernel_rfl) (by decide) (by decide) (fun K hK => ?_) (fun K hK => ?_)
     ·
      skip
      have HBd := Aside0.mk (Below.refl wd.heap.size wd); refine value_ (w1 := ?_) (v := ?_) (by rfl) rfl ?_ ?_; rotate_left 2
      ·
       go_simp
       constructor
       ·
        rfl
       ·
        rfl
      obtain ⟨g9, hg_⟩ : ∃ b, b = wd.heap.size := ⟨_, rfl⟩; have B9 := Aside0.mk (blk_new wd (.cells #[.int .i64 0, .int .i64 0, .int .i64 0] 85 (0, 0))); have hb11_ : Below wd.heap.size wd (wd.alloc (.cells #[.int .i64 0, .int .i64 0, .int .i64 0] 85 (0, 0))) := below_alloc (Below.refl _ _) _; (have hg9_ : wd.heap.size ≤ g9 := by rw [hg_]; exact HBd.out.size); generalize hw_ : wd.alloc (.cells #[.int .i64 0, .int .i64 0, .int .i64 0] 85 (0, 0)) = wq11 at *; rw [← hg_] at B9 ⊢; replace HBd := Aside0.mk (below_step HBd.out hb11_); clear hw_ hg_; refine hK.out _ _ (cbs_y hb11_ hHeld) (fun hHeld => ?_); clear hK K; refine norm_y (some 9) ?_; (refine one_y 12 (some 10) (bz 15 8191) fun K hK => ?_); refine value_ (w1 := ?_) (v := ?_) (by rfl) rfl ?_ ?_; rotate_left 2
      ·
       go_simp
       constructor
       ·
        rfl
       ·
        rfl
      obtain ⟨g10, hg_⟩ : ∃ b, b = wq11.heap.size := ⟨_, rfl⟩; have B10 := Aside0.mk (blk_new wq11 (.cells #[.int .i64 0, .int .i64 0] 56 (0, 0))); have hb12_ : Below wq11.heap.size wq11 (wq11.alloc (.cells #[.int .i64 0, .int .i64 0] 56 (0, 0))) := below_alloc (Below.refl _ _) _; (have hg10_ : wd.heap.size ≤ g10 := by rw [hg_]; exact HBd.out.size); generalize hw_ : wq11.alloc (.cells #[.int .i64 0, .int .i64 0] 56 (0, 0)) = wq11_12 at *; rw [← hg_] at B10 ⊢; replace B9 := Aside0.mk (blk_below B9.out hb12_); replace HBd := Aside0.mk (below_step HBd.out hb12_); clear hw_ hg_; refine hK.out _ _ (cbs_y hb12_ hHeld) (fun hHeld => ?_); clear hK K; refine norm_y (some 10) ?_; exact norm_ (by simp only [putAll, Act.put, put_x]) (hCont (g9, g10) _ ⟨hHeld, B9, B10, hg9_, hg10_, HBd⟩)
     ·
      skip
      have HBd := Aside0.mk (Below.refl wd.heap.size wd); refine value_ (w1 := ?_) (v := ?_) (by rfl) rfl ?_ ?_; rotate_left 2
      ·
       go_simp
       constructor
       ·
        rfl
       ·
        rfl
      obtain ⟨g10, hg_⟩ : ∃ b, b = wd.heap.size := ⟨_, rfl⟩; have B10 := Aside0.mk (blk_new wd (.cells #[.int .i64 0, .int .i64 0] 56 (0, 0))); have hb12_ : Below wd.heap.size wd (wd.alloc (.cells #[.int .i64 0, .int .i64 0] 56 (0, 0))) := below_alloc (Below.refl _ _) _; (have hg10_ : wd.heap.size ≤ g10 := by rw [hg_]; exact HBd.out.size); generalize hw_ : wd.alloc (.cells #[.int .i64 0, .int .i64 0] 56 (0, 0)) = wq12 at *; rw [← hg_] at B10 ⊢; replace HBd := Aside0.mk (below_step HBd.out hb12_); clear hw_ hg_; refine hK.out _ _ (cbs_y hb12_ hHeld) (fun hHeld => ?_); clear hK K; refine norm_y (some 10) ?_; (refine one_y 11 (some 9) (bz 15 8191) fun K hK => ?_); refine value_ (w1 := ?_) (v := ?_) (by rfl) rfl ?_ ?_; rotate_left 2
      ·
       go_simp
       constructor
       ·
        rfl
       ·
        rfl
      obtain ⟨g9, hg_⟩ : ∃ b, b = wq12.heap.size := ⟨_, rfl⟩; have B9 := Aside0.mk (blk_new wq12 (.cells #[.int .i64 0, .int .i64 0, .int .i64 0] 85 (0, 0))); have hb11_ : Below wq12.heap.size wq12 (wq12.alloc (.cells #[.int .i64 0, .int .i64 0, .int .i64 0] 85 (0, 0))) := below_alloc (Below.refl _ _) _; (have hg9_ : wd.heap.size ≤ g9 := by rw [hg_]; exact HBd.out.size); generalize hw_ : wq12.alloc (.cells #[.int .i64 0, .int .i64 0, .int .i64 0] 85 (0, 0)) = wq12_11 at *; rw [← hg_] at B9 ⊢; replace B10 := Aside0.mk (blk_below B10.out hb11_); replace HBd := Aside0.mk (below_step HBd.out hb11_); clear hw_ hg_; refine hK.out _ _ (cbs_y hb11_ hHeld) (fun hHeld => ?_); clear hK K; refine norm_y (some 9) ?_; exact norm_ (by simp only [putAll, Act.put, put_x]) (hCont (g9, g10) _ ⟨hHeld, B9, B10, hg9_, hg10_, HBd⟩)
    rintro ⟨g9, g10⟩ wj ⟨hHeld, B9, B10, hg9_, hg10_, HBd⟩; refine norm_ (a' := ?_) ?_ ?_; rotate_left
    ·
     simp only [putAll, Act.put, put_x]; rfl
    (refine one_y 13 (none) (bz 15 16383) fun K hK => ?_); have hy0_ := (blk_cell B9.out 0).trans rfl; have hy1_ := (blk_cell B9.out 1).trans rfl; have hy2_ := (blk_cell B9.out 2).trans rfl; have hf0_ := blk_frozen B9.out 0; have hf1_ := blk_frozen B9.out 1; have hf2_ := blk_frozen B9.out 2; refine skip_ (w1 := ?_) (by rfl) rfl ?_ ?_; rotate_left; (go_simp; rfl); have hx_ := below_set (j := 2) (v := .int .i64 hd.f2) (below_set (j := 1) (v := .int .i64 hd.f1) (below_set (j := 0) (v := .int .i64 hd.f0) HBd.out hg9_) hg9_) hg9_; refine hK.out _ _ (cbs_y hx_ HS0.out) (fun hHeld => ?_); clear hK K; refine last_ (i := 14) (N := none) (bz 15 32767) rfl rfl (by kernel_rfl) (by decide) (fun K hK => ?_); have hn_ : g10 ≠ g9 := blk_ne_ B10.out B9.out (by decide); have hy0_ := (blk_cell (blk_far (blk_far (blk_far B10.out (p := ⟨g9, 0, none⟩) hn_ (.int .i64 hd.f0)) (p := ⟨g9, 1, none⟩) hn_ (.int .i64 hd.f1)) (p := ⟨g9, 2, none⟩) hn_ (.int .i64 hd.f2)) 0).trans rfl; have hy1_ := (blk_cell (blk_far (blk_far (blk_far B10.out (p := ⟨g9, 0, none⟩) hn_ (.int .i64 hd.f0)) (p := ⟨g9, 1, none⟩) hn_ (.int .i64 hd.f1)) (p := ⟨g9, 2, none⟩) hn_ (.int .i64 hd.f2)) 1).trans rfl; have hf0_ := blk_frozen (blk_far (blk_far (blk_far B10.out (p := ⟨g9, 0, none⟩) hn_ (.int .i64 hd.f0)) (p := ⟨g9, 1, none⟩) hn_ (.int .i64 hd.f1)) (p := ⟨g9, 2, none⟩) hn_ (.int .i64 hd.f2)) 0; have hf1_ := blk_frozen (blk_far (blk_far (blk_far B10.out (p := ⟨g9, 0, none⟩) hn_ (.int .i64 hd.f0)) (p := ⟨g9, 1, none⟩) hn_ (.int .i64 hd.f1)) (p := ⟨g9, 2, none⟩) hn_ (.int .i64 hd.f2)) 1; refine skip_ (w1 := ?_) (by rfl) rfl ?_ ?_; rotate_left; (go_simp; rfl); refine hK.out _ _ ?_; clear hK K; refine done_ (by kernel_rfl) ?_; clear hHeld hy0_ hy1_ hy2_ hf0_ hf1_ hf2_; have C9 := Aside0.mk (blk_far (blk_far (blk_put (cs' := #[.int .i64 hd.f0, .int .i64 hd.f1, .int .i64 hd.f2]) (blk_set (blk_set B9.out 0 (.int .i64 hd.f0)) 1 (.int .i64 hd.f1)) 2 (.int .i64 hd.f2) rfl) (p := ⟨g10, 0, none⟩) hn_.symm (.int .i64 tn.f0)) (p := ⟨g10, 1, none⟩) hn_.symm (.int .i64 tn.f1)); have C10 := Aside0.mk (blk_put (cs' := #[.int .i64 tn.f0, .int .i64 tn.f1]) (blk_set (blk_far (blk_far (blk_far B10.out (p := ⟨g9, 0, none⟩) hn_ (.int .i64 hd.f0)) (p := ⟨g9, 1, none⟩) hn_ (.int .i64 hd.f1)) (p := ⟨g9, 2, none⟩) hn_ (.int .i64 hd.f2)) 0 (.int .i64 tn.f0)) 1 (.int .i64 tn.f1) rfl); have HBx := Aside0.mk (show Below wd.heap.size wd (((((wj.setCell ⟨g9, 0, none⟩ (.int .i64 hd.f0)).setCell ⟨g9, 1, none⟩ (.int .i64 hd.f1)).setCell ⟨g9, 2, none⟩ (.int .i64 hd.f2)).setCell ⟨g10, 0, none⟩ (.int .i64 tn.f0)).setCell ⟨g10, 1, none⟩ (.int .i64 tn.f1)) from below_set (below_set (below_set (below_set (below_set HBd.out hg9_) hg9_) hg9_) hg10_) hg10_); generalize hW_ : ((((wj.setCell ⟨g9, 0, none⟩ (.int .i64 hd.f0)).setCell ⟨g9, 1, none⟩ (.int .i64 hd.f1)).setCell ⟨g9, 2, none⟩ (.int .i64 hd.f2)).setCell ⟨g10, 0, none⟩ (.int .i64 tn.f0)).setCell ⟨g10, 1, none⟩ (.int .i64 tn.f1) = w6 at *; replace BK := Aside0.mk (blk_below BK.out HBx.out); replace B4 := Aside0.mk (blk_below B4.out HBx.out); replace B6 := Aside0.mk (blk_below B6.out HBx.out); replace HB := Aside0.mk (below_step HB.out HBx.out); clear hW_ hx_ hn_ hg9_ hg10_ HBd HBx HS0 B9 B10; have hy1_ := (blk_cell C9.out 1).trans rfl; have hy2_ := (blk_cell C9.out 2).trans rfl; go_wp2; clear hy1_ hy2_; (have hi0_ : ∀ w : World, (Instr.index 92 (.agg #[.int .i64 hd.f1, .int .i64 hd.f2]) (.int .i64 0)).run Try.prog w = .ok (.int .i64 hd.f1) w := fun _ => by kernel_rfl); (have hi1_ : ∀ w : World, (Instr.index 92 (.agg #[.int .i64 hd.f1, .int .i64 hd.f2]) (.int .i64 1)).run Try.prog w = .ok (.int .i64 hd.f2) w := fun _ => by kernel_rfl); refine wp_loop_rounds 3 ?_; rw [rounds_succ]
    go_upto_region 11 with (fail)
    have hb6_ := (blk_cell B6.out 7).trans rfl; have ht6_ := (blk_cell C10.out 0).trans rfl; have hd_ := below_drew1 (Below.refl w6.heap.size w6); replace BK := Aside0.mk (blk_drew BK.out); replace B4 := Aside0.mk (blk_drew B4.out); replace B6 := Aside0.mk (blk_drew B6.out); replace C9 := Aside0.mk (blk_drew C9.out); replace C10 := Aside0.mk (blk_drew C10.out); replace HB := Aside0.mk (below_step HB.out hd_); clear hd_; refine start_ (n := 12) (S := fun w' => w'.cell? ⟨g6, 7, none⟩ = some (.int .i64 q.b0) ∧ w'.cell? ⟨g10, 0, none⟩ = some (.int .i64 tn.f0)) (ds := [11]) #[false, false, false, false, false, false, false, false, false, false, false, false] (by kernel_rfl) rfl rfl ⟨hb6_, ht6_⟩ (fun hHeld => ?_); generalize w6.drew = v1 at BK B4 B6 C9 C10 HB hHeld ⊢; refine pure_y 0 (some 53) (bz 12 1) ?_; refine pure_y 1 (some 54) (bz 12 3) ?_; refine pure_y 2 (some 55) (bz 12 7) ?_; refine pure_y 4 (some 57) (bz 12 23) ?_; refine pure_y 6 (some 59) (bz 12 87) ?_; refine pure_y 9 (some 62) (bz 12 599) ?_; refine take_y 3 (some 56) (bz 12 607) hHeld ?_; refine take_y 5 (some 58) (bz 12 639) hHeld ?_; refine pure_y 7 (some 60) (bz 12 767) ?_; refine pure_y 8 (some 61) (bz 12 1023) ?_; refine pure_y 10 (some 63) (bz 12 2047) ?_; refine last_ (i := 11) (N := none) (bz 12 4095) rfl rfl (by kernel_rfl) (by decide) (fun K hK => ?_); have hcl := hHeld.1; have hfz := blk_frozen B6.out 7; refine skip_ (w1 := ?_) (by rfl) rfl ?_ ?_; rotate_left; (go_simp; rfl); refine hK.out _ _ ?_; clear hK K; refine done_ (by kernel_rfl) ?_; clear hHeld hcl hfz hb6_ ht6_; have hx_ : Below w.heap.size w (v1.setCell ⟨g6, 7, none⟩ (.int .i64 (wrap64 (q.b0 + wrap64 (tn.f0 * hd.f1))))) := below_set HB.out HN6.out.2; replace BK := Aside0.mk (blk_far BK.out (p := ⟨g6, 7, none⟩) (blk_ne_ BK.out B6.out (by decide)) (.int .i64 (wrap64 (q.b0 + wrap64 (tn.f0 * hd.f1))))); replace B4 := Aside0.mk (blk_far B4.out (p := ⟨g6, 7, none⟩) HN6.out.1 (.int .i64 (wrap64 (q.b0 + wrap64 (tn.f0 * hd.f1))))); replace C9 := Aside0.mk (blk_far C9.out (p := ⟨g6, 7, none⟩) (blk_ne_ C9.out B6.out (by decide)) (.int .i64 (wrap64 (q.b0 + wrap64 (tn.f0 * hd.f1))))); replace C10 := Aside0.mk (blk_far C10.out (p := ⟨g6, 7, none⟩) (blk_ne_ C10.out B6.out (by decide)) (.int .i64 (wrap64 (q.b0 + wrap64 (tn.f0 * hd.f1))))); replace B6 := Aside0.mk (blk_put (cs' := #[.int .i64 x.light, .int .i64 x.under, .int .i64 x.trim, .slice x.A3 x.holds.length x.c3, .int .i64 x.leaves, .slice x.A5 x.sills.length x.c5, .slice x.A6 x.lots.length x.c6, .int .i64 (wrap64 (q.b0 + wrap64 (tn.f0 * hd.f1))), .int .i64 q.b1, .int .i64 q.h0, .int .i64 q.h1]) B6.out 7 (.int .i64 (wrap64 (q.b0 + wrap64 (tn.f0 * hd.f1)))) rfl); replace HB := Aside0.mk hx_; clear hx_; generalize hW_ : v1.setCell ⟨g6, 7, none⟩ (.int .i64 (wrap64 (q.b0 + wrap64 (tn.f0 * hd.f1)))) = u1_ at *; clear hW_
    go_upto_region 12 with (fail)
    have hb6_ := (blk_cell B6.out 9).trans rfl; have ht6_ := (blk_cell C10.out 1).trans rfl; have hd_ := below_drew1 (Below.refl u1_.heap.size u1_); replace BK := Aside0.mk (blk_drew BK.out); replace B4 := Aside0.mk (blk_drew B4.out); replace B6 := Aside0.mk (blk_drew B6.out); replace C9 := Aside0.mk (blk_drew C9.out); replace C10 := Aside0.mk (blk_drew C10.out); replace HB := Aside0.mk (below_step HB.out hd_); clear hd_; refine start_ (n := 12) (S := fun w' => w'.cell? ⟨g6, 9, none⟩ = some (.int .i64 q.h0) ∧ w'.cell? ⟨g10, 1, none⟩ = some (.int .i64 tn.f1)) (ds := [11]) #[false, false, false, false, false, false, false, false, false, false, false, false] (by kernel_rfl) rfl rfl ⟨hb6_, ht6_⟩ (fun hHeld => ?_); generalize u1_.drew = v2 at BK B4 B6 C9 C10 HB hHeld ⊢; refine pure_y 0 (some 64) (bz 12 1) ?_; refine pure_y 1 (some 65) (bz 12 3) ?_; refine pure_y 2 (some 66) (bz 12 7) ?_; refine pure_y 4 (some 68) (bz 12 23) ?_; refine pure_y 6 (some 70) (bz 12 87) ?_; refine pure_y 9 (some 73) (bz 12 599) ?_; refine take_y 3 (some 67) (bz 12 607) hHeld ?_; refine take_y 5 (some 69) (bz 12 639) hHeld ?_; refine pure_y 7 (some 71) (bz 12 767) ?_; refine pure_y 8 (some 72) (bz 12 1023) ?_; refine pure_y 10 (some 74) (bz 12 2047) ?_; refine last_ (i := 11) (N := none) (bz 12 4095) rfl rfl (by kernel_rfl) (by decide) (fun K hK => ?_); have hcl := hHeld.1; have hfz := blk_frozen B6.out 9; refine skip_ (w1 := ?_) (by rfl) rfl ?_ ?_; rotate_left; (go_simp; rfl); refine hK.out _ _ ?_; clear hK K; refine done_ (by kernel_rfl) ?_; clear hHeld hcl hfz hb6_ ht6_; have hx_ : Below w.heap.size w (v2.setCell ⟨g6, 9, none⟩ (.int .i64 (wrap64 (q.h0 + wrap64 (tn.f1 * hd.f1))))) := below_set HB.out HN6.out.2; replace BK := Aside0.mk (blk_far BK.out (p := ⟨g6, 9, none⟩) (blk_ne_ BK.out B6.out (by decide)) (.int .i64 (wrap64 (q.h0 + wrap64 (tn.f1 * hd.f1))))); replace B4 := Aside0.mk (blk_far B4.out (p := ⟨g6, 9, none⟩) HN6.out.1 (.int .i64 (wrap64 (q.h0 + wrap64 (tn.f1 * hd.f1))))); replace C9 := Aside0.mk (blk_far C9.out (p := ⟨g6, 9, none⟩) (blk_ne_ C9.out B6.out (by decide)) (.int .i64 (wrap64 (q.h0 + wrap64 (tn.f1 * hd.f1))))); replace C10 := Aside0.mk (blk_far C10.out (p := ⟨g6, 9, none⟩) (blk_ne_ C10.out B6.out (by decide)) (.int .i64 (wrap64 (q.h0 + wrap64 (tn.f1 * hd.f1))))); replace B6 := Aside0.mk (blk_put (cs' := #[.int .i64 x.light, .int .i64 x.under, .int .i64 x.trim, .slice x.A3 x.holds.length x.c3, .int .i64 x.leaves, .slice x.A5 x.sills.length x.c5, .slice x.A6 x.lots.length x.c6, .int .i64 (wrap64 (q.b0 + wrap64 (tn.f0 * hd.f1))), .int .i64 q.b1, .int .i64 (wrap64 (q.h0 + wrap64 (tn.f1 * hd.f1))), .int .i64 q.h1]) B6.out 9 (.int .i64 (wrap64 (q.h0 + wrap64 (tn.f1 * hd.f1)))) rfl); replace HB := Aside0.mk hx_; clear hx_; generalize hW_ : v2.setCell ⟨g6, 9, none⟩ (.int .i64 (wrap64 (q.h0 + wrap64 (tn.f1 * hd.f1)))) = u2_ at *; clear hW_; go_wp2; rw [rounds_succ]
    go_upto_region 11 with (fail)
    have hb6_ := (blk_cell B6.out 8).trans rfl; have ht6_ := (blk_cell C10.out 0).trans rfl; have hd_ := below_drew1 (Below.refl u2_.heap.size u2_); replace BK := Aside0.mk (blk_drew BK.out); replace B4 := Aside0.mk (blk_drew B4.out); replace B6 := Aside0.mk (blk_drew B6.out); replace C9 := Aside0.mk (blk_drew C9.out); replace C10 := Aside0.mk (blk_drew C10.out); replace HB := Aside0.mk (below_step HB.out hd_); clear hd_; refine start_ (n := 12) (S := fun w' => w'.cell? ⟨g6, 8, none⟩ = some (.int .i64 q.b1) ∧ w'.cell? ⟨g10, 0, none⟩ = some (.int .i64 tn.f0)) (ds := [11]) #[false, false, false, false, false, false, false, false, false, false, false, false] (by kernel_rfl) rfl rfl ⟨hb6_, ht6_⟩ (fun hHeld => ?_); generalize u2_.drew = v3 at BK B4 B6 C9 C10 HB hHeld ⊢; refine pure_y 0 (some 53) (bz 12 1) ?_; refine pure_y 1 (some 54) (bz 12 3) ?_; refine pure_y 2 (some 55) (bz 12 7) ?_; refine pure_y 4 (some 57) (bz 12 23) ?_; refine pure_y 6 (some 59) (bz 12 87) ?_; refine pure_y 9 (some 62) (bz 12 599) ?_; refine take_y 3 (some 56) (bz 12 607) hHeld ?_; refine take_y 5 (some 58) (bz 12 639) hHeld ?_; refine pure_y 7 (some 60) (bz 12 767) ?_; refine pure_y 8 (some 61) (bz 12 1023) ?_; refine pure_y 10 (some 63) (bz 12 2047) ?_; refine last_ (i := 11) (N := none) (bz 12 4095) rfl rfl (by kernel_rfl) (by decide) (fun K hK => ?_); have hcl := hHeld.1; have hfz := blk_frozen B6.out 8; refine skip_ (w1 := ?_) (by rfl) rfl ?_ ?_; rotate_left; (go_simp; rfl); refine hK.out _ _ ?_; clear hK K; refine done_ (by kernel_rfl) ?_; clear hHeld hcl hfz hb6_ ht6_; have hx_ : Below w.heap.size w (v3.setCell ⟨g6, 8, none⟩ (.int .i64 (wrap64 (q.b1 + wrap64 (tn.f0 * hd.f2))))) := below_set HB.out HN6.out.2; replace BK := Aside0.mk (blk_far BK.out (p := ⟨g6, 8, none⟩) (blk_ne_ BK.out B6.out (by decide)) (.int .i64 (wrap64 (q.b1 + wrap64 (tn.f0 * hd.f2))))); replace B4 := Aside0.mk (blk_far B4.out (p := ⟨g6, 8, none⟩) HN6.out.1 (.int .i64 (wrap64 (q.b1 + wrap64 (tn.f0 * hd.f2))))); replace C9 := Aside0.mk (blk_far C9.out (p := ⟨g6, 8, none⟩) (blk_ne_ C9.out B6.out (by decide)) (.int .i64 (wrap64 (q.b1 + wrap64 (tn.f0 * hd.f2))))); replace C10 := Aside0.mk (blk_far C10.out (p := ⟨g6, 8, none⟩) (blk_ne_ C10.out B6.out (by decide)) (.int .i64 (wrap64 (q.b1 + wrap64 (tn.f0 * hd.f2))))); replace B6 := Aside0.mk (blk_put (cs' := #[.int .i64 x.light, .int .i64 x.under, .int .i64 x.trim, .slice x.A3 x.holds.length x.c3, .int .i64 x.leaves, .slice x.A5 x.sills.length x.c5, .slice x.A6 x.lots.length x.c6, .int .i64 (wrap64 (q.b0 + wrap64 (tn.f0 * hd.f1))), .int .i64 (wrap64 (q.b1 + wrap64 (tn.f0 * hd.f2))), .int .i64 (wrap64 (q.h0 + wrap64 (tn.f1 * hd.f1))), .int .i64 q.h1]) B6.out 8 (.int .i64 (wrap64 (q.b1 + wrap64 (tn.f0 * hd.f2)))) rfl); replace HB := Aside0.mk hx_; clear hx_; generalize hW_ : v3.setCell ⟨g6, 8, none⟩ (.int .i64 (wrap64 (q.b1 + wrap64 (tn.f0 * hd.f2)))) = u3_ at *; clear hW_
    go_upto_region 12 with (fail)
    have hb6_ := (blk_cell B6.out 10).trans rfl; have ht6_ := (blk_cell C10.out 1).trans rfl; have hd_ := below_drew1 (Below.refl u3_.heap.size u3_); replace BK := Aside0.mk (blk_drew BK.out); replace B4 := Aside0.mk (blk_drew B4.out); replace B6 := Aside0.mk (blk_drew B6.out); replace C9 := Aside0.mk (blk_drew C9.out); replace C10 := Aside0.mk (blk_drew C10.out); replace HB := Aside0.mk (below_step HB.out hd_); clear hd_; refine start_ (n := 12) (S := fun w' => w'.cell? ⟨g6, 10, none⟩ = some (.int .i64 q.h1) ∧ w'.cell? ⟨g10, 1, none⟩ = some (.int .i64 tn.f1)) (ds := [11]) #[false, false, false, false, false, false, false, false, false, false, false, false] (by kernel_rfl) rfl rfl ⟨hb6_, ht6_⟩ (fun hHeld => ?_); generalize u3_.drew = v4 at BK B4 B6 C9 C10 HB hHeld ⊢; refine pure_y 0 (some 64) (bz 12 1) ?_; refine pure_y 1 (some 65) (bz 12 3) ?_; refine pure_y 2 (some 66) (bz 12 7) ?_; refine pure_y 4 (some 68) (bz 12 23) ?_; refine pure_y 6 (some 70) (bz 12 87) ?_; refine pure_y 9 (some 73) (bz 12 599) ?_; refine take_y 3 (some 67) (bz 12 607) hHeld ?_; refine take_y 5 (some 69) (bz 12 639) hHeld ?_; refine pure_y 7 (some 71) (bz 12 767) ?_; refine pure_y 8 (some 72) (bz 12 1023) ?_; refine pure_y 10 (some 74) (bz 12 2047) ?_; refine last_ (i := 11) (N := none) (bz 12 4095) rfl rfl (by kernel_rfl) (by decide) (fun K hK => ?_); have hcl := hHeld.1; have hfz := blk_frozen B6.out 10; refine skip_ (w1 := ?_) (by rfl) rfl ?_ ?_; rotate_left; (go_simp; rfl); refine hK.out _ _ ?_; clear hK K; refine done_ (by kernel_rfl) ?_; clear hHeld hcl hfz hb6_ ht6_; have hx_ : Below w.heap.size w (v4.setCell ⟨g6, 10, none⟩ (.int .i64 (wrap64 (q.h1 + wrap64 (tn.f1 * hd.f2))))) := below_set HB.out HN6.out.2; replace BK := Aside0.mk (blk_far BK.out (p := ⟨g6, 10, none⟩) (blk_ne_ BK.out B6.out (by decide)) (.int .i64 (wrap64 (q.h1 + wrap64 (tn.f1 * hd.f2))))); replace B4 := Aside0.mk (blk_far B4.out (p := ⟨g6, 10, none⟩) HN6.out.1 (.int .i64 (wrap64 (q.h1 + wrap64 (tn.f1 * hd.f2))))); replace C9 := Aside0.mk (blk_far C9.out (p := ⟨g6, 10, none⟩) (blk_ne_ C9.out B6.out (by decide)) (.int .i64 (wrap64 (q.h1 + wrap64 (tn.f1 * hd.f2))))); replace C10 := Aside0.mk (blk_far C10.out (p := ⟨g6, 10, none⟩) (blk_ne_ C10.out B6.out (by decide)) (.int .i64 (wrap64 (q.h1 + wrap64 (tn.f1 * hd.f2))))); replace B6 := Aside0.mk (blk_put (cs' := #[.int .i64 x.light, .int .i64 x.under, .int .i64 x.trim, .slice x.A3 x.holds.length x.c3, .int .i64 x.leaves, .slice x.A5 x.sills.length x.c5, .slice x.A6 x.lots.length x.c6, .int .i64 (wrap64 (q.b0 + wrap64 (tn.f0 * hd.f1))), .int .i64 (wrap64 (q.b1 + wrap64 (tn.f0 * hd.f2))), .int .i64 (wrap64 (q.h0 + wrap64 (tn.f1 * hd.f1))), .int .i64 (wrap64 (q.h1 + wrap64 (tn.f1 * hd.f2)))]) B6.out 10 (.int .i64 (wrap64 (q.h1 + wrap64 (tn.f1 * hd.f2)))) rfl); replace HB := Aside0.mk hx_; clear hx_; generalize hW_ : v4.setCell ⟨g6, 10, none⟩ (.int .i64 (wrap64 (q.h1 + wrap64 (tn.f1 * hd.f2)))) = u4_ at *; clear hW_; go_wp2; rw [rounds_succ]; go_wp2; go_roundg (l1.length - (k + 1))
    case measure => omega
    case rel => exact ⟨k + 1, ladS hd tn q, by omega, by omega, by go_num, HF2, BK, B4, B6, HB⟩
  ·
   (have : k = l1.length := by omega); subst this; have hq := HF.out; rw [List.drop_length] at hq; have hq2 : q = Q := Option.some.inj hq; subst hq2; have hy0_ := (blk_cell B6.out 0).trans rfl; have hy1_ := (blk_cell B6.out 1).trans rfl; have hy2_ := (blk_cell B6.out 2).trans rfl; have hy3_ := (blk_cell B6.out 3).trans rfl; have hy4_ := (blk_cell B6.out 4).trans rfl; have hy5_ := (blk_cell B6.out 5).trans rfl; have hy6_ := (blk_cell B6.out 6).trans rfl; have hy7_ := (blk_cell B6.out 7).trans rfl; have hy8_ := (blk_cell B6.out 8).trans rfl; have hy9_ := (blk_cell B6.out 9).trans rfl; have hy10_ := (blk_cell B6.out 10).trans rfl; have hr0_ := (blk_cell B4.out 0).trans rfl; have hr1_ := (blk_cell B4.out 1).trans rfl; have hr2_ := (blk_cell B4.out 2).trans rfl; have hr3_ := (blk_cell B4.out 3).trans rfl; have hr4_ := (blk_cell B4.out 4).trans rfl; have hr5_ := (blk_cell B4.out 5).trans rfl; have hr6_ := (blk_cell B4.out 6).trans rfl; have hr7_ := (blk_cell B4.out 7).trans rfl; have hr8_ := (blk_cell B4.out 8).trans rfl; have hr9_ := (blk_cell B4.out 9).trans rfl; have hr10_ := (blk_cell B4.out 10).trans rfl; have hf4_ := blk_frozen B4.out; go_wp2; have BR := B4; replace BR := Aside0.mk (blk_put (cs' := #[.int .i64 x.light, .int .i64 0, .int .i64 0, .slice none 0 0, .int .i64 0, .slice none 0 0, .slice none 0 0, .int .i64 0, .int .i64 0, .int .i64 0, .int .i64 0]) BR.out 0 (.int .i64 x.light) rfl); replace BR := Aside0.mk (blk_put (cs' := #[.int .i64 x.light, .int .i64 x.under, .int .i64 0, .slice none 0 0, .int .i64 0, .slice none 0 0, .slice none 0 0, .int .i64 0, .int .i64 0, .int .i64 0, .int .i64 0]) BR.out 1 (.int .i64 x.under) rfl); replace BR := Aside0.mk (blk_put (cs' := #[.int .i64 x.light, .int .i64 x.under, .int .i64 x.trim, .slice none 0 0, .int .i64 0, .slice none 0 0, .slice none 0 0, .int .i64 0, .int .i64 0, .int .i64 0, .int .i64 0]) BR.out 2 (.int .i64 x.trim) rfl); replace BR := Aside0.mk (blk_put (cs' := #[.int .i64 x.light, .int .i64 x.under, .int .i64 x.trim, .slice x.A3 x.holds.length x.c3, .int .i64 0, .slice none 0 0, .slice none 0 0, .int .i64 0, .int .i64 0, .int .i64 0, .int .i64 0]) BR.out 3 (.slice x.A3 x.holds.length x.c3) rfl); replace BR := Aside0.mk (blk_put (cs' := #[.int .i64 x.light, .int .i64 x.under, .int .i64 x.trim, .slice x.A3 x.holds.length x.c3, .int .i64 x.leaves, .slice none 0 0, .slice none 0 0, .int .i64 0, .int .i64 0, .int .i64 0, .int .i64 0]) BR.out 4 (.int .i64 x.leaves) rfl); replace BR := Aside0.mk (blk_put (cs' := #[.int .i64 x.light, .int .i64 x.under, .int .i64 x.trim, .slice x.A3 x.holds.length x.c3, .int .i64 x.leaves, .slice x.A5 x.sills.length x.c5, .slice none 0 0, .int .i64 0, .int .i64 0, .int .i64 0, .int .i64 0]) BR.out 5 (.slice x.A5 x.sills.length x.c5) rfl); replace BR := Aside0.mk (blk_put (cs' := #[.int .i64 x.light, .int .i64 x.under, .int .i64 x.trim, .slice x.A3 x.holds.length x.c3, .int .i64 x.leaves, .slice x.A5 x.sills.length x.c5, .slice x.A6 x.lots.length x.c6, .int .i64 0, .int .i64 0, .int .i64 0, .int .i64 0]) BR.out 6 (.slice x.A6 x.lots.length x.c6) rfl); replace BR := Aside0.mk (blk_put (cs' := #[.int .i64 x.light, .int .i64 x.under, .int .i64 x.trim, .slice x.A3 x.holds.length x.c3, .int .i64 x.leaves, .slice x.A5 x.sills.length x.c5, .slice x.A6 x.lots.length x.c6, .int .i64 q.b0, .int .i64 0, .int .i64 0, .int .i64 0]) BR.out 7 (.int .i64 q.b0) rfl); replace BR := Aside0.mk (blk_put (cs' := #[.int .i64 x.light, .int .i64 x.under, .int .i64 x.trim, .slice x.A3 x.holds.length x.c3, .int .i64 x.leaves, .slice x.A5 x.sills.length x.c5, .slice x.A6 x.lots.length x.c6, .int .i64 q.b0, .int .i64 q.b1, .int .i64 0, .int .i64 0]) BR.out 8 (.int .i64 q.b1) rfl); replace BR := Aside0.mk (blk_put (cs' := #[.int .i64 x.light, .int .i64 x.under, .int .i64 x.trim, .slice x.A3 x.holds.length x.c3, .int .i64 x.leaves, .slice x.A5 x.sills.length x.c5, .slice x.A6 x.lots.length x.c6, .int .i64 q.b0, .int .i64 q.b1, .int .i64 q.h0, .int .i64 0]) BR.out 9 (.int .i64 q.h0) rfl); replace BR := Aside0.mk (blk_put (cs' := #[.int .i64 x.light, .int .i64 x.under, .int .i64 x.trim, .slice x.A3 x.holds.length x.c3, .int .i64 x.leaves, .slice x.A5 x.sills.length x.c5, .slice x.A6 x.lots.length x.c6, .int .i64 q.b0, .int .i64 q.b1, .int .i64 q.h0, .int .i64 q.h1]) BR.out 10 (.int .i64 q.h1) rfl); have HBe := Aside0.mk (show Below w.heap.size w (((((((((((wr.setCell ⟨g4, 0, none⟩ (.int .i64 x.light)).setCell ⟨g4, 1, none⟩ (.int .i64 x.under)).setCell ⟨g4, 2, none⟩ (.int .i64 x.trim)).setCell ⟨g4, 3, none⟩ (.slice x.A3 x.holds.length x.c3)).setCell ⟨g4, 4, none⟩ (.int .i64 x.leaves)).setCell ⟨g4, 5, none⟩ (.slice x.A5 x.sills.length x.c5)).setCell ⟨g4, 6, none⟩ (.slice x.A6 x.lots.length x.c6)).setCell ⟨g4, 7, none⟩ (.int .i64 q.b0)).setCell ⟨g4, 8, none⟩ (.int .i64 q.b1)).setCell ⟨g4, 9, none⟩ (.int .i64 q.h0)).setCell ⟨g4, 10, none⟩ (.int .i64 q.h1)) from below_set (below_set (below_set (below_set (below_set (below_set (below_set (below_set (below_set (below_set (below_set (HB.out) HN4.out) HN4.out) HN4.out) HN4.out) HN4.out) HN4.out) HN4.out) HN4.out) HN4.out) HN4.out) HN4.out); generalize hW_ : ((((((((((wr.setCell ⟨g4, 0, none⟩ (.int .i64 x.light)).setCell ⟨g4, 1, none⟩ (.int .i64 x.under)).setCell ⟨g4, 2, none⟩ (.int .i64 x.trim)).setCell ⟨g4, 3, none⟩ (.slice x.A3 x.holds.length x.c3)).setCell ⟨g4, 4, none⟩ (.int .i64 x.leaves)).setCell ⟨g4, 5, none⟩ (.slice x.A5 x.sills.length x.c5)).setCell ⟨g4, 6, none⟩ (.slice x.A6 x.lots.length x.c6)).setCell ⟨g4, 7, none⟩ (.int .i64 q.b0)).setCell ⟨g4, 8, none⟩ (.int .i64 q.b1)).setCell ⟨g4, 9, none⟩ (.int .i64 q.h0)).setCell ⟨g4, 10, none⟩ (.int .i64 q.h1) = we at *; clear hW_ hf4_ hy0_ hy1_ hy2_ hy3_ hy4_ hy5_ hy6_ hy7_ hy8_ hy9_ hy10_ hr0_ hr1_ hr2_ hr3_ hr4_ hr5_ hr6_ hr7_ hr8_ hr9_ hr10_; have hr0_ := (blk_cell BR.out 0).trans rfl; have hr1_ := (blk_cell BR.out 1).trans rfl; have hr2_ := (blk_cell BR.out 2).trans rfl; have hr3_ := (blk_cell BR.out 3).trans rfl; have hr4_ := (blk_cell BR.out 4).trans rfl; have hr5_ := (blk_cell BR.out 5).trans rfl; have hr6_ := (blk_cell BR.out 6).trans rfl; have hr7_ := (blk_cell BR.out 7).trans rfl; have hr8_ := (blk_cell BR.out 8).trans rfl; have hr9_ := (blk_cell BR.out 9).trans rfl; have hr10_ := (blk_cell BR.out 10).trans rfl; exact bodyPost_ret (v := .agg #[.int .i64 x.light, .int .i64 x.under, .int .i64 x.trim, .slice x.A3 x.holds.length x.c3, .int .i64 x.leaves, .slice x.A5 x.sills.length x.c5, .slice x.A6 x.lots.length x.c6, .int .i64 q.b0, .int .i64 q.b1, .int .i64 q.h0, .int .i64 q.h1]) (by simp [results, Try.results55, go_sem, hr0_, hr1_, hr2_, hr3_, hr4_, hr5_, hr6_, hr7_, hr8_, hr9_, hr10_]) rfl ⟨rfl, HBe.out⟩
set_option maxHeartbeats 8000000 in
set_option maxRecDepth 100000 in
theorem water_calls (t0 t1 : Int) (A : Option Addr) (c : Nat) (l : List S62) (b : Bool) (i : Nat) (w : World) (hr : Kd.C k62 w A l.length l) (hc : l.length ≤ c) (hi : i < l.length) (hl : l.length ≤ 140737488351232) :
  Calls Try.prog 80 #[.agg #[.int .i64 t0, .int .i64 t1, .slice A l.length c, .bool b], .int .i64 (i : Int)] w fun e w' => e = .returned (.int .i64 (waterOf b (rd_T62 l (i : Int)))) ∧ Below w.heap.size w w' := by
 have hu123 := Try.underlying123
 have hu59 := Try.underlying59
 have hu62 := Try.underlying62
 have hu56 := Try.underlying56
 obtain ⟨ad, e, h0, h1, h2⟩ := at_T62 hr (i : Int) (by omega) (by omega)
 cases e
 rw [Int.toNat_natCast] at h0 h1 h2
 have hiz : (i : Int) < (l.length : Int) := by omega
 clear h0 hr
 generalize rd_T62 l (i : Int) = y at *
 have H1 := Aside0.mk h1
 have H2 := Aside0.mk h2
 clear h1 h2
 go_enter Try.func80, Try.ntmps80
 go_upto_region 2 with (first | (refine box_r (N := 2) rfl (cs := #[.int .i64 t0, .int .i64 t1, .slice (some ad) l.length c, .bool b]) (t := 123) ?_; intro gb hg w2 hbox hb2; have BK := Aside0.mk hbox; have HB := Aside0.mk hb2; clear hg hbox hb2; have hz0_ := (blk_cell BK.out 0).trans rfl; have hz1_ := (blk_cell BK.out 1).trans rfl; have hz2_ := (blk_cell BK.out 2).trans rfl; have hz3_ := (blk_cell BK.out 3).trans rfl; have h1 := (HB.out.cell (World.block_lt_of_cell? w _ H1.out)).trans H1.out; have h2 := (HB.out.cell (World.block_lt_of_cell? w _ H2.out)).trans H2.out))
 clear hz0_ hz1_ hz2_ hz3_ h1 h2
 obtain ⟨g5, hg_⟩ : ∃ b, b = w2.heap.size := ⟨_, rfl⟩
 have Ng5 := Aside0.mk (blk_new w2 (.cells #[.int .i64 y.f1.f0, .int .i64 y.f1.f1] 56 (0, 0)))
 have hbw : Below w2.heap.size w2 (w2.alloc (.cells #[.int .i64 y.f1.f0, .int .i64 y.f1.f1] 56 (0, 0))) := below_alloc (Below.refl _ _) _
 have hgs_ : w.heap.size ≤ g5 := by rw [hg_]; exact HB.out.size
 generalize hw_ : w2.alloc (.cells #[.int .i64 y.f1.f0, .int .i64 y.f1.f1] 56 (0, 0)) = w3 at *
 rw [← hg_] at Ng5 ⊢
 replace BK := Aside0.mk (blk_below BK.out hbw)
 replace HB := Aside0.mk (below_step HB.out hbw)
 have GEg5 : Aside0 (w.heap.size ≤ g5) := ⟨hgs_⟩
 clear hbw hw_ hg_ hgs_
 have hz0_ := (blk_cell BK.out 0).trans rfl
 have hz1_ := (blk_cell BK.out 1).trans rfl
 have hz2_ := (blk_cell BK.out 2).trans rfl
 have hz3_ := (blk_cell BK.out 3).trans rfl
 have hy0_ := (blk_cell Ng5.out 0).trans rfl
 have hy1_ := (blk_cell Ng5.out 1).trans rfl
 cases b
 ·
  go_wp2; go_ret; exact ⟨rfl, HB.out⟩
 ·
  go_wp2; go_ret; exact ⟨rfl, HB.out⟩
end Go.Proofs.Ytodmemndaaiolaa.PC7
namespace Go.Proofs.Ytodmemndaaiolaa.PC7
open Go.RowKit Go.Proofs.YtodmemndaaiolaaW.PrintWords Go.Proofs.YtodmemndaaiolaaW.PrintLast Go.Proofs.YtodmemndaaiolaaW.PrintMore
attribute [local go_sem] max2_int min2_int max_two min_two max_three min_three max_four min_four
set_option linter.unusedVariables false
set_option linter.unusedSimpArgs false
def ship_greatest.l0 : Nat → Int → List Int → Int → Int → Option (Int)
 | 0, _, _, _, _ => none
 | k + 1, x0, x7, x8, x9 => if x9 < x8 then (if 0 ≤ x9 then (if x9 < (x7.length : Int) then (ship_greatest.l0 k (mx x0 (rd x7 x9)) x7 x8 (wrap64 (x9 + 1))) else (none)) else (none)) else (some x0)
def ship_greatest.f (k : Nat) (a0 : Int) (l1 : List Int) : Option (Int) := ship_greatest.l0 k a0 l1 (l1.length : Int) 0
theorem ship_greatest.mono_l : ∀ k, (∀ y0 y1 y2 y3, LeO (ship_greatest.l0 k y0 y1 y2 y3) (ship_greatest.l0 (k + 1) y0 y1 y2 y3))
 | 0 => fun _ _ _ _ r h => by simp [ship_greatest.l0] at h
 | k + 1 => by
  have ih0 := ship_greatest.mono_l k
  ·
   intro y0 y1 y2 y3; unfold ship_greatest.l0
   repeat' (with_reducible first | exact ih0 _ _ _ _ | exact LeO.refl _ | exact LeO.none _ | refine LeO.ite ?_ ?_ | refine LeO.bind ?_ (fun _ => ?_))
theorem ship_greatest.mono : ∀ a0 a1 k, LeO (ship_greatest.f k a0 a1) (ship_greatest.f (k + 1) a0 a1) := by
 intro a0 a1 k
 have ih0 := ship_greatest.mono_l k
 unfold ship_greatest.f
 repeat' (with_reducible first | exact ih0 _ _ _ _ | exact LeO.refl _ | exact LeO.none _ | refine LeO.ite ?_ ?_ | refine LeO.bind ?_ (fun _ => ?_))
set_option maxHeartbeats 8000000 in
set_option maxRecDepth 100000 in
theorem ship_greatest.calls (k : Nat) (a0 : Int) (A1 : Option Addr) (c1 : Nat) (l1 : List Int) (r : Int) (w : World) (hr1 : Kd.C (Kd.int .i64) w A1 l1.length l1) (hc1 : l1.length ≤ c1) (h : ship_greatest.f k a0 l1 = some r) :
  Calls Try.prog 79 #[.int .i64 a0, .slice A1 l1.length c1] w fun e w' => e = .returned (.int .i64 r) ∧ Below w.heap.size w w' := by
 have HR1 := Aside0.mk hr1
 have HC1 := Aside0.mk hc1
 clear hr1 hc1
 have HB := Aside0.mk (Below.refl w.heap.size w)
 have H : (ship_greatest.l0 k a0 l1 (l1.length : Int) 0) = some r := h
 clear h
 have H' := Aside0.mk H
 clear H
 go_enter Try.func79, Try.ntmps79
 go_wp2
 go_loopg [0, 9] k (fun kq v0 v9 w' => ∃ (x0_1 : Int) (x9_1 : Int), v0 = .int .i64 x0_1 ∧ v9 = .int .i64 x9_1 ∧ Aside0 (ship_greatest.l0 kq x0_1 l1 (l1.length : Int) x9_1 = some r) ∧ Aside0 (kq ≤ k) ∧ Aside0 (Below w.heap.size w w'))
 case atStart => exact ⟨(a0), (0), (by first | rfl | (simp; done) | (simp [*]; done)), (by first | rfl | (simp; done) | (simp [*]; done)), H', ⟨Nat.le_refl _⟩, ⟨by exact below_y HB.out⟩⟩
 case round =>
  clear H'; obtain ⟨x0_1, x9_1, rfl, rfl, HA, HK1, HB⟩ := hrel; cases gk with
  | zero => exact absurd HA.out (by simp [ship_greatest.l0])
  | succ k1 =>
   have H := HA.out; clear HA; simp only [ship_greatest.l0] at H; by_cases c3 : x9_1 < (l1.length : Int)
   ·
    rw [if_pos c3] at H; have c3b0 : decide (x9_1 < (l1.length : Int)) = true := decide_eq_true c3; clear c3; by_cases c4 : 0 ≤ x9_1
    ·
     rw [if_pos c4] at H; have c4b0 : decide (0 ≤ x9_1) = true := decide_eq_true c4; clear c4; by_cases c5 : x9_1 < (l1.length : Int)
     ·
      rw [if_pos c5] at H; have c5b0 : decide (x9_1 < (l1.length : Int)) = true := decide_eq_true c5; clear c5; obtain ⟨ji6, hji6⟩ : ∃ j_ : Int, (mx x0_1 (rd l1 x9_1)) = j_ := ⟨_, rfl⟩; (replace H : (ship_greatest.l0 k1 ji6 l1 (l1.length : Int) (wrap64 (x9_1 + 1))) = some r := by first | (rw [hji6] at H; exact H) | (simp only [hji6] at H ⊢; exact H)); have hji6_ : (if x0_1 < (rd l1 x9_1) then (rd l1 x9_1) else x0_1) = ji6 := hji6; have H' := Aside0.mk H; clear H; have p148 : 0 ≤ (x9_1 : Int) := of_x; have q148 : x9_1 < (l1.length : Int) := of_x; obtain ⟨ad148, e148, hx148_0⟩ := Kd.at_int HR1.out x9_1 p148 q148; (cases e148); replace hx148_0 := cell_x HB hx148_0; replace p148 := eq_true p148; replace q148 := eq_true q148; go_wp2; go_roundg k1
      case measure => have := HK1.out; omega
      case rel => exact ⟨(ji6), (wrap64 (x9_1 + 1)), (by first | rfl | (simp; done) | (simp only [← hji6] <;> (first | rfl | simp)) | (simp [*]; done)), (by first | rfl | (simp; done) | (simp [*]; done)), H', ⟨by have := HK1.out; omega⟩, ⟨by exact below_y HB.out⟩⟩
     ·
      rw [if_neg c5] at H; exact absurd H (by simp)
    ·
     rw [if_neg c4] at H; exact absurd H (by simp)
   ·
    rw [if_neg c3] at H; have c3b0 : decide (x9_1 < (l1.length : Int)) = false := decide_eq_false c3; clear c3; obtain rfl := Option.some.inj H; go_wp2; go_ret; exact rt_y HB
end Go.Proofs.Ytodmemndaaiolaa.PC7
namespace Go.Proofs.Ytodmemndaaiolaa.PC7
set_option linter.unusedVariables false
set_option linter.unusedSimpArgs false
open Go.RowKit Go.Proofs.YtodmemndaaiolaaW.PrintWords Go.Proofs.YtodmemndaaiolaaW.PrintLast Go.Proofs.YtodmemndaaiolaaW.PrintMore
theorem greatest_one (a b : Int) : ship_greatest.f 2 a [b] = some (mx a b) := by
 simp [ship_greatest.f, ship_greatest.l0, rd, wrap64]
theorem passW_step {soon : Bool} {l : List S62} {k : Nat} (hk : k < l.length) (now needs : Int) : passW soon (l.drop k) now needs =
  if k + 1 < l.length ∧ (l.getD (k + 1) z62).f0 ≤ now then passW soon (l.drop (k + 1)) now needs
  else if mx now (l.getD k z62).f0 ≤ 2880 ∧ needs ≤ wrap64 (1000 * waterOf soon (l.getD k z62)) then some (mx now (l.getD k z62).f0) else passW soon (l.drop (k + 1)) (mx now (l.getD k z62).f0) needs := by
 rw [drop_cons_of l k hk z62]
 by_cases h : k + 1 < l.length
 ·
  rw [drop_cons_of l (k + 1) h z62]; simp only [passW, h, true_and]
 ·
  rw [List.drop_of_length_le (by omega : l.length ≤ k + 1)]; simp only [passW, h, false_and, if_false]
structure SailLens (x : VoyV) : Prop where
 s : x.sills.length ≤ 100000
 l : ∀ k, k < x.sills.length → (x.sills.getD k z59).f1.length ≤ 100000
attribute [local go_sem] max2_int min2_int max_two min_two
set_option maxHeartbeats 8000000 in
set_option maxRecDepth 100000 in
theorem sail_calls (x : VoyV) (z : Q4) (soon : Bool) (w : World) (hx : x.Ok w) (hl : SailLens x) :
  Calls Try.prog 56 #[.agg #[.int .i64 x.light, .int .i64 x.under, .int .i64 x.trim, .slice x.A3 x.holds.length x.c3, .int .i64 x.leaves, .slice x.A5 x.sills.length x.c5, .slice x.A6 x.lots.length x.c6, .int .i64 z.b0, .int .i64 z.b1, .int .i64 z.h0, .int .i64 z.h1], .bool soon] w fun e w' => ∃ v, e = .returned v ∧ Kd.R (Kd.int .i64) 3 w' w.heap.size (fun _ => True) v (sailO x.under x.leaves x.sills z soon) ∧ Below w.heap.size w w' := by
 have hu26 := Try.underlying26
 have hu93 := Try.underlying93
 have hu95 := Try.underlying95
 have hu59 := Try.underlying59
 have hu62 := Try.underlying62
 have hu56 := Try.underlying56
 have hu123 := Try.underlying123
 obtain ⟨i0, hi, hz0, hz1, hz2⟩ := info_parts infoInt
 obtain ⟨A5, hA5⟩ : ∃ A5, A5 = x.A5 := ⟨_, rfl⟩
 have hs5 := hx.s
 rw [← hA5] at hs5 ⊢
 have HS5 := Aside0.mk hs5
 have HL := Aside0.mk hl
 have hmf : ∀ (fn : Fn) (first cap : Array Value) (w : World), (Instr.makeFunc fn first cap).run Try.prog w = .ok (.func fn first cap) w := fun _ _ _ _ => rfl
 clear hx hl hA5 hs5
 go_enter Try.func56, Try.ntmps56
 go_upto_region 1 with (first | (refine box_r (N := 2) rfl (cs := #[.int .i64 x.light, .int .i64 x.under, .int .i64 x.trim, .slice x.A3 x.holds.length x.c3, .int .i64 x.leaves, .slice A5 x.sills.length x.c5, .slice x.A6 x.lots.length x.c6, .int .i64 z.b0, .int .i64 z.b1, .int .i64 z.h0, .int .i64 z.h1]) (t := 95) ?_; intro gb hg w2 hbox hb2; have BK := Aside0.mk hbox; have HB := Aside0.mk hb2; clear hg hbox hb2; have hz0_ := (blk_cell BK.out 0).trans rfl; have hz1_ := (blk_cell BK.out 1).trans rfl; have hz2_ := (blk_cell BK.out 2).trans rfl; have hz3_ := (blk_cell BK.out 3).trans rfl; have hz4_ := (blk_cell BK.out 4).trans rfl; have hz5_ := (blk_cell BK.out 5).trans rfl; have hz6_ := (blk_cell BK.out 6).trans rfl; have hz7_ := (blk_cell BK.out 7).trans rfl; have hz8_ := (blk_cell BK.out 8).trans rfl; have hz9_ := (blk_cell BK.out 9).trans rfl; have hz10_ := (blk_cell BK.out 10).trans rfl))
 cases soon
 ·
  skip
  go_step3
  go_upto_region 2 with (fail)
  clear hz0_ hz1_ hz2_ hz3_ hz4_ hz5_ hz6_ hz7_ hz8_ hz9_ hz10_; obtain ⟨g5, hg_⟩ : ∃ b, b = w2.heap.size := ⟨_, rfl⟩; have Ng5 := Aside0.mk (blk_new w2 (.cells #[.int .i64 z.h0, .int .i64 z.h1] 93 (0, 0))); have hbw : Below w2.heap.size w2 (w2.alloc (.cells #[.int .i64 z.h0, .int .i64 z.h1] 93 (0, 0))) := below_alloc (Below.refl _ _) _; (have hgs_ : w.heap.size ≤ g5 := by rw [hg_]; exact HB.out.size); generalize hw_ : w2.alloc (.cells #[.int .i64 z.h0, .int .i64 z.h1] 93 (0, 0)) = w3 at *; rw [← hg_] at Ng5 ⊢; replace BK := Aside0.mk (blk_below BK.out hbw); replace HB := Aside0.mk (below_step HB.out hbw); have GEg5 : Aside0 (w.heap.size ≤ g5) := ⟨hgs_⟩; clear hbw hw_ hg_ hgs_; have hz0_ := (blk_cell BK.out 0).trans rfl; have hz1_ := (blk_cell BK.out 1).trans rfl; have hz2_ := (blk_cell BK.out 2).trans rfl; have hz3_ := (blk_cell BK.out 3).trans rfl; have hz4_ := (blk_cell BK.out 4).trans rfl; have hz5_ := (blk_cell BK.out 5).trans rfl; have hz6_ := (blk_cell BK.out 6).trans rfl; have hz7_ := (blk_cell BK.out 7).trans rfl; have hz8_ := (blk_cell BK.out 8).trans rfl; have hz9_ := (blk_cell BK.out 9).trans rfl; have hz10_ := (blk_cell BK.out 10).trans rfl
  go_upto_region 4 with (fail)
  have B5 := Ng5; clear Ng5; obtain ⟨w4, hw4⟩ : ∃ w4 : World, w4 = w3 := ⟨_, rfl⟩; rw [← hw4] at BK HB B5 ⊢; clear hz0_ hz1_ hz2_ hz3_ hz4_ hz5_ hz6_ hz7_ hz8_ hz9_ hz10_ hw4; have hd_ := below_drew1 (Below.refl w4.heap.size w4); have hq0_ := (blk_cell B5.out 0).trans rfl; have hq1_ := (blk_cell B5.out 1).trans rfl; have hq2_ := (blk_cell BK.out 1).trans rfl; replace BK := Aside0.mk (blk_drew BK.out); replace HB := Aside0.mk (below_step HB.out hd_); clear hd_ B5; refine start_ (n := 12) (S := fun w' => w'.cell? ⟨g5, 0, none⟩ = some (.int .i64 z.h0) ∧ w'.cell? ⟨g5, 1, none⟩ = some (.int .i64 z.h1) ∧ w'.cell? ⟨gb, 1, none⟩ = some (.int .i64 x.under)) (ds := []) #[false, false, false, false, false, false, false, false, false, false, false, false] (by kernel_rfl) rfl rfl ⟨hq0_, hq1_, hq2_⟩ (fun hHeld => ?_); generalize w4.drew = w5 at BK HB hHeld ⊢; refine pure_y 0 (some 19) (bz 12 1) ?_; refine pure_y 2 (some 21) (bz 12 5) ?_; refine pure_y 6 (some 25) (bz 12 69) ?_; refine pure_y 7 (some 26) (bz 12 197) ?_; refine take_y 1 (some 20) (bz 12 199) hHeld ?_; refine take_y 3 (some 22) (bz 12 207) hHeld ?_; refine take_y 8 (some 27) (bz 12 463) hHeld ?_; refine pure_y 9 (some 28) (bz 12 975) ?_; (refine one_y 4 (some 23) (bz 12 991) fun K hK => ?_); obtain ⟨ys, hys⟩ : ∃ ys : List Int, ys = [z.h1] := ⟨_, rfl⟩; refine Kd.R_lit_step (Kd.int .i64) _ 3 ?hg (N := 23) ?hd (xs := ([z.h1] : List Int)) (inner := [.int .i64 z.h1]) (ok := fun _ => True) (okp := fun _ => True) ?hr ?hp (fun _ hk => hk) trivial (Below.refl _ _) (Nat.le_refl _) (by simp) ?_; (case hd => rfl); (case hg => rfl); (case hr => first | (go_simp; done) | (go_simp; rfl)); (case hp => exact (Reps.one (show Kd.M (Kd.int .i64) _ _ _ (z.h1) [.int .i64 z.h1] from rfl) (Reps.none _ _))); intro vs_ w6 ho_ hb_ hg_ hnew_; rw [← hys] at ho_; obtain ⟨As, cs, rfl⟩ := Kd.R_slice ho_; have RS := Aside0.mk (Kd.R_reads' ho_).2.2; have ls_ := (Kd.R_reads' ho_).2.1; have HYS := Aside0.mk hys; clear hg_ hnew_ ho_ hys; replace BK := Aside0.mk (blk_below BK.out hb_); replace HB := Aside0.mk (below_step HB.out hb_); have hb4_ := hb_; clear hb_; refine hK.out _ _ (cbs_y hb4_ hHeld) (fun hHeld => ?_); clear hK K; refine norm_y (some 23) ?_; (refine one_y 5 (some 24) (bz 12 1023) fun K hK => ?_); refine goes_x Try.func79 #[.int .i64 z.h0, .slice As ys.length cs] ?_
  with_reducible refine (ship_greatest.calls 2 (z.h0) As cs ys (mx (z.h0) (z.h1)) _ RS.out ls_ (by rw [HYS.out]; exact greatest_one _ _)).mono ?_
  rintro e w7 ⟨rfl, hb5_⟩; refine ⟨_, rfl, ?_⟩; replace BK := Aside0.mk (blk_below BK.out hb5_); replace HB := Aside0.mk (below_step HB.out hb5_); refine hK.out _ _ (cbs_y hb5_ hHeld) (fun hHeld => ?_); clear hK K; refine norm_y (some 24) ?_; refine pure_y 10 (some 29) (bz 12 2047) ?_; refine pure_y 11 (some 6) (bz 12 4095) ?_; refine done_ (by kernel_rfl) ?_; clear hHeld hq0_ hq1_ hq2_ hb4_ hb5_ RS HYS ls_; have HND := Aside0.mk (show needsW x.under z false = wrap64 (mx (z.h0) (z.h1) + wrap64 (1000 * x.under)) from rfl); have hz0_ := (blk_cell BK.out 0).trans rfl; have hz1_ := (blk_cell BK.out 1).trans rfl; have hz2_ := (blk_cell BK.out 2).trans rfl; have hz3_ := (blk_cell BK.out 3).trans rfl; have hz4_ := (blk_cell BK.out 4).trans rfl; have hz5_ := (blk_cell BK.out 5).trans rfl; have hz6_ := (blk_cell BK.out 6).trans rfl; have hz7_ := (blk_cell BK.out 7).trans rfl; have hz8_ := (blk_cell BK.out 8).trans rfl; have hz9_ := (blk_cell BK.out 9).trans rfl; have hz10_ := (blk_cell BK.out 10).trans rfl; generalize wrap64 (mx (z.h0) (z.h1) + wrap64 (1000 * x.under)) = nd at *; go_wp2
  go_step3
  go_wp2; have HF : Aside0 ([] ++ sailW false x.sills x.leaves nd = sailO x.under x.leaves x.sills z false) := ⟨by rw [sailO, HND.out]; rfl⟩; have hls := HL.out.s; clear HND
  go_loopg [37, 7, 8] x.sills.length (fun gk v37 v7 v8 wr => ∃ (k : Nat) (now : Int) (acc : List Int), k ≤ x.sills.length ∧ x.sills.length - k ≤ gk ∧ v37 = .int .i64 k ∧ v7 = .int .i64 now ∧ acc.length ≤ k ∧ Aside0 (acc ++ sailW false (x.sills.drop k) now nd = sailO x.under x.leaves x.sills z false) ∧ Aside0 (wr.ownsRow w.heap.size 3 1 v8 acc.length (acc.map (Value.int .i64))) ∧ Aside0 (Below w.heap.size w wr))
  case atStart => exact ⟨0, x.leaves, [], by omega, by omega, rfl, rfl, by simp, HF, ⟨World.ownsRow_nil _ _ _ _⟩, HB⟩
  case round =>
   clear BK HF HB; obtain ⟨k, now, acc, hk, hgk, rfl, rfl, hacc, HF, HO, HB⟩ := hrel; by_cases hlt : k < x.sills.length
   ·
    (have hlz : (k : Int) < (x.sills.length : Int) := by omega); obtain ⟨ads, A2, c2, e, h0, h1, h2, l2, g2⟩ := at_T59 HS5.out (k : Int) (by omega) hlz; (cases e); rw [Int.toNat_natCast] at h0 h1 h2; replace h0 := cell_x HB h0; replace h1 := cell_x HB h1; replace h2 := cell_x HB h2; have hlen := HL.out.l k hlt; have hdr := drop_cons_of x.sills k hlt z59; rw [hdr] at HF; have hrd : x.sills.getD k z59 = rd_T59 x.sills (k : Int) := rfl; rw [hrd] at HF hlen; clear hdr hrd; generalize rd_T59 x.sills (k : Int) = sl at *; obtain ⟨P, hP⟩ : ∃ P, passW false sl.f1 (wrap64 (now + travelOf false sl)) nd = P := ⟨_, rfl⟩; have HF2 := HF.out; simp only [sailW] at HF2; rw [hP] at HF2; replace HF := Aside0.mk HF2; have HP := Aside0.mk hP; have G2 := Aside0.mk g2; clear HF2 hP g2
    go_upto_region 10 with (fail)
    obtain ⟨g10, hg_⟩ : ∃ b, b = wr.heap.size := ⟨_, rfl⟩; have B10 := Aside0.mk (blk_new wr (.cells #[.int .i64 sl.f0.f0, .int .i64 sl.f0.f1, .slice A2 sl.f1.length c2] 59 (0, 0))); have hbw : Below wr.heap.size wr (wr.alloc (.cells #[.int .i64 sl.f0.f0, .int .i64 sl.f0.f1, .slice A2 sl.f1.length c2] 59 (0, 0))) := below_alloc (Below.refl _ _) _; generalize hw_ : wr.alloc (.cells #[.int .i64 sl.f0.f0, .int .i64 sl.f0.f1, .slice A2 sl.f1.length c2] 59 (0, 0)) = w8 at *; rw [← hg_] at B10 ⊢; replace HO := Aside0.mk (own_move HO.out (fun b hb => hbw.block b (own_lt HO.out b hb))); replace HB := Aside0.mk (below_step HB.out hbw); clear hbw hw_ hg_ h0 h1 h2; have hb0_ := (blk_cell B10.out 0).trans rfl; have hb1_ := (blk_cell B10.out 1).trans rfl; have hb2_ := (blk_cell B10.out 2).trans rfl; go_wp2; clear hb0_ hb1_ hb2_; have HP2 : Aside0 (passW false sl.f1 (wrap64 (now + sl.f0.f1)) nd = P) := HP; generalize wrap64 (now + sl.f0.f1) = nw0 at *; clear HP
    go_loopg [59, 7, 8] sl.f1.length (fun gk v59 v7 v8 wr => ∃ (j : Nat) (nw : Int), j ≤ sl.f1.length ∧ sl.f1.length - j ≤ gk ∧ v59 = .int .i64 j ∧ v7 = .int .i64 nw ∧ Aside0 (passW false (sl.f1.drop j) nw nd = P) ∧ Aside0 (wr.ownsRow w.heap.size 3 1 v8 acc.length (acc.map (Value.int .i64))) ∧ Aside0 (wr.heap[g10]? = some (.cells #[.int .i64 sl.f0.f0, .int .i64 sl.f0.f1, .slice A2 sl.f1.length c2] 59 (0, 0))) ∧ Aside0 (Below w.heap.size w wr))
    case atStart => exact ⟨0, nw0, by omega, by omega, rfl, rfl, HP2, HO, B10, HB⟩
    case round =>
     clear HP2 HO B10 HB; obtain ⟨j, nw, hj, hgj, rfl, rfl, HP, HO, B10, HB⟩ := hrel; by_cases hjl : j < sl.f1.length
     ·
      (have hjz : (j : Int) < (sl.f1.length : Int) := by omega); have hst := passW_step (soon := false) hjl nw nd; rw [HP.out] at hst; obtain ⟨adl, e, h0, h1, h2⟩ := at_T62 G2.out (j : Int) (by omega) hjz; (cases e); rw [Int.toNat_natCast] at h0 h1 h2; replace h0 := cell_x HB h0; replace h1 := cell_x HB h1; replace h2 := cell_x HB h2; have hrd : sl.f1.getD j z62 = rd_T62 sl.f1 (j : Int) := rfl; rw [hrd] at hst; have HST := Aside0.mk hst; have HWC := Aside0.mk (fun W (hB : Below w.heap.size w W) => water_calls sl.f0.f0 sl.f0.f1 (some adl) c2 sl.f1 false j W (Kd.C_below G2.out hB) l2 hjl (by omega)); clear hrd hst HP; generalize rd_T62 sl.f1 (j : Int) = lv at *
      go_upto_region 17 with (fail)
      obtain ⟨g13, hg_⟩ : ∃ b, b = wr.heap.size := ⟨_, rfl⟩; have B13 := Aside0.mk (blk_new wr (.cells #[.int .i64 lv.f0, .int .i64 lv.f1.f0, .int .i64 lv.f1.f1] 62 (0, 0))); have hbw : Below wr.heap.size wr (wr.alloc (.cells #[.int .i64 lv.f0, .int .i64 lv.f1.f0, .int .i64 lv.f1.f1] 62 (0, 0))) := below_alloc (Below.refl _ _) _; generalize hw_ : wr.alloc (.cells #[.int .i64 lv.f0, .int .i64 lv.f1.f0, .int .i64 lv.f1.f1] 62 (0, 0)) = w9 at *; rw [← hg_] at B13 ⊢; replace HO := Aside0.mk (own_move HO.out (fun b hb => hbw.block b (own_lt HO.out b hb))); replace B10 := Aside0.mk (blk_below B10.out hbw); replace HB := Aside0.mk (below_step HB.out hbw); clear hbw hw_ hg_ h0 h1 h2; have hb2_ := (blk_cell B10.out 2).trans rfl; have hc0_ := (blk_cell B13.out 0).trans rfl; by_cases hn : j + 1 < sl.f1.length
      ·
       (have hnz : (j : Int) + 1 < (sl.f1.length : Int) := by omega); obtain ⟨adl2, e2, h3, _, _⟩ := at_T62 G2.out ((j + 1 : Nat) : Int) (by omega) (by omega); (obtain rfl : adl = adl2 := by injection e2); rw [Int.toNat_natCast] at h3; replace h3 := cell_x HB h3; have hrd2 : sl.f1.getD (j + 1) z62 = rd_T62 sl.f1 ((j + 1 : Nat) : Int) := rfl; have hst := HST.out; rw [hrd2] at hst; generalize (rd_T62 sl.f1 ((j + 1 : Nat) : Int)).f0 = fn at *; by_cases hle : fn ≤ nw
       ·
        rw [if_pos ⟨hn, hle⟩] at hst; have HP := Aside0.mk hst.symm; clear hst e2 HST hrd2; go_wp2; go_roundg (sl.f1.length - (j + 1))
        case measure => omega
        case rel => exact ⟨j + 1, nw, by omega, by omega, by go_num, rfl, HP, HO, B10, HB⟩
       ·
        rw [if_neg (fun h => hle h.2)] at hst; clear e2 HST hrd2; have hm_ : (if nw < lv.f0 then lv.f0 else nw) = mx nw lv.f0 := rfl; generalize mx nw lv.f0 = m at *
        go_upto_region 18 with (fail)
        clear hb2_; by_cases h28 : m ≤ 2880
        ·
         have hcall := HWC.out _ HB.out; generalize waterOf false lv = wt at *; have HCALL := Aside0.mk hcall; have HSTX := Aside0.mk hst; clear hcall hst HWC; by_cases hw : nd ≤ wrap64 (1000 * wt)
         ·
          have hP := HSTX.out.trans (if_pos ⟨h28, hw⟩); have HP := Aside0.mk hP; clear hP HSTX
          go_wp2_with (first | (go_at_call 80; refine HCALL.out.mono ?_; rintro e w10 ⟨rfl, hb10⟩; have HB10 := Aside0.mk (below_step HB.out hb10); have HO10 := Aside0.mk (own_move HO.out (fun b hb => hb10.block b (own_lt HO.out b hb))); clear hb10) | (at_builtin; refine wpList_append_own _ rfl _ _ 27 rfl w.heap.size 3 i0 (.int .i64 0) 1 8 Try.underlying27 hi hz0 hz1 hz2 rfl (by decide) _ _ _ rfl (HO10.out.alloc _) ⟨w10.heap.size, 0, none⟩ 1 1 [.int .i64 m] rfl rfl (cell_one_new _ _ _) (by simp [Value.oneCell']) (by unfold maxLen; omega) (by omega) (by have := HB10.out.size; simp; omega) ?_; intro v' w11 hown' hgrow _))
          go_roundg (x.sills.length - (k + 1))
          case measure => omega
          case rel =>
           refine ⟨k + 1, m, acc ++ [m], by omega, by omega, by go_num, rfl, by simp; omega, ⟨?_⟩, ⟨by simpa using hown'⟩, ⟨grow_below HB10.out HO10.out hgrow⟩⟩; have hf := HF.out; rw [HP.out] at hf
           simpa using hf
         ·
          have hP := HSTX.out.trans (if_neg (fun h => hw h.2)); have HP := Aside0.mk hP.symm; clear hP HSTX
          go_wp2_with (go_at_call 80; refine HCALL.out.mono ?_; rintro e w10 ⟨rfl, hb10⟩; have HB10 := Aside0.mk (below_step HB.out hb10); have HO10 := Aside0.mk (own_move HO.out (fun b hb => hb10.block b (own_lt HO.out b hb))); have BK10 := Aside0.mk (blk_below B10.out hb10); clear hb10)
          go_roundg (sl.f1.length - (j + 1))
          case measure => omega
          case rel => exact ⟨j + 1, m, by omega, by omega, by go_num, rfl, HP, HO10, BK10, HB10⟩
        ·
         have hP := hst.trans (if_neg (fun h => h28 h.1)); have HP := Aside0.mk hP.symm; clear hP hst HWC; go_wp2; go_roundg (sl.f1.length - (j + 1))
         case measure => omega
         case rel => exact ⟨j + 1, m, by omega, by omega, by go_num, rfl, HP, HO, B10, HB⟩
      ·
       (have hnz : ¬ (j : Int) + 1 < (sl.f1.length : Int) := by omega); have hst := HST.out; rw [if_neg (fun h => hn h.1)] at hst; clear HST; have hm_ : (if nw < lv.f0 then lv.f0 else nw) = mx nw lv.f0 := rfl; generalize mx nw lv.f0 = m at *
       go_upto_region 18 with (fail)
       clear hb2_; by_cases h28 : m ≤ 2880
       ·
        have hcall := HWC.out _ HB.out; generalize waterOf false lv = wt at *; have HCALL := Aside0.mk hcall; have HSTX := Aside0.mk hst; clear hcall hst HWC; by_cases hw : nd ≤ wrap64 (1000 * wt)
        ·
         have hP := HSTX.out.trans (if_pos ⟨h28, hw⟩); have HP := Aside0.mk hP; clear hP HSTX
         go_wp2_with (first | (go_at_call 80; refine HCALL.out.mono ?_; rintro e w10 ⟨rfl, hb10⟩; have HB10 := Aside0.mk (below_step HB.out hb10); have HO10 := Aside0.mk (own_move HO.out (fun b hb => hb10.block b (own_lt HO.out b hb))); clear hb10) | (at_builtin; refine wpList_append_own _ rfl _ _ 27 rfl w.heap.size 3 i0 (.int .i64 0) 1 8 Try.underlying27 hi hz0 hz1 hz2 rfl (by decide) _ _ _ rfl (HO10.out.alloc _) ⟨w10.heap.size, 0, none⟩ 1 1 [.int .i64 m] rfl rfl (cell_one_new _ _ _) (by simp [Value.oneCell']) (by unfold maxLen; omega) (by omega) (by have := HB10.out.size; simp; omega) ?_; intro v' w11 hown' hgrow _))
         go_roundg (x.sills.length - (k + 1))
         case measure => omega
         case rel =>
          refine ⟨k + 1, m, acc ++ [m], by omega, by omega, by go_num, rfl, by simp; omega, ⟨?_⟩, ⟨by simpa using hown'⟩, ⟨grow_below HB10.out HO10.out hgrow⟩⟩; have hf := HF.out; rw [HP.out] at hf
          simpa using hf
        ·
         have hP := HSTX.out.trans (if_neg (fun h => hw h.2)); have HP := Aside0.mk hP.symm; clear hP HSTX
         go_wp2_with (go_at_call 80; refine HCALL.out.mono ?_; rintro e w10 ⟨rfl, hb10⟩; have HB10 := Aside0.mk (below_step HB.out hb10); have HO10 := Aside0.mk (own_move HO.out (fun b hb => hb10.block b (own_lt HO.out b hb))); have BK10 := Aside0.mk (blk_below B10.out hb10); clear hb10)
         go_roundg (sl.f1.length - (j + 1))
         case measure => omega
         case rel => exact ⟨j + 1, m, by omega, by omega, by go_num, rfl, HP, HO10, BK10, HB10⟩
       ·
        have hP := hst.trans (if_neg (fun h => h28 h.1)); have HP := Aside0.mk hP.symm; clear hP hst HWC; go_wp2; go_roundg (sl.f1.length - (j + 1))
        case measure => omega
        case rel => exact ⟨j + 1, m, by omega, by omega, by go_num, rfl, HP, HO, B10, HB⟩
     ·
      (have : j = sl.f1.length := by omega); subst this; have hp := HP.out; rw [List.drop_length] at hp; simp only [passW] at hp; go_wp2; rw [Exit.noGoto_ret]; go_ret; have hf := HF.out; rw [← hp] at hf; simp only [List.append_nil] at hf; rw [← hf]; exact ⟨_, rfl, R_of_owns .i64 HO.out, HB.out⟩
   ·
    (have : k = x.sills.length := by omega); subst this; go_wp2; rw [Exit.noGoto_ret]; go_ret; have hf := HF.out; rw [List.drop_length] at hf; simp only [sailW, List.append_nil] at hf; rw [← hf]; exact ⟨_, rfl, R_of_owns .i64 HO.out, HB.out⟩
 ·
  skip
  go_step3
  go_upto_region 2 with (fail)
  clear hz0_ hz1_ hz2_ hz3_ hz4_ hz5_ hz6_ hz7_ hz8_ hz9_ hz10_; obtain ⟨g5, hg_⟩ : ∃ b, b = w2.heap.size := ⟨_, rfl⟩; have Ng5 := Aside0.mk (blk_new w2 (.cells #[.int .i64 z.h0, .int .i64 z.h1] 93 (0, 0))); have hbw : Below w2.heap.size w2 (w2.alloc (.cells #[.int .i64 z.h0, .int .i64 z.h1] 93 (0, 0))) := below_alloc (Below.refl _ _) _; (have hgs_ : w.heap.size ≤ g5 := by rw [hg_]; exact HB.out.size); generalize hw_ : w2.alloc (.cells #[.int .i64 z.h0, .int .i64 z.h1] 93 (0, 0)) = w3 at *; rw [← hg_] at Ng5 ⊢; replace BK := Aside0.mk (blk_below BK.out hbw); replace HB := Aside0.mk (below_step HB.out hbw); have GEg5 : Aside0 (w.heap.size ≤ g5) := ⟨hgs_⟩; clear hbw hw_ hg_ hgs_; have hz0_ := (blk_cell BK.out 0).trans rfl; have hz1_ := (blk_cell BK.out 1).trans rfl; have hz2_ := (blk_cell BK.out 2).trans rfl; have hz3_ := (blk_cell BK.out 3).trans rfl; have hz4_ := (blk_cell BK.out 4).trans rfl; have hz5_ := (blk_cell BK.out 5).trans rfl; have hz6_ := (blk_cell BK.out 6).trans rfl; have hz7_ := (blk_cell BK.out 7).trans rfl; have hz8_ := (blk_cell BK.out 8).trans rfl; have hz9_ := (blk_cell BK.out 9).trans rfl; have hz10_ := (blk_cell BK.out 10).trans rfl; have hy0_ := (blk_cell Ng5.out 0).trans rfl; have hy1_ := (blk_cell Ng5.out 1).trans rfl; have hf5_ := blk_frozen Ng5.out
  go_upto_region 4 with (fail)
  have B5 := Aside0.mk (blk_put (cs' := #[.int .i64 z.b0, .int .i64 z.b1]) (blk_set Ng5.out 0 (.int .i64 z.b0)) 1 (.int .i64 z.b1) rfl); have hx_ : Below w.heap.size w ((w3.setCell ⟨g5, 0, none⟩ (.int .i64 z.b0)).setCell ⟨g5, 1, none⟩ (.int .i64 z.b1)) := below_set (below_set HB.out GEg5.out) GEg5.out; have hn_ := blk_ne_ BK.out Ng5.out (by decide); replace BK := Aside0.mk (blk_far (blk_far BK.out (p := ⟨g5, 0, none⟩) hn_ (.int .i64 z.b0)) (p := ⟨g5, 1, none⟩) hn_ (.int .i64 z.b1)); replace HB := Aside0.mk hx_; generalize hW_ : (w3.setCell ⟨g5, 0, none⟩ (.int .i64 z.b0)).setCell ⟨g5, 1, none⟩ (.int .i64 z.b1) = w4 at *; clear hW_ hx_ hn_ hy0_ hy1_ hf5_ Ng5 hz0_ hz1_ hz2_ hz3_ hz4_ hz5_ hz6_ hz7_ hz8_ hz9_ hz10_; have hd_ := below_drew1 (Below.refl w4.heap.size w4); have hq0_ := (blk_cell B5.out 0).trans rfl; have hq1_ := (blk_cell B5.out 1).trans rfl; have hq2_ := (blk_cell BK.out 1).trans rfl; replace BK := Aside0.mk (blk_drew BK.out); replace HB := Aside0.mk (below_step HB.out hd_); clear hd_ B5; refine start_ (n := 12) (S := fun w' => w'.cell? ⟨g5, 0, none⟩ = some (.int .i64 z.b0) ∧ w'.cell? ⟨g5, 1, none⟩ = some (.int .i64 z.b1) ∧ w'.cell? ⟨gb, 1, none⟩ = some (.int .i64 x.under)) (ds := []) #[false, false, false, false, false, false, false, false, false, false, false, false] (by kernel_rfl) rfl rfl ⟨hq0_, hq1_, hq2_⟩ (fun hHeld => ?_); generalize w4.drew = w5 at BK HB hHeld ⊢; refine pure_y 0 (some 19) (bz 12 1) ?_; refine pure_y 2 (some 21) (bz 12 5) ?_; refine pure_y 6 (some 25) (bz 12 69) ?_; refine pure_y 7 (some 26) (bz 12 197) ?_; refine take_y 1 (some 20) (bz 12 199) hHeld ?_; refine take_y 3 (some 22) (bz 12 207) hHeld ?_; refine take_y 8 (some 27) (bz 12 463) hHeld ?_; refine pure_y 9 (some 28) (bz 12 975) ?_; (refine one_y 4 (some 23) (bz 12 991) fun K hK => ?_); obtain ⟨ys, hys⟩ : ∃ ys : List Int, ys = [z.b1] := ⟨_, rfl⟩; refine Kd.R_lit_step (Kd.int .i64) _ 3 ?hg (N := 23) ?hd (xs := ([z.b1] : List Int)) (inner := [.int .i64 z.b1]) (ok := fun _ => True) (okp := fun _ => True) ?hr ?hp (fun _ hk => hk) trivial (Below.refl _ _) (Nat.le_refl _) (by simp) ?_; (case hd => rfl); (case hg => rfl); (case hr => first | (go_simp; done) | (go_simp; rfl)); (case hp => exact (Reps.one (show Kd.M (Kd.int .i64) _ _ _ (z.b1) [.int .i64 z.b1] from rfl) (Reps.none _ _))); intro vs_ w6 ho_ hb_ hg_ hnew_; rw [← hys] at ho_; obtain ⟨As, cs, rfl⟩ := Kd.R_slice ho_; have RS := Aside0.mk (Kd.R_reads' ho_).2.2; have ls_ := (Kd.R_reads' ho_).2.1; have HYS := Aside0.mk hys; clear hg_ hnew_ ho_ hys; replace BK := Aside0.mk (blk_below BK.out hb_); replace HB := Aside0.mk (below_step HB.out hb_); have hb4_ := hb_; clear hb_; refine hK.out _ _ (cbs_y hb4_ hHeld) (fun hHeld => ?_); clear hK K; refine norm_y (some 23) ?_; (refine one_y 5 (some 24) (bz 12 1023) fun K hK => ?_); refine goes_x Try.func79 #[.int .i64 z.b0, .slice As ys.length cs] ?_
  with_reducible refine (ship_greatest.calls 2 (z.b0) As cs ys (mx (z.b0) (z.b1)) _ RS.out ls_ (by rw [HYS.out]; exact greatest_one _ _)).mono ?_
  rintro e w7 ⟨rfl, hb5_⟩; refine ⟨_, rfl, ?_⟩; replace BK := Aside0.mk (blk_below BK.out hb5_); replace HB := Aside0.mk (below_step HB.out hb5_); refine hK.out _ _ (cbs_y hb5_ hHeld) (fun hHeld => ?_); clear hK K; refine norm_y (some 24) ?_; refine pure_y 10 (some 29) (bz 12 2047) ?_; refine pure_y 11 (some 6) (bz 12 4095) ?_; refine done_ (by kernel_rfl) ?_; clear hHeld hq0_ hq1_ hq2_ hb4_ hb5_ RS HYS ls_; have HND := Aside0.mk (show needsW x.under z true = wrap64 (mx (z.b0) (z.b1) + wrap64 (1000 * x.under)) from rfl); have hz0_ := (blk_cell BK.out 0).trans rfl; have hz1_ := (blk_cell BK.out 1).trans rfl; have hz2_ := (blk_cell BK.out 2).trans rfl; have hz3_ := (blk_cell BK.out 3).trans rfl; have hz4_ := (blk_cell BK.out 4).trans rfl; have hz5_ := (blk_cell BK.out 5).trans rfl; have hz6_ := (blk_cell BK.out 6).trans rfl; have hz7_ := (blk_cell BK.out 7).trans rfl; have hz8_ := (blk_cell BK.out 8).trans rfl; have hz9_ := (blk_cell BK.out 9).trans rfl; have hz10_ := (blk_cell BK.out 10).trans rfl; generalize wrap64 (mx (z.b0) (z.b1) + wrap64 (1000 * x.under)) = nd at *; go_wp2
  go_step3
  go_wp2; have HF : Aside0 ([] ++ sailW true x.sills x.leaves nd = sailO x.under x.leaves x.sills z true) := ⟨by rw [sailO, HND.out]; rfl⟩; have hls := HL.out.s; clear HND
  go_loopg [37, 7, 8] x.sills.length (fun gk v37 v7 v8 wr => ∃ (k : Nat) (now : Int) (acc : List Int), k ≤ x.sills.length ∧ x.sills.length - k ≤ gk ∧ v37 = .int .i64 k ∧ v7 = .int .i64 now ∧ acc.length ≤ k ∧ Aside0 (acc ++ sailW true (x.sills.drop k) now nd = sailO x.under x.leaves x.sills z true) ∧ Aside0 (wr.ownsRow w.heap.size 3 1 v8 acc.length (acc.map (Value.int .i64))) ∧ Aside0 (Below w.heap.size w wr))
  case atStart => exact ⟨0, x.leaves, [], by omega, by omega, rfl, rfl, by simp, HF, ⟨World.ownsRow_nil _ _ _ _⟩, HB⟩
  case round =>
   clear BK HF HB; obtain ⟨k, now, acc, hk, hgk, rfl, rfl, hacc, HF, HO, HB⟩ := hrel; by_cases hlt : k < x.sills.length
   ·
    (have hlz : (k : Int) < (x.sills.length : Int) := by omega); obtain ⟨ads, A2, c2, e, h0, h1, h2, l2, g2⟩ := at_T59 HS5.out (k : Int) (by omega) hlz; (cases e); rw [Int.toNat_natCast] at h0 h1 h2; replace h0 := cell_x HB h0; replace h1 := cell_x HB h1; replace h2 := cell_x HB h2; have hlen := HL.out.l k hlt; have hdr := drop_cons_of x.sills k hlt z59; rw [hdr] at HF; have hrd : x.sills.getD k z59 = rd_T59 x.sills (k : Int) := rfl; rw [hrd] at HF hlen; clear hdr hrd; generalize rd_T59 x.sills (k : Int) = sl at *; obtain ⟨P, hP⟩ : ∃ P, passW true sl.f1 (wrap64 (now + travelOf true sl)) nd = P := ⟨_, rfl⟩; have HF2 := HF.out; simp only [sailW] at HF2; rw [hP] at HF2; replace HF := Aside0.mk HF2; have HP := Aside0.mk hP; have G2 := Aside0.mk g2; clear HF2 hP g2
    go_upto_region 10 with (fail)
    obtain ⟨g10, hg_⟩ : ∃ b, b = wr.heap.size := ⟨_, rfl⟩; have B10 := Aside0.mk (blk_new wr (.cells #[.int .i64 sl.f0.f0, .int .i64 sl.f0.f1, .slice A2 sl.f1.length c2] 59 (0, 0))); have hbw : Below wr.heap.size wr (wr.alloc (.cells #[.int .i64 sl.f0.f0, .int .i64 sl.f0.f1, .slice A2 sl.f1.length c2] 59 (0, 0))) := below_alloc (Below.refl _ _) _; generalize hw_ : wr.alloc (.cells #[.int .i64 sl.f0.f0, .int .i64 sl.f0.f1, .slice A2 sl.f1.length c2] 59 (0, 0)) = w8 at *; rw [← hg_] at B10 ⊢; replace HO := Aside0.mk (own_move HO.out (fun b hb => hbw.block b (own_lt HO.out b hb))); replace HB := Aside0.mk (below_step HB.out hbw); clear hbw hw_ hg_ h0 h1 h2; have hb0_ := (blk_cell B10.out 0).trans rfl; have hb1_ := (blk_cell B10.out 1).trans rfl; have hb2_ := (blk_cell B10.out 2).trans rfl; go_wp2; clear hb0_ hb1_ hb2_; have HP2 : Aside0 (passW true sl.f1 (wrap64 (now + sl.f0.f0)) nd = P) := HP; generalize wrap64 (now + sl.f0.f0) = nw0 at *; clear HP
    go_loopg [59, 7, 8] sl.f1.length (fun gk v59 v7 v8 wr => ∃ (j : Nat) (nw : Int), j ≤ sl.f1.length ∧ sl.f1.length - j ≤ gk ∧ v59 = .int .i64 j ∧ v7 = .int .i64 nw ∧ Aside0 (passW true (sl.f1.drop j) nw nd = P) ∧ Aside0 (wr.ownsRow w.heap.size 3 1 v8 acc.length (acc.map (Value.int .i64))) ∧ Aside0 (wr.heap[g10]? = some (.cells #[.int .i64 sl.f0.f0, .int .i64 sl.f0.f1, .slice A2 sl.f1.length c2] 59 (0, 0))) ∧ Aside0 (Below w.heap.size w wr))
    case atStart => exact ⟨0, nw0, by omega, by omega, rfl, rfl, HP2, HO, B10, HB⟩
    case round =>
     clear HP2 HO B10 HB; obtain ⟨j, nw, hj, hgj, rfl, rfl, HP, HO, B10, HB⟩ := hrel; by_cases hjl : j < sl.f1.length
     ·
      (have hjz : (j : Int) < (sl.f1.length : Int) := by omega); have hst := passW_step (soon := true) hjl nw nd; rw [HP.out] at hst; obtain ⟨adl, e, h0, h1, h2⟩ := at_T62 G2.out (j : Int) (by omega) hjz; (cases e); rw [Int.toNat_natCast] at h0 h1 h2; replace h0 := cell_x HB h0; replace h1 := cell_x HB h1; replace h2 := cell_x HB h2; have hrd : sl.f1.getD j z62 = rd_T62 sl.f1 (j : Int) := rfl; rw [hrd] at hst; have HST := Aside0.mk hst; have HWC := Aside0.mk (fun W (hB : Below w.heap.size w W) => water_calls sl.f0.f0 sl.f0.f1 (some adl) c2 sl.f1 true j W (Kd.C_below G2.out hB) l2 hjl (by omega)); clear hrd hst HP; generalize rd_T62 sl.f1 (j : Int) = lv at *
      go_upto_region 17 with (fail)
      obtain ⟨g13, hg_⟩ : ∃ b, b = wr.heap.size := ⟨_, rfl⟩; have B13 := Aside0.mk (blk_new wr (.cells #[.int .i64 lv.f0, .int .i64 lv.f1.f0, .int .i64 lv.f1.f1] 62 (0, 0))); have hbw : Below wr.heap.size wr (wr.alloc (.cells #[.int .i64 lv.f0, .int .i64 lv.f1.f0, .int .i64 lv.f1.f1] 62 (0, 0))) := below_alloc (Below.refl _ _) _; generalize hw_ : wr.alloc (.cells #[.int .i64 lv.f0, .int .i64 lv.f1.f0, .int .i64 lv.f1.f1] 62 (0, 0)) = w9 at *; rw [← hg_] at B13 ⊢; replace HO := Aside0.mk (own_move HO.out (fun b hb => hbw.block b (own_lt HO.out b hb))); replace B10 := Aside0.mk (blk_below B10.out hbw); replace HB := Aside0.mk (below_step HB.out hbw); clear hbw hw_ hg_ h0 h1 h2; have hb2_ := (blk_cell B10.out 2).trans rfl; have hc0_ := (blk_cell B13.out 0).trans rfl; by_cases hn : j + 1 < sl.f1.length
      ·
       (have hnz : (j : Int) + 1 < (sl.f1.length : Int) := by omega); obtain ⟨adl2, e2, h3, _, _⟩ := at_T62 G2.out ((j + 1 : Nat) : Int) (by omega) (by omega); (obtain rfl : adl = adl2 := by injection e2); rw [Int.toNat_natCast] at h3; replace h3 := cell_x HB h3; have hrd2 : sl.f1.getD (j + 1) z62 = rd_T62 sl.f1 ((j + 1 : Nat) : Int) := rfl; have hst := HST.out; rw [hrd2] at hst; generalize (rd_T62 sl.f1 ((j + 1 : Nat) : Int)).f0 = fn at *; by_cases hle : fn ≤ nw
       ·
        rw [if_pos ⟨hn, hle⟩] at hst; have HP := Aside0.mk hst.symm; clear hst e2 HST hrd2; go_wp2; go_roundg (sl.f1.length - (j + 1))
        case measure => omega
        case rel => exact ⟨j + 1, nw, by omega, by omega, by go_num, rfl, HP, HO, B10, HB⟩
       ·
        rw [if_neg (fun h => hle h.2)] at hst; clear e2 HST hrd2; have hm_ : (if nw < lv.f0 then lv.f0 else nw) = mx nw lv.f0 := rfl; generalize mx nw lv.f0 = m at *
        go_upto_region 18 with (fail)
        clear hb2_; by_cases h28 : m ≤ 2880
        ·
         have hcall := HWC.out _ HB.out; generalize waterOf true lv = wt at *; have HCALL := Aside0.mk hcall; have HSTX := Aside0.mk hst; clear hcall hst HWC; by_cases hw : nd ≤ wrap64 (1000 * wt)
         ·
          have hP := HSTX.out.trans (if_pos ⟨h28, hw⟩); have HP := Aside0.mk hP; clear hP HSTX
          go_wp2_with (first | (go_at_call 80; refine HCALL.out.mono ?_; rintro e w10 ⟨rfl, hb10⟩; have HB10 := Aside0.mk (below_step HB.out hb10); have HO10 := Aside0.mk (own_move HO.out (fun b hb => hb10.block b (own_lt HO.out b hb))); clear hb10) | (at_builtin; refine wpList_append_own _ rfl _ _ 27 rfl w.heap.size 3 i0 (.int .i64 0) 1 8 Try.underlying27 hi hz0 hz1 hz2 rfl (by decide) _ _ _ rfl (HO10.out.alloc _) ⟨w10.heap.size, 0, none⟩ 1 1 [.int .i64 m] rfl rfl (cell_one_new _ _ _) (by simp [Value.oneCell']) (by unfold maxLen; omega) (by omega) (by have := HB10.out.size; simp; omega) ?_; intro v' w11 hown' hgrow _))
          go_roundg (x.sills.length - (k + 1))
          case measure => omega
          case rel =>
           refine ⟨k + 1, m, acc ++ [m], by omega, by omega, by go_num, rfl, by simp; omega, ⟨?_⟩, ⟨by simpa using hown'⟩, ⟨grow_below HB10.out HO10.out hgrow⟩⟩; have hf := HF.out; rw [HP.out] at hf
           simpa using hf
         ·
          have hP := HSTX.out.trans (if_neg (fun h => hw h.2)); have HP := Aside0.mk hP.symm; clear hP HSTX
          go_wp2_with (go_at_call 80; refine HCALL.out.mono ?_; rintro e w10 ⟨rfl, hb10⟩; have HB10 := Aside0.mk (below_step HB.out hb10); have HO10 := Aside0.mk (own_move HO.out (fun b hb => hb10.block b (own_lt HO.out b hb))); have BK10 := Aside0.mk (blk_below B10.out hb10); clear hb10)
          go_roundg (sl.f1.length - (j + 1))
          case measure => omega
          case rel => exact ⟨j + 1, m, by omega, by omega, by go_num, rfl, HP, HO10, BK10, HB10⟩
        ·
         have hP := hst.trans (if_neg (fun h => h28 h.1)); have HP := Aside0.mk hP.symm; clear hP hst HWC; go_wp2; go_roundg (sl.f1.length - (j + 1))
         case measure => omega
         case rel => exact ⟨j + 1, m, by omega, by omega, by go_num, rfl, HP, HO, B10, HB⟩
      ·
       (have hnz : ¬ (j : Int) + 1 < (sl.f1.length : Int) := by omega); have hst := HST.out; rw [if_neg (fun h => hn h.1)] at hst; clear HST; have hm_ : (if nw < lv.f0 then lv.f0 else nw) = mx nw lv.f0 := rfl; generalize mx nw lv.f0 = m at *
       go_upto_region 18 with (fail)
       clear hb2_; by_cases h28 : m ≤ 2880
       ·
        have hcall := HWC.out _ HB.out; generalize waterOf true lv = wt at *; have HCALL := Aside0.mk hcall; have HSTX := Aside0.mk hst; clear hcall hst HWC; by_cases hw : nd ≤ wrap64 (1000 * wt)
        ·
         have hP := HSTX.out.trans (if_pos ⟨h28, hw⟩); have HP := Aside0.mk hP; clear hP HSTX
         go_wp2_with (first | (go_at_call 80; refine HCALL.out.mono ?_; rintro e w10 ⟨rfl, hb10⟩; have HB10 := Aside0.mk (below_step HB.out hb10); have HO10 := Aside0.mk (own_move HO.out (fun b hb => hb10.block b (own_lt HO.out b hb))); clear hb10) | (at_builtin; refine wpList_append_own _ rfl _ _ 27 rfl w.heap.size 3 i0 (.int .i64 0) 1 8 Try.underlying27 hi hz0 hz1 hz2 rfl (by decide) _ _ _ rfl (HO10.out.alloc _) ⟨w10.heap.size, 0, none⟩ 1 1 [.int .i64 m] rfl rfl (cell_one_new _ _ _) (by simp [Value.oneCell']) (by unfold maxLen; omega) (by omega) (by have := HB10.out.size; simp; omega) ?_; intro v' w11 hown' hgrow _))
         go_roundg (x.sills.length - (k + 1))
         case measure => omega
         case rel =>
          refine ⟨k + 1, m, acc ++ [m], by omega, by omega, by go_num, rfl, by simp; omega, ⟨?_⟩, ⟨by simpa using hown'⟩, ⟨grow_below HB10.out HO10.out hgrow⟩⟩; have hf := HF.out; rw [HP.out] at hf
          simpa using hf
        ·
         have hP := HSTX.out.trans (if_neg (fun h => hw h.2)); have HP := Aside0.mk hP.symm; clear hP HSTX
         go_wp2_with (go_at_call 80; refine HCALL.out.mono ?_; rintro e w10 ⟨rfl, hb10⟩; have HB10 := Aside0.mk (below_step HB.out hb10); have HO10 := Aside0.mk (own_move HO.out (fun b hb => hb10.block b (own_lt HO.out b hb))); have BK10 := Aside0.mk (blk_below B10.out hb10); clear hb10)
         go_roundg (sl.f1.length - (j + 1))
         case measure => omega
         case rel => exact ⟨j + 1, m, by omega, by omega, by go_num, rfl, HP, HO10, BK10, HB10⟩
       ·
        have hP := hst.trans (if_neg (fun h => h28 h.1)); have HP := Aside0.mk hP.symm; clear hP hst HWC; go_wp2; go_roundg (sl.f1.length - (j + 1))
        case measure => omega
        case rel => exact ⟨j + 1, m, by omega, by omega, by go_num, rfl, HP, HO, B10, HB⟩
     ·
      (have : j = sl.f1.length := by omega); subst this; have hp := HP.out; rw [List.drop_length] at hp; simp only [passW] at hp; go_wp2; rw [Exit.noGoto_ret]; go_ret; have hf := HF.out; rw [← hp] at hf; simp only [List.append_nil] at hf; rw [← hf]; exact ⟨_, rfl, R_of_owns .i64 HO.out, HB.out⟩
   ·
    (have : k = x.sills.length := by omega); subst this; go_wp2; rw [Exit.noGoto_ret]; go_ret; have hf := HF.out; rw [List.drop_length] at hf; simp only [sailW, List.append_nil] at hf; rw [← hf]; exact ⟨_, rfl, R_of_owns .i64 HO.out, HB.out⟩
def lensOK (sills : List S59) : Prop := sills.length ≤ 100000 ∧ ∀ s, s ∈ sills → s.f1.length ≤ 100000
instance (sills : List S59) : Decidable (lensOK sills) := by unfold lensOK; infer_instance
def overE (soon late : List Int) : List S56 := (List.range late.length).map fun i => ⟨soon.getD i 0, late.getD i 0⟩
def verdictE (n : Nat) (soon late : List Int) : Int := if late.length = n then 1 else if soon.length < n then 2 else 3
def sailR (under leaves : Int) (sills : List S59) (q : Q4) : Option (Int × List S56 × Int) :=
 if (sailO under leaves sills q false).length ≤ (sailO under leaves sills q true).length then some (verdictE sills.length (sailO under leaves sills q true) (sailO under leaves sills q false), overE (sailO under leaves sills q true) (sailO under leaves sills q false), 0) else none
noncomputable def ship_Sail.f (a0_0 : Int) (a0_1 : Int) (a0_2 : Int) (l0_3 : List (S85)) (a0_4 : Int) (l0_5 : List (S59)) (l0_6 : List (S79)) (l1 : List Int) : Option (Int × (List (S56)) × Int) :=
 (stowE a0_0 a0_1 a0_2 l0_3 a0_4 l0_5 l0_6 l1).bind fun e => if e = 0 then (if l1.length ≤ 140737488351232 ∧ lensOK l0_5 then (ladenO a0_0 l0_3 l0_6 l1).bind fun q => sailR a0_1 a0_4 l0_5 q else none) else some (0, [], e)
theorem overE_take (soon late : List Int) (k : Nat) (h : k < late.length) : ((overE soon late).take (k + 1)) = (overE soon late).take k ++ [⟨rd soon (k : Int), rd late (k : Int)⟩] := by
 have hl : k < (overE soon late).length := by simp [overE]; exact h
 rw [List.take_succ_eq_append_getElem hl]
 simp [overE, rd]
theorem SailLens.of {x : VoyV} (h : lensOK x.sills) : SailLens x := ⟨h.1, fun k hk => h.2 _ (by
 have : x.sills.getD k z59 = x.sills[k] := by simp [List.getD, hk]
 rw [this]; exact List.getElem_mem hk)⟩
set_option maxHeartbeats 8000000 in
set_option maxRecDepth 100000 in
theorem sailing_calls (x : VoyV) (A1 : Option Addr) (c1 : Nat) (l1 : List Int) (r1 : Int) (r2 : List S56) (r3 : Int) (w : World) (hx : x.Ok w) (hr1 : Kd.C (Kd.int .i64) w A1 l1.length l1) (hc1 : l1.length ≤ c1) (h : ship_Sail.f x.light x.under x.trim x.holds x.leaves x.sills x.lots l1 = some (r1, r2, r3)) :
  Calls Try.prog 22 #[.agg #[.int .i64 x.light, .int .i64 x.under, .int .i64 x.trim, .slice x.A3 x.holds.length x.c3, .int .i64 x.leaves, .slice x.A5 x.sills.length x.c5, .slice x.A6 x.lots.length x.c6], .slice A1 l1.length c1] w fun e w' => ∃ v1_ : Value, e = .returned (.tuple #[.int .i64 r1, v1_, .int .i64 r3]) ∧ Kd.R k56 56 w' w.heap.size (fun _ => True) v1_ r2 ∧ Below w.heap.size w w' := by
 have hu26 := Try.underlying26
 have hu93 := Try.underlying93
 have hu95 := Try.underlying95
 have hu56 := Try.underlying56
 unfold ship_Sail.f at h
 obtain ⟨er, hst, h⟩ := Option.bind_eq_some_iff.1 h
 obtain ⟨ks, hst⟩ := limO_ev hst
 have HX := Aside0.mk hx
 have HR1 := Aside0.mk hr1
 have HST := Aside0.mk hst
 have H := Aside0.mk h
 clear hx hr1 hst h
 go_enter Try.func22, Try.ntmps22
 go_wp2_with (first | (refine box_r (N := 2) rfl (cs := #[.int .i64 x.light, .int .i64 x.under, .int .i64 x.trim, .slice x.A3 x.holds.length x.c3, .int .i64 x.leaves, .slice x.A5 x.sills.length x.c5, .slice x.A6 x.lots.length x.c6]) (t := 26) ?_; intro gb hg w2 hbox hb2; have BK := Aside0.mk hbox; have HB := Aside0.mk hb2; clear hg hbox hb2; have hz0_ := (blk_cell BK.out 0).trans rfl; have hz1_ := (blk_cell BK.out 1).trans rfl; have hz2_ := (blk_cell BK.out 2).trans rfl; have hz3_ := (blk_cell BK.out 3).trans rfl; have hz4_ := (blk_cell BK.out 4).trans rfl; have hz5_ := (blk_cell BK.out 5).trans rfl; have hz6_ := (blk_cell BK.out 6).trans rfl))
 refine (ship_CheckStowage.calls ks x.light x.under x.trim x.A3 x.c3 x.holds x.leaves x.A5 x.c5 x.sills x.A6 x.c6 x.lots A1 c1 l1 er w2 (HX.out.below HB.out).h (HX.out.below HB.out).hc (HX.out.below HB.out).s (HX.out.below HB.out).sc (HX.out.below HB.out).l (HX.out.below HB.out).lc (Kd.C_below HR1.out HB.out) hc1 HST.out).mono ?_
 rintro e w5 ⟨rfl, hb5⟩
 replace BK := Aside0.mk (blk_below BK.out hb5)
 replace HB := Aside0.mk (below_step HB.out hb5)
 clear hb5 hz0_ hz1_ hz2_ hz3_ hz4_ hz5_ hz6_
 by_cases her : er = 0
 case neg =>
  have hh := H.out; rw [if_neg her] at hh; have hnb : (er == 0) = false := beq_eq_false_iff_ne.2 her; simp only [Option.some.injEq, Prod.mk.injEq] at hh; obtain ⟨rfl, rfl, rfl⟩ := hh; clear her H; go_wp2
  go_ret3
  exact ⟨_, rfl, Kd.R_nil _ _ _ _ _, HB.out⟩
 have hh := H.out
 rw [if_pos her] at hh
 by_cases hl1 : l1.length ≤ 140737488351232 ∧ lensOK x.sills
 case neg => rw [if_neg hl1] at hh; cases hh
 rw [if_pos hl1] at hh
 obtain ⟨z, hz, hh⟩ := Option.bind_eq_some_iff.1 hh
 have HLN := Aside0.mk (SailLens.of hl1.2)
 replace hl1 := hl1.1
 subst her
 have HZ := Aside0.mk hz
 have HH := Aside0.mk hh
 clear hz H hh
 have hz0_ := (blk_cell BK.out 0).trans rfl
 have hz1_ := (blk_cell BK.out 1).trans rfl
 have hz2_ := (blk_cell BK.out 2).trans rfl
 have hz3_ := (blk_cell BK.out 3).trans rfl
 have hz4_ := (blk_cell BK.out 4).trans rfl
 have hz5_ := (blk_cell BK.out 5).trans rfl
 have hz6_ := (blk_cell BK.out 6).trans rfl
 go_wp2_with (fail)
 refine (laden_calls x A1 c1 l1 z w5 (HX.out.below HB.out) (Kd.C_below HR1.out HB.out) hc1 hl1 HZ.out).mono ?_
 rintro e w6 ⟨rfl, hb6⟩
 replace BK := Aside0.mk (blk_below BK.out hb6)
 replace HB := Aside0.mk (below_step HB.out hb6)
 clear hb6 hz0_ hz1_ hz2_ hz3_ hz4_ hz5_ hz6_
 go_upto_region 5 with (fail)
 obtain ⟨g8, hg_⟩ : ∃ b, b = w6.heap.size := ⟨_, rfl⟩
 have Ng8 := Aside0.mk (blk_new w6 (.cells #[.int .i64 x.light, .int .i64 x.under, .int .i64 x.trim, .slice x.A3 x.holds.length x.c3, .int .i64 x.leaves, .slice x.A5 x.sills.length x.c5, .slice x.A6 x.lots.length x.c6, .int .i64 z.b0, .int .i64 z.b1, .int .i64 z.h0, .int .i64 z.h1] 95 (0, 0)))
 have hbw : Below w6.heap.size w6 (w6.alloc (.cells #[.int .i64 x.light, .int .i64 x.under, .int .i64 x.trim, .slice x.A3 x.holds.length x.c3, .int .i64 x.leaves, .slice x.A5 x.sills.length x.c5, .slice x.A6 x.lots.length x.c6, .int .i64 z.b0, .int .i64 z.b1, .int .i64 z.h0, .int .i64 z.h1] 95 (0, 0))) := below_alloc (Below.refl _ _) _
 have hgs_ : w.heap.size ≤ g8 := by rw [hg_]; exact HB.out.size
 generalize hw_ : w6.alloc (.cells #[.int .i64 x.light, .int .i64 x.under, .int .i64 x.trim, .slice x.A3 x.holds.length x.c3, .int .i64 x.leaves, .slice x.A5 x.sills.length x.c5, .slice x.A6 x.lots.length x.c6, .int .i64 z.b0, .int .i64 z.b1, .int .i64 z.h0, .int .i64 z.h1] 95 (0, 0)) = w7 at *
 rw [← hg_] at Ng8 ⊢
 replace BK := Aside0.mk (blk_below BK.out hbw)
 replace HB := Aside0.mk (below_step HB.out hbw)
 have GEg8 : Aside0 (w.heap.size ≤ g8) := ⟨hgs_⟩
 clear hbw hw_ hg_ hgs_
 have hz0_ := (blk_cell Ng8.out 0).trans rfl
 have hz1_ := (blk_cell Ng8.out 1).trans rfl
 have hz2_ := (blk_cell Ng8.out 2).trans rfl
 have hz3_ := (blk_cell Ng8.out 3).trans rfl
 have hz4_ := (blk_cell Ng8.out 4).trans rfl
 have hz5_ := (blk_cell Ng8.out 5).trans rfl
 have hz6_ := (blk_cell Ng8.out 6).trans rfl
 have hz7_ := (blk_cell Ng8.out 7).trans rfl
 have hz8_ := (blk_cell Ng8.out 8).trans rfl
 have hz9_ := (blk_cell Ng8.out 9).trans rfl
 have hz10_ := (blk_cell Ng8.out 10).trans rfl
 have hd_ := below_drew1 (Below.refl w7.heap.size w7)
 replace BK := Aside0.mk (blk_drew BK.out)
 replace HB := Aside0.mk (below_step HB.out hd_)
 clear hd_
 have hsl := sailW_len true x.sills x.leaves (needsW x.under z true)
 have hll := sailW_len false x.sills x.leaves (needsW x.under z false)
 obtain ⟨so, hso⟩ : ∃ l, sailO x.under x.leaves x.sills z true = l := ⟨_, rfl⟩
 obtain ⟨la, hla⟩ : ∃ l, sailO x.under x.leaves x.sills z false = l := ⟨_, rfl⟩
 have HC1 := Aside0.mk (fun W (hb : Below w.heap.size w W) => sail_calls x z true W (HX.out.below hb) HLN.out)
 have HC2 := Aside0.mk (fun W (hb : Below w.heap.size w W) => sail_calls x z false W (HX.out.below hb) HLN.out)
 rw [hso] at HC1
 rw [hla] at HC2
 have HH2 := HH.out
 unfold sailR at HH2
 rw [hso, hla] at HH2
 have hls := HLN.out.s
 have hsl : so.length ≤ x.sills.length := by rw [← hso]; exact hsl
 have hll : la.length ≤ x.sills.length := by rw [← hla]; exact hll
 by_cases hsm : la.length ≤ so.length
 case neg => rw [if_neg hsm] at HH2; cases HH2
 rw [if_pos hsm] at HH2
 simp only [Option.some.injEq, Prod.mk.injEq] at HH2
 obtain ⟨hr1, hr2, hr3⟩ := HH2
 subst hr1; subst hr2; subst hr3
 clear hso hla HH HZ
 refine start_ (n := 6) (S := fun w' => w'.cell? ⟨g8, 0, none⟩ = some (.int .i64 x.light) ∧ w'.cell? ⟨g8, 1, none⟩ = some (.int .i64 x.under) ∧ w'.cell? ⟨g8, 2, none⟩ = some (.int .i64 x.trim) ∧ w'.cell? ⟨g8, 3, none⟩ = some (.slice x.A3 x.holds.length x.c3) ∧ w'.cell? ⟨g8, 4, none⟩ = some (.int .i64 x.leaves) ∧ w'.cell? ⟨g8, 5, none⟩ = some (.slice x.A5 x.sills.length x.c5) ∧ w'.cell? ⟨g8, 6, none⟩ = some (.slice x.A6 x.lots.length x.c6) ∧ w'.cell? ⟨g8, 7, none⟩ = some (.int .i64 z.b0) ∧ w'.cell? ⟨g8, 8, none⟩ = some (.int .i64 z.b1) ∧ w'.cell? ⟨g8, 9, none⟩ = some (.int .i64 z.h0) ∧ w'.cell? ⟨g8, 10, none⟩ = some (.int .i64 z.h1)) (ds := []) #[false, false, false, false, false, false] (by kernel_rfl) rfl rfl ⟨hz0_, hz1_, hz2_, hz3_, hz4_, hz5_, hz6_, hz7_, hz8_, hz9_, hz10_⟩ (fun hHeld => ?_)
 generalize w7.drew = w8 at BK HB hHeld ⊢
 refine take_y 0 (some 22) #[true, false, false, false, false, false] hHeld ?_
 refine take_y 2 (some 24) #[true, false, true, false, false, false] hHeld ?_
 refine one_y 1 (some 23) #[true, true, true, false, false, false] fun K hK => ?_
 refine goes_x Try.func56 #[.agg #[.int .i64 x.light, .int .i64 x.under, .int .i64 x.trim, .slice x.A3 x.holds.length x.c3, .int .i64 x.leaves, .slice x.A5 x.sills.length x.c5, .slice x.A6 x.lots.length x.c6, .int .i64 z.b0, .int .i64 z.b1, .int .i64 z.h0, .int .i64 z.h1], .bool true] ?_
 with_reducible refine (HC1.out _ HB.out).mono ?_
 rintro e w9 ⟨v_, rfl, hr_, hb1_⟩
 obtain ⟨As, cs, rfl⟩ := Kd.R_slice hr_
 have RS := Aside0.mk (Kd.R_reads' hr_).2.2
 replace BK := Aside0.mk (blk_below BK.out hb1_)
 replace HB := Aside0.mk (below_step HB.out hb1_)
 clear hr_
 refine ⟨_, rfl, ?_⟩
 refine hK.out _ _ (cbs_y hb1_ hHeld) (fun hHeld => ?_)
 clear hK K
 refine norm_y (some 23) ?_
 refine one_y 3 (some 25) #[true, true, true, true, false, false] fun K hK => ?_
 refine goes_x Try.func56 #[.agg #[.int .i64 x.light, .int .i64 x.under, .int .i64 x.trim, .slice x.A3 x.holds.length x.c3, .int .i64 x.leaves, .slice x.A5 x.sills.length x.c5, .slice x.A6 x.lots.length x.c6, .int .i64 z.b0, .int .i64 z.b1, .int .i64 z.h0, .int .i64 z.h1], .bool false] ?_
 with_reducible refine (HC2.out _ HB.out).mono ?_
 rintro e w10 ⟨v_, rfl, hr_, hb3_⟩
 obtain ⟨Al, cl, rfl⟩ := Kd.R_slice hr_
 have RL := Aside0.mk (Kd.R_reads' hr_).2.2
 replace BK := Aside0.mk (blk_below BK.out hb3_)
 replace HB := Aside0.mk (below_step HB.out hb3_)
 replace RS := Aside0.mk (Kd.C_below RS.out hb3_)
 clear hr_
 refine ⟨_, rfl, ?_⟩
 refine hK.out _ _ (cbs_y hb3_ hHeld) (fun hHeld => ?_)
 clear hK K
 refine norm_y (some 25) ?_
 refine pure_y 4 (some 9) #[true, true, true, true, true, false] ?_
 refine pure_y 5 (some 10) #[true, true, true, true, true, true] ?_
 refine done_ (by kernel_rfl) ?_
 clear hHeld hb1_ hb3_ HC1 HC2 Ng8 hz0_ hz1_ hz2_ hz3_ hz4_ hz5_ hz6_ hz7_ hz8_ hz9_ hz10_
 go_wp2
 have hov : (overE so la).length = la.length := by simp [overE]
 go_loopg [28, 5] la.length (fun gk v28 v5 wr => ∃ k : Nat, k ≤ la.length ∧ la.length - k ≤ gk ∧ v28 = .int .i64 k ∧ Aside0 (Kd.R k56 56 wr w10.heap.size (fun _ => True) v5 ((overE so la).take k)) ∧ Aside0 (wr.heap[gb]? = some (.cells #[.int .i64 x.light, .int .i64 x.under, .int .i64 x.trim, .slice x.A3 x.holds.length x.c3, .int .i64 x.leaves, .slice x.A5 x.sills.length x.c5, .slice x.A6 x.lots.length x.c6] 26 (0, 0))) ∧ Aside0 (Below w10.heap.size w10 wr))
 case atStart => exact ⟨0, by omega, by omega, rfl, ⟨Kd.R_nil _ _ _ _ _⟩, BK, ⟨Below.refl _ _⟩⟩
 case round =>
  clear BK; obtain ⟨k, hk, hgk, rfl, HO, BK, HBr⟩ := hrel; by_cases hlt : k < la.length
  ·
   (have hlz : (k : Int) < (la.length : Int) := by omega); (have hlz2 : (k : Int) < (so.length : Int) := by omega); obtain ⟨ada, e, h0⟩ := Kd.at_int RL.out (k : Int) (by omega) hlz; (cases e); obtain ⟨ads, e, h1⟩ := Kd.at_int RS.out (k : Int) (by omega) hlz2; (cases e); rw [Int.toNat_natCast] at h0 h1; replace h0 := (HBr.out.cell (World.block_lt_of_cell? w10 _ h0)).trans h0; replace h1 := (HBr.out.cell (World.block_lt_of_cell? w10 _ h1)).trans h1; have HTK := Aside0.mk (overE_take so la k hlt); (have htl : ((overE so la).take k).length = k := by rw [List.length_take, hov]; omega); generalize (overE so la).take k = xs at *; generalize rd la (k : Int) = b at *; generalize rd so (k : Int) = a at *
   go_wp2_with (first | ((with_reducible refine gate_builtin (b := .append) (xs := #[.tmp 33, .tmp 40]) rfl ?_); (try (refine gate_guard (by rfl) ?_; dsimp only)); at_builtin; refine Kd.R_append k56 w10.heap.size rfl (.tmp 33) (.tmp 40) 39 56 (.agg #[(.int .i64 0), (.int .i64 0)]) 16 rfl Try.underlying39 info56 rfl (by decide) (by omega) _ xs ⟨a, b⟩ [.int .i64 a, .int .i64 b] (fun _ => True) (fun _ => False) rfl rfl ?aP (fun _ hk => hk.elim) ?aF ?aO HBr.out ?aS ?aL ?_; (case aP => exact k56_mkM _ _ _ ⟨a, b⟩); (case aF => exact (fun _ _ => trivial)); (case aO => exact HO.out); (case aS => exact HBr.out.size); (case aL => omega); intro v9 w11 ho hb hg hat; have HO2 := Aside0.mk ho; have HBr2 := Aside0.mk hb; have BK2 := Aside0.mk (blk_grown BK.out hg (Kd.R_ne HO.out BK.out (by decide))); clear ho hb hg hat))
   go_roundg (la.length - (k + 1))
   case measure => omega
   case rel => exact ⟨k + 1, by omega, by omega, by go_num, ⟨by rw [HTK.out]; exact HO2.out⟩, BK2, HBr2⟩
  ·
   (have : k = la.length := by omega); subst this; have HOe := HO.out; rw [← hov, List.take_length] at HOe; have HOF := Aside0.mk (Kd.R_lower HOe HB.out.size); have HBF := Aside0.mk (below_step HB.out HBr.out); have hz5_ := (blk_cell BK.out 5).trans rfl; clear HOe HO HBr; by_cases hv1 : la.length = x.sills.length
   ·
    have hv : verdictE x.sills.length so la = 1 := if_pos hv1; have HV := Aside0.mk hv; have hb1 : ((la.length : Int) == (x.sills.length : Int)) = true := beq_iff_eq.2 (by omega); clear hv; go_wp2
    go_ret3
    refine ⟨_, ?_, HOF.out, HBF.out⟩; rw [HV.out]; rfl
   ·
    have hb1 : ((la.length : Int) == (x.sills.length : Int)) = false := beq_eq_false_iff_ne.2 (by omega); by_cases hv2 : so.length < x.sills.length
    ·
     have hv : verdictE x.sills.length so la = 2 := (if_neg hv1).trans (if_pos hv2); have HV := Aside0.mk hv; have hb2 : decide ((so.length : Int) < (x.sills.length : Int)) = true := decide_eq_true (by omega); clear hv; go_wp2
     go_ret3
     refine ⟨_, ?_, HOF.out, HBF.out⟩; rw [HV.out]; rfl
    ·
     have hv : verdictE x.sills.length so la = 3 := (if_neg hv1).trans (if_neg hv2); have HV := Aside0.mk hv; have hb2 : decide ((so.length : Int) < (x.sills.length : Int)) = false := decide_eq_false (by omega); clear hv; go_wp2
     go_ret3
     refine ⟨_, ?_, HOF.out, HBF.out⟩; rw [HV.out]; rfl
theorem ship_Sail.calls (a0_0 : Int) (a0_1 : Int) (a0_2 : Int) (A0_3 : Option Addr) (c0_3 : Nat) (l0_3 : List (S85)) (a0_4 : Int) (A0_5 : Option Addr) (c0_5 : Nat) (l0_5 : List (S59)) (A0_6 : Option Addr) (c0_6 : Nat) (l0_6 : List (S79)) (A1 : Option Addr) (c1 : Nat) (l1 : List Int) (r1 : Int) (r2 : List (S56)) (r3 : Int) (w : World) (hr0_3 : Kd.C k85 w A0_3 l0_3.length l0_3) (hc0_3 : l0_3.length ≤ c0_3) (hr0_5 : Kd.C k59 w A0_5 l0_5.length l0_5) (hc0_5 : l0_5.length ≤ c0_5) (hr0_6 : Kd.C k79 w A0_6 l0_6.length l0_6) (hc0_6 : l0_6.length ≤ c0_6) (hr1 : Kd.C (Kd.int .i64) w A1 l1.length l1) (hc1 : l1.length ≤ c1) (h : ship_Sail.f a0_0 a0_1 a0_2 l0_3 a0_4 l0_5 l0_6 l1 = some (r1, r2, r3)) :
  Calls Try.prog 22 #[.agg #[.int .i64 a0_0, .int .i64 a0_1, .int .i64 a0_2, .slice A0_3 l0_3.length c0_3, .int .i64 a0_4, .slice A0_5 l0_5.length c0_5, .slice A0_6 l0_6.length c0_6], .slice A1 l1.length c1] w fun e w' => ∃ v1_ : Value, e = .returned (.tuple #[.int .i64 r1, v1_, .int .i64 r3]) ∧ Kd.R k56 56 w' w.heap.size (fun _ => True) v1_ r2 ∧ Below w.heap.size w w' := sailing_calls ⟨a0_0, a0_1, a0_2, A0_3, c0_3, l0_3, a0_4, A0_5, c0_5, l0_5, A0_6, c0_6, l0_6⟩ A1 c1 l1 r1 r2 r3 w ⟨hr0_3, hc0_3, hr0_5, hc0_5, hr0_6, hc0_6⟩ hr1 hc1 h
end Go.Proofs.Ytodmemndaaiolaa.PC7
namespace Go.Proofs.Ytodmemndaaiolaa.PC7
set_option linter.unusedVariables false
set_option linter.unusedSimpArgs false
def dep : List (Int × Int) → Int → Int
  | [], _ => 0
  | [(_, d)], _ => d
  | (_, d) :: (f2, d2) :: r, t => if f2 ≤ t then dep ((f2, d2) :: r) t else d
def pass : List (Int × Int) → Int → Int → Option Int
  | [], _, _ => none
  | [(f, d)], now, needs => if max now f ≤ 2880 ∧ needs ≤ 1000 * d then some (max now f) else none
  | (f, d) :: (f2, d2) :: r, now, needs => if f2 ≤ now then pass ((f2, d2) :: r) now needs else if max now f ≤ 2880 ∧ needs ≤ 1000 * d then some (max now f) else pass ((f2, d2) :: r) (max now f) needs
def rises : List (Int × Int) → Prop
  | [] => True
  | [_] => True
  | (f, _) :: (f2, d2) :: r => f < f2 ∧ rises ((f2, d2) :: r)
def First (l : List (Int × Int)) (needs a : Int) : Option Int → Prop
  | some t => a ≤ t ∧ t ≤ 2880 ∧ needs ≤ 1000 * dep l t ∧ ∀ u, a ≤ u → u < t → ¬ needs ≤ 1000 * dep l u
  | none => ∀ u, a ≤ u → u ≤ 2880 → ¬ needs ≤ 1000 * dep l u
def from0 : List (Int × Int) → Int
  | [] => 0
  | (f, _) :: _ => f
def sailL : List (Int × List (Int × Int)) → Int → Int → List Int
  | [], _, _ => []
  | (w, l) :: r, now, needs => match pass l (now + w) needs with
    | some t => t :: sailL r t needs
    | none => []
structure SillOK (s : Int × List (Int × Int)) : Prop where
  ne : s.2 ≠ []
  ri : rises s.2
  zero : from0 s.2 = 0
  way : 0 ≤ s.1
def Better : List (Int × List (Int × Int)) → List (Int × List (Int × Int)) → Prop
  | [], [] => True
  | (w, l) :: r, (w2, l2) :: r2 => (w2 ≤ w ∧ ∀ t, dep l t ≤ dep l2 t) ∧ Better r r2
  | _, _ => False
end Go.Proofs.Ytodmemndaaiolaa.PC7
namespace Go.Proofs.Ytodmemndaaiolaa.PC7
set_option linter.unusedVariables false
set_option linter.unusedSimpArgs false
open Go.RowKit Go.Proofs.YtodmemndaaiolaaW.PrintWords Go.Proofs.YtodmemndaaiolaaW.PrintLast Go.Proofs.YtodmemndaaiolaaW.PrintMore
theorem mx_max (a b : Int) : mx a b = max a b := by
  unfold mx
  by_cases h : a < b
  · rw [if_pos h]; omega
  · rw [if_neg h]; omega
def plainS (soon : Bool) (s : S59) : Int × List (Int × Int) := (travelOf soon s, s.f1.map fun l => (l.f0, waterOf soon l))
structure QOK (B : Int) (q : Q4) : Prop where
  b0 : 0 ≤ q.b0 ∧ q.b0 ≤ q.h0
  b1 : 0 ≤ q.b1 ∧ q.b1 ≤ q.h1
  h0 : q.h0 ≤ B
  h1 : q.h1 ≤ B
def QLe (p q : Q4) : Prop := p.b0 ≤ q.b0 ∧ p.b1 ≤ q.b1 ∧ p.h0 ≤ q.h0 ∧ p.h1 ≤ q.h1
theorem mul_bd {a b A B : Int} (h0 : 0 ≤ a) (h1 : a ≤ A) (h2 : 0 ≤ b) (h3 : b ≤ B) : 0 ≤ a * b ∧ a * b ≤ A * B :=
  ⟨Int.mul_nonneg h0 h2, Int.mul_le_mul h1 h3 h2 (by omega)⟩
def Lighter : List Int → List Int → Prop
  | [], [] => True
  | a :: s, b :: t => (b = a ∨ b = -1) ∧ Lighter s t
  | _, _ => False
end Go.Proofs.Ytodmemndaaiolaa.PC7
namespace Go.Proofs.Ytodmemndaaiolaa.PC7
open Go.RowKit Go.Proofs.YtodmemndaaiolaaW.PrintWords Go.Proofs.YtodmemndaaiolaaW.PrintLast Go.Proofs.YtodmemndaaiolaaW.PrintMore
attribute [local go_sem] max2_int min2_int max_two min_two max_three min_three max_four min_four
set_option linter.unusedVariables false
set_option linter.unusedSimpArgs false
mutual
def swarfref07_stowed.l0 : Nat → List Int → Int → Int → Int → Int → List (S85) → Int → List (S59) → List (S79) → Option (Int)
 | 0, _, _, _, _, _, _, _, _, _ => none
 | k + 1, x1, x5, x424000, x424001, x424002, x424003, x424004, x424005, x424006 => if x5 < (x1.length : Int) then (if 0 ≤ x5 then ((swarfref07_between.f (rd x1 x5) (-1) (wrap64 ((x424003.length : Int) - 1))).bind fun t425 => (if t425 = true then (swarfref07_stowed.l0 k x1 (wrap64 (x5 + 1)) x424000 x424001 x424002 x424003 x424004 x424005 x424006) else (some 3))) else (none)) else (swarfref07_stowed.l1 k x1 0 x424000 x424001 x424002 x424003 x424004 x424005 x424006)
def swarfref07_stowed.l1 : Nat → List Int → Int → Int → Int → Int → List (S85) → Int → List (S59) → List (S79) → Option (Int)
 | 0, _, _, _, _, _, _, _, _, _ => none
 | k + 1, x1, x6, x424000, x424001, x424002, x424003, x424004, x424005, x424006 => if x6 < (x424003.length : Int) then (swarfref07_stowed.l2 k x1 x6 0 0 x424000 x424001 x424002 x424003 x424004 x424005 x424006) else (some 0)
def swarfref07_stowed.l2 : Nat → List Int → Int → Int → Int → Int → Int → Int → List (S85) → Int → List (S59) → List (S79) → Option (Int)
 | 0, _, _, _, _, _, _, _, _, _, _, _ => none
 | k + 1, x1, x6, x7, x8, x424000, x424001, x424002, x424003, x424004, x424005, x424006 => if x8 < (x1.length : Int) then (if 0 ≤ x8 then (if (rd x1 x8) = x6 then (if x8 < (x424006.length : Int) then (swarfref07_stowed.l2 k x1 x6 (wrap64 (x7 + ((rd_T79 x424006 x8).f0.f1))) (wrap64 (x8 + 1)) x424000 x424001 x424002 x424003 x424004 x424005 x424006) else (none)) else (swarfref07_stowed.l2 k x1 x6 x7 (wrap64 (x8 + 1)) x424000 x424001 x424002 x424003 x424004 x424005 x424006)) else (none)) else (if 0 ≤ x6 then (if x6 < (x424003.length : Int) then (if x7 > ((rd_T85 x424003 x6).f0) then (some 13) else (swarfref07_stowed.l1 k x1 (wrap64 (x6 + 1)) x424000 x424001 x424002 x424003 x424004 x424005 x424006)) else (none)) else (none))
end
def swarfref07_stowed.f (k : Nat) (a0_0 : Int) (a0_1 : Int) (a0_2 : Int) (l0_3 : List (S85)) (a0_4 : Int) (l0_5 : List (S59)) (l0_6 : List (S79)) (l1 : List Int) : Option (Int) := if (l1.length : Int) = (l0_6.length : Int) then (swarfref07_stowed.l0 k l1 0 a0_0 a0_1 a0_2 l0_3 a0_4 l0_5 l0_6) else (some 2)
set_option maxHeartbeats 8000000 in
set_option maxRecDepth 100000 in
theorem swarfref07_stowed.calls (k : Nat) (a0_0 : Int) (a0_1 : Int) (a0_2 : Int) (A0_3 : Option Addr) (c0_3 : Nat) (l0_3 : List (S85)) (a0_4 : Int) (A0_5 : Option Addr) (c0_5 : Nat) (l0_5 : List (S59)) (A0_6 : Option Addr) (c0_6 : Nat) (l0_6 : List (S79)) (A1 : Option Addr) (c1 : Nat) (l1 : List Int) (r : Int) (w : World) (hr0_3 : Kd.C k85 w A0_3 l0_3.length l0_3) (hc0_3 : l0_3.length ≤ c0_3) (hr0_5 : Kd.C k59 w A0_5 l0_5.length l0_5) (hc0_5 : l0_5.length ≤ c0_5) (hr0_6 : Kd.C k79 w A0_6 l0_6.length l0_6) (hc0_6 : l0_6.length ≤ c0_6) (hr1 : Kd.C (Kd.int .i64) w A1 l1.length l1) (hc1 : l1.length ≤ c1) (h : swarfref07_stowed.f k a0_0 a0_1 a0_2 l0_3 a0_4 l0_5 l0_6 l1 = some r) :
  Calls Try.prog 76 #[.agg #[.int .i64 a0_0, .int .i64 a0_1, .int .i64 a0_2, .slice A0_3 l0_3.length c0_3, .int .i64 a0_4, .slice A0_5 l0_5.length c0_5, .slice A0_6 l0_6.length c0_6], .slice A1 l1.length c1] w fun e w' => e = .returned (.int .i64 r) ∧ Below w.heap.size w w' := by
 have hu26 := Try.underlying26
 have HR0_3 := Aside0.mk hr0_3
 have HC0_3 := Aside0.mk hc0_3
 clear hr0_3 hc0_3
 have HR0_5 := Aside0.mk hr0_5
 have HC0_5 := Aside0.mk hc0_5
 clear hr0_5 hc0_5
 have HR0_6 := Aside0.mk hr0_6
 have HC0_6 := Aside0.mk hc0_6
 clear hr0_6 hc0_6
 have HR1 := Aside0.mk hr1
 have HC1 := Aside0.mk hc1
 clear hr1 hc1
 have HB := Aside0.mk (Below.refl w.heap.size w)
 have H : (if (l1.length : Int) = (l0_6.length : Int) then (swarfref07_stowed.l0 k l1 0 a0_0 a0_1 a0_2 l0_3 a0_4 l0_5 l0_6) else (some 2)) = some r := h
 clear h
 by_cases c3 : (l1.length : Int) = (l0_6.length : Int)
 ·
  rw [if_pos c3] at H; have c3b0 : ((l1.length : Int) == (l0_6.length : Int)) = true := beq_iff_eq.mpr c3; have c3b1 : ((l1.length : Int) != (l0_6.length : Int)) = false := bne_eq_false_iff_eq.mpr c3; (have c3b2 : (l1.length == l0_6.length) = true := by first | simpa using c3 | (simp at c3 ⊢; omega)); clear c3; have H' := Aside0.mk H; clear H; go_enter Try.func76, Try.ntmps76
  go_wp2_with (first | (refine box_r (N := 2) rfl (cs := #[.int .i64 a0_0, .int .i64 a0_1, .int .i64 a0_2, .slice A0_3 l0_3.length c0_3, .int .i64 a0_4, .slice A0_5 l0_5.length c0_5, .slice A0_6 l0_6.length c0_6]) (t := 26) ?_; intro gb423 hg w4 hbox hb; have BK423 := Aside0.mk (hbox); have GW423 := gw_x hg HB; have GE423 := GW423; replace HB := Aside0.mk (below_step (below_x HB.out) hb); clear hb hbox hg; obtain ⟨hfz5_0, _, _, _, _, _, _, _⟩ := cf7 BK423))
  repeat (go_quiet (first | (refine box_r (N := 2) rfl (cs := #[.int .i64 a0_0, .int .i64 a0_1, .int .i64 a0_2, .slice A0_3 l0_3.length c0_3, .int .i64 a0_4, .slice A0_5 l0_5.length c0_5, .slice A0_6 l0_6.length c0_6]) (t := 26) ?_; intro gb423 hg w4 hbox hb; have BK423 := Aside0.mk (hbox); have GW423 := gw_x hg HB; have GE423 := GW423; replace HB := Aside0.mk (below_step (below_x HB.out) hb); clear hb hbox hg; obtain ⟨hfz5_0, _, _, _, _, _, _, _⟩ := cf7 BK423)); try go_wp2_with (first | (refine box_r (N := 2) rfl (cs := #[.int .i64 a0_0, .int .i64 a0_1, .int .i64 a0_2, .slice A0_3 l0_3.length c0_3, .int .i64 a0_4, .slice A0_5 l0_5.length c0_5, .slice A0_6 l0_6.length c0_6]) (t := 26) ?_; intro gb423 hg w4 hbox hb; have BK423 := Aside0.mk (hbox); have GW423 := gw_x hg HB; have GE423 := GW423; replace HB := Aside0.mk (below_step (below_x HB.out) hb); clear hb hbox hg; obtain ⟨hfz5_0, _, _, _, _, _, _, _⟩ := cf7 BK423)))
  go_loopg [5] k (fun kq v5 w' => ∃ (x5_1 : Int), v5 = .int .i64 x5_1 ∧ Aside0 (swarfref07_stowed.l0 kq l1 x5_1 a0_0 a0_1 a0_2 l0_3 a0_4 l0_5 l0_6 = some r) ∧ Aside0 (kq ≤ k) ∧ Aside0 (w'.heap[gb423]? = some (.cells #[.int .i64 a0_0, .int .i64 a0_1, .int .i64 a0_2, (.slice A0_3 l0_3.length c0_3), .int .i64 a0_4, (.slice A0_5 l0_5.length c0_5), (.slice A0_6 l0_6.length c0_6)] 26 (0, 0))) ∧ Aside0 (Below w.heap.size w w'))
  case atStart => exact ⟨(0), (by first | rfl | (simp; done) | (simp [*]; done)), H', ⟨Nat.le_refl _⟩, ⟨blk_x BK423.out⟩, ⟨by exact below_y HB.out⟩⟩
  case round =>
   clear H'; obtain ⟨x5_1, rfl, HA, HK1, BK423, HB⟩ := hrel; cases gk with
   | zero => exact absurd HA.out (by simp [swarfref07_stowed.l0])
   | succ k1 =>
    have H := HA.out; clear HA; simp only [swarfref07_stowed.l0] at H; by_cases c6 : x5_1 < (l1.length : Int)
    ·
     rw [if_pos c6] at H; have c6b0 : decide (x5_1 < (l1.length : Int)) = true := decide_eq_true c6; clear c6; by_cases c7 : 0 ≤ x5_1
     ·
      rw [if_pos c7] at H; have c7b0 : decide (0 ≤ x5_1) = true := decide_eq_true c7; clear c7; replace H := Option.bind_eq_some_iff.mp H; obtain ⟨t425, A80, H⟩ := H
      try dsimp only at H
      have A8 := Aside0.mk A80; clear A80; by_cases c9 : t425 = true
      ·
       subst c9; (have H1 : (swarfref07_stowed.l0 k1 l1 (wrap64 (x5_1 + 1)) a0_0 a0_1 a0_2 l0_3 a0_4 l0_5 l0_6) = some r := by rw [if_pos rfl] at H; exact H); clear H; have H := H1; clear H1; have H' := Aside0.mk H; clear H; have p424 : 0 ≤ (x5_1 : Int) := of_x; have q424 : x5_1 < (l1.length : Int) := of_x; obtain ⟨ad424, e424, hx424_0⟩ := Kd.at_int HR1.out x5_1 p424 q424; (cases e424); replace hx424_0 := cell_x HB hx424_0; replace p424 := eq_true p424; replace q424 := eq_true q424; obtain ⟨hfz10_0, _, _, _, _, _, _, _⟩ := cf7 BK423
       go_wp2_with (first | (go_at_call 61; (with_reducible refine (swarfref07_between.calls (rd l1 x5_1) (-1) (wrap64 ((l0_3.length : Int) - 1)) true _ A8.out).mono ?_); rintro e w' ⟨rfl, ⟨nd, rfl⟩⟩; (try first | exact ⟨rfl, _, World.drewN_drewN _ _ _⟩ | exact ⟨rfl, _, Eq.trans (World.drewN_drewN _ _ _) (congrArg (World.drewN _) (Nat.add_assoc _ _ _))⟩)))
       repeat (go_quiet (first | (go_at_call 61; (with_reducible refine (swarfref07_between.calls (rd l1 x5_1) (-1) (wrap64 ((l0_3.length : Int) - 1)) true _ A8.out).mono ?_); rintro e w' ⟨rfl, ⟨nd, rfl⟩⟩; (try first | exact ⟨rfl, _, World.drewN_drewN _ _ _⟩ | exact ⟨rfl, _, Eq.trans (World.drewN_drewN _ _ _) (congrArg (World.drewN _) (Nat.add_assoc _ _ _))⟩))); try go_wp2_with (first | (go_at_call 61; (with_reducible refine (swarfref07_between.calls (rd l1 x5_1) (-1) (wrap64 ((l0_3.length : Int) - 1)) true _ A8.out).mono ?_); rintro e w' ⟨rfl, ⟨nd, rfl⟩⟩; (try first | exact ⟨rfl, _, World.drewN_drewN _ _ _⟩ | exact ⟨rfl, _, Eq.trans (World.drewN_drewN _ _ _) (congrArg (World.drewN _) (Nat.add_assoc _ _ _))⟩))))
       go_roundg k1
       case measure => have := HK1.out; omega
       case rel => exact ⟨(wrap64 (x5_1 + 1)), (by first | rfl | (simp; done) | (simp [*]; done)), H', ⟨by have := HK1.out; omega⟩, ⟨blk_x BK423.out⟩, ⟨by exact below_y HB.out⟩⟩
      ·
       replace c9 := Bool.eq_false_iff.mpr c9; subst c9; replace H : (some 3) = some r := ifn_x H; obtain rfl := Option.some.inj H; have p424 : 0 ≤ (x5_1 : Int) := of_x; have q424 : x5_1 < (l1.length : Int) := of_x; obtain ⟨ad424, e424, hx424_0⟩ := Kd.at_int HR1.out x5_1 p424 q424; (cases e424); replace hx424_0 := cell_x HB hx424_0; replace p424 := eq_true p424; replace q424 := eq_true q424; obtain ⟨hfz11_0, _, _, _, _, _, _, _⟩ := cf7 BK423
       go_wp2_with (first | (go_at_call 61; (with_reducible refine (swarfref07_between.calls (rd l1 x5_1) (-1) (wrap64 ((l0_3.length : Int) - 1)) false _ A8.out).mono ?_); rintro e w' ⟨rfl, ⟨nd, rfl⟩⟩; (try first | exact ⟨rfl, _, World.drewN_drewN _ _ _⟩ | exact ⟨rfl, _, Eq.trans (World.drewN_drewN _ _ _) (congrArg (World.drewN _) (Nat.add_assoc _ _ _))⟩)))
       repeat (go_quiet (first | (go_at_call 61; (with_reducible refine (swarfref07_between.calls (rd l1 x5_1) (-1) (wrap64 ((l0_3.length : Int) - 1)) false _ A8.out).mono ?_); rintro e w' ⟨rfl, ⟨nd, rfl⟩⟩; (try first | exact ⟨rfl, _, World.drewN_drewN _ _ _⟩ | exact ⟨rfl, _, Eq.trans (World.drewN_drewN _ _ _) (congrArg (World.drewN _) (Nat.add_assoc _ _ _))⟩))); try go_wp2_with (first | (go_at_call 61; (with_reducible refine (swarfref07_between.calls (rd l1 x5_1) (-1) (wrap64 ((l0_3.length : Int) - 1)) false _ A8.out).mono ?_); rintro e w' ⟨rfl, ⟨nd, rfl⟩⟩; (try first | exact ⟨rfl, _, World.drewN_drewN _ _ _⟩ | exact ⟨rfl, _, Eq.trans (World.drewN_drewN _ _ _) (congrArg (World.drewN _) (Nat.add_assoc _ _ _))⟩))))
       go_ret; exact rt_y HB
     ·
      rw [if_neg c7] at H; exact absurd H (by simp)
    ·
     rw [if_neg c6] at H; have c6b0 : decide (x5_1 < (l1.length : Int)) = false := decide_eq_false c6; clear c6; have H' := Aside0.mk H; clear H; go_wp2
     repeat (go_quiet (fail); try go_wp2)
     go_loopg [6] k1 (fun kq v6 w' => ∃ (x6_2 : Int), v6 = .int .i64 x6_2 ∧ Aside0 (swarfref07_stowed.l1 kq l1 x6_2 a0_0 a0_1 a0_2 l0_3 a0_4 l0_5 l0_6 = some r) ∧ Aside0 (kq ≤ k1) ∧ Aside0 (w'.heap[gb423]? = some (.cells #[.int .i64 a0_0, .int .i64 a0_1, .int .i64 a0_2, (.slice A0_3 l0_3.length c0_3), .int .i64 a0_4, (.slice A0_5 l0_5.length c0_5), (.slice A0_6 l0_6.length c0_6)] 26 (0, 0))) ∧ Aside0 (Below w.heap.size w w'))
     case atStart => exact ⟨(0), (by first | rfl | (simp; done) | (simp [*]; done)), H', ⟨Nat.le_refl _⟩, ⟨blk_x BK423.out⟩, ⟨by exact below_y HB.out⟩⟩
     case round =>
      clear H'; obtain ⟨x6_2, rfl, HA, HK2, BK423, HB⟩ := hrel; cases gk with
      | zero => exact absurd HA.out (by simp [swarfref07_stowed.l1])
      | succ k2 =>
       have H := HA.out; clear HA; simp only [swarfref07_stowed.l1] at H; by_cases c12 : x6_2 < (l0_3.length : Int)
       ·
        rw [if_pos c12] at H; have c12b0 : decide (x6_2 < (l0_3.length : Int)) = true := decide_eq_true c12; clear c12; have H' := Aside0.mk H; clear H; obtain ⟨hfz13_0, _, _, _, _, _, _, _⟩ := cf7 BK423; go_wp2
        repeat (go_quiet (fail); try go_wp2)
        go_loopg [7, 8] k2 (fun kq v7 v8 w' => ∃ (x7_3 : Int) (x8_3 : Int), v7 = .int .i64 x7_3 ∧ v8 = .int .i64 x8_3 ∧ Aside0 (swarfref07_stowed.l2 kq l1 x6_2 x7_3 x8_3 a0_0 a0_1 a0_2 l0_3 a0_4 l0_5 l0_6 = some r) ∧ Aside0 (kq ≤ k2) ∧ Aside0 (w'.heap[gb423]? = some (.cells #[.int .i64 a0_0, .int .i64 a0_1, .int .i64 a0_2, (.slice A0_3 l0_3.length c0_3), .int .i64 a0_4, (.slice A0_5 l0_5.length c0_5), (.slice A0_6 l0_6.length c0_6)] 26 (0, 0))) ∧ Aside0 (Below w.heap.size w w'))
        case atStart => exact ⟨(0), (0), (by first | rfl | (simp; done) | (simp [*]; done)), (by first | rfl | (simp; done) | (simp [*]; done)), H', ⟨Nat.le_refl _⟩, ⟨blk_x BK423.out⟩, ⟨by exact below_y HB.out⟩⟩
        case round =>
         clear H'; obtain ⟨x7_3, x8_3, rfl, rfl, HA, HK3, BK423, HB⟩ := hrel; cases gk with
         | zero => exact absurd HA.out (by simp [swarfref07_stowed.l2])
         | succ k3 =>
          have H := HA.out; clear HA; simp only [swarfref07_stowed.l2] at H; by_cases c14 : x8_3 < (l1.length : Int)
          ·
           rw [if_pos c14] at H; have c14b0 : decide (x8_3 < (l1.length : Int)) = true := decide_eq_true c14; clear c14; by_cases c15 : 0 ≤ x8_3
           ·
            rw [if_pos c15] at H; have c15b0 : decide (0 ≤ x8_3) = true := decide_eq_true c15; clear c15; by_cases c16 : (rd l1 x8_3) = x6_2
            ·
             rw [if_pos c16] at H; have c16b0 : ((rd l1 x8_3) == x6_2) = true := beq_iff_eq.mpr c16; have c16b1 : ((rd l1 x8_3) != x6_2) = false := bne_eq_false_iff_eq.mpr c16; clear c16; by_cases c17 : x8_3 < (l0_6.length : Int)
             ·
              rw [if_pos c17] at H; have c17b0 : decide (x8_3 < (l0_6.length : Int)) = true := decide_eq_true c17; clear c17; have H' := Aside0.mk H; clear H; have p426 : 0 ≤ (x8_3 : Int) := of_x; have q426 : x8_3 < (l1.length : Int) := of_x; obtain ⟨ad426, e426, hx426_0⟩ := Kd.at_int HR1.out x8_3 p426 q426; (cases e426); replace hx426_0 := cell_x HB hx426_0; replace p426 := eq_true p426; replace q426 := eq_true q426; obtain ⟨hfz18_0, _, _, _, _, _, _, _⟩ := cf7 BK423; have p427 : 0 ≤ (x8_3 : Int) := of_x; have q427 : x8_3 < (l0_6.length : Int) := of_x; obtain ⟨ad427, e427, hx427_0, hx427_1, hx427_2⟩ := at_T79 HR0_6.out x8_3 p427 q427; (cases e427); replace hx427_0 := cell_x HB hx427_0; replace hx427_1 := cell_x HB hx427_1; replace hx427_2 := cell_x HB hx427_2; replace p427 := eq_true p427; replace q427 := eq_true q427; go_wp2
              repeat (go_quiet (fail); try go_wp2)
              go_roundg k3
              case measure => have := HK1.out; have := HK2.out; have := HK3.out; omega
              case rel => exact ⟨(wrap64 (x7_3 + ((rd_T79 l0_6 x8_3).f0.f1))), (wrap64 (x8_3 + 1)), (by first | rfl | (simp; done) | (simp [*]; done)), (by first | rfl | (simp; done) | (simp [*]; done)), H', ⟨by have := HK1.out; have := HK2.out; have := HK3.out; omega⟩, ⟨blk_x BK423.out⟩, ⟨by exact below_y HB.out⟩⟩
             ·
              rw [if_neg c17] at H; exact absurd H (by simp)
            ·
             rw [if_neg c16] at H; have c16b0 : ((rd l1 x8_3) == x6_2) = false := beq_eq_false_iff_ne.mpr c16; have c16b1 : ((rd l1 x8_3) != x6_2) = true := bne_iff_ne.mpr c16; have H' := Aside0.mk H; clear H; have p426 : 0 ≤ (x8_3 : Int) := of_x; have q426 : x8_3 < (l1.length : Int) := of_x; obtain ⟨ad426, e426, hx426_0⟩ := Kd.at_int HR1.out x8_3 p426 q426; (cases e426); replace hx426_0 := cell_x HB hx426_0; replace p426 := eq_true p426; replace q426 := eq_true q426; go_wp2
             repeat (go_quiet (fail); try go_wp2)
             go_roundg k3
             case measure => have := HK1.out; have := HK2.out; have := HK3.out; omega
             case rel => exact ⟨(x7_3), (wrap64 (x8_3 + 1)), (by first | rfl | (simp; done) | (simp [*]; done)), (by first | rfl | (simp; done) | (simp [*]; done)), H', ⟨by have := HK1.out; have := HK2.out; have := HK3.out; omega⟩, ⟨blk_x BK423.out⟩, ⟨by exact below_y HB.out⟩⟩
           ·
            rw [if_neg c15] at H; exact absurd H (by simp)
          ·
           rw [if_neg c14] at H; have c14b0 : decide (x8_3 < (l1.length : Int)) = false := decide_eq_false c14; clear c14; by_cases c19 : 0 ≤ x6_2
           ·
            rw [if_pos c19] at H; have c19b0 : decide (0 ≤ x6_2) = true := decide_eq_true c19; clear c19; by_cases c20 : x6_2 < (l0_3.length : Int)
            ·
             rw [if_pos c20] at H; have c20b0 : decide (x6_2 < (l0_3.length : Int)) = true := decide_eq_true c20; clear c20; by_cases c21 : x7_3 > ((rd_T85 l0_3 x6_2).f0)
             ·
              rw [if_pos c21] at H; have c21b0 : decide (((rd_T85 l0_3 x6_2).f0) < x7_3) = true := decide_eq_true c21; clear c21; obtain rfl := Option.some.inj H; obtain ⟨hfz22_0, _, _, _, _, _, _, _⟩ := cf7 BK423; have p428 : 0 ≤ (x6_2 : Int) := of_x; have q428 : x6_2 < (l0_3.length : Int) := of_x; obtain ⟨ad428, e428, hx428_0, hx428_1, hx428_2⟩ := at_T85 HR0_3.out x6_2 p428 q428; (cases e428); replace hx428_0 := cell_x HB hx428_0; replace hx428_1 := cell_x HB hx428_1; replace hx428_2 := cell_x HB hx428_2; replace p428 := eq_true p428; replace q428 := eq_true q428; go_wp2
              repeat (go_quiet (fail); try go_wp2)
              go_ret; exact rt_y HB
             ·
              rw [if_neg c21] at H; have c21b0 : decide (((rd_T85 l0_3 x6_2).f0) < x7_3) = false := decide_eq_false c21; clear c21; have H' := Aside0.mk H; clear H; obtain ⟨hfz23_0, _, _, _, _, _, _, _⟩ := cf7 BK423; have p428 : 0 ≤ (x6_2 : Int) := of_x; have q428 : x6_2 < (l0_3.length : Int) := of_x; obtain ⟨ad428, e428, hx428_0, hx428_1, hx428_2⟩ := at_T85 HR0_3.out x6_2 p428 q428; (cases e428); replace hx428_0 := cell_x HB hx428_0; replace hx428_1 := cell_x HB hx428_1; replace hx428_2 := cell_x HB hx428_2; replace p428 := eq_true p428; replace q428 := eq_true q428; go_wp2
              repeat (go_quiet (fail); try go_wp2)
              go_roundg k3
              case measure => have := HK1.out; have := HK2.out; have := HK3.out; omega
              case rel => exact ⟨(wrap64 (x6_2 + 1)), (by first | rfl | (simp; done) | (simp [*]; done)), H', ⟨by have := HK1.out; have := HK2.out; have := HK3.out; omega⟩, ⟨blk_x BK423.out⟩, ⟨by exact below_y HB.out⟩⟩
            ·
             rw [if_neg c20] at H; exact absurd H (by simp)
           ·
            rw [if_neg c19] at H; exact absurd H (by simp)
       ·
        rw [if_neg c12] at H; have c12b0 : decide (x6_2 < (l0_3.length : Int)) = false := decide_eq_false c12; clear c12; obtain rfl := Option.some.inj H; obtain ⟨hfz24_0, _, _, _, _, _, _, _⟩ := cf7 BK423; go_wp2
        repeat (go_quiet (fail); try go_wp2)
        go_ret; exact rt_y HB
 ·
  rw [if_neg c3] at H; have c3b0 : ((l1.length : Int) == (l0_6.length : Int)) = false := beq_eq_false_iff_ne.mpr c3; have c3b1 : ((l1.length : Int) != (l0_6.length : Int)) = true := bne_iff_ne.mpr c3; (have c3b2 : (l1.length == l0_6.length) = false := by first | simpa using c3 | (simp at c3 ⊢; omega)); obtain rfl := Option.some.inj H; go_enter Try.func76, Try.ntmps76
  go_wp2_with (first | (refine box_r (N := 2) rfl (cs := #[.int .i64 a0_0, .int .i64 a0_1, .int .i64 a0_2, .slice A0_3 l0_3.length c0_3, .int .i64 a0_4, .slice A0_5 l0_5.length c0_5, .slice A0_6 l0_6.length c0_6]) (t := 26) ?_; intro gb423 hg w25 hbox hb; have BK423 := Aside0.mk (hbox); have GW423 := gw_x hg HB; have GE423 := GW423; replace HB := Aside0.mk (below_step (below_x HB.out) hb); clear hb hbox hg; obtain ⟨hfz26_0, _, _, _, _, _, _, _⟩ := cf7 BK423))
  repeat (go_quiet (first | (refine box_r (N := 2) rfl (cs := #[.int .i64 a0_0, .int .i64 a0_1, .int .i64 a0_2, .slice A0_3 l0_3.length c0_3, .int .i64 a0_4, .slice A0_5 l0_5.length c0_5, .slice A0_6 l0_6.length c0_6]) (t := 26) ?_; intro gb423 hg w25 hbox hb; have BK423 := Aside0.mk (hbox); have GW423 := gw_x hg HB; have GE423 := GW423; replace HB := Aside0.mk (below_step (below_x HB.out) hb); clear hb hbox hg; obtain ⟨hfz26_0, _, _, _, _, _, _, _⟩ := cf7 BK423)); try go_wp2_with (first | (refine box_r (N := 2) rfl (cs := #[.int .i64 a0_0, .int .i64 a0_1, .int .i64 a0_2, .slice A0_3 l0_3.length c0_3, .int .i64 a0_4, .slice A0_5 l0_5.length c0_5, .slice A0_6 l0_6.length c0_6]) (t := 26) ?_; intro gb423 hg w25 hbox hb; have BK423 := Aside0.mk (hbox); have GW423 := gw_x hg HB; have GE423 := GW423; replace HB := Aside0.mk (below_step (below_x HB.out) hb); clear hb hbox hg; obtain ⟨hfz26_0, _, _, _, _, _, _, _⟩ := cf7 BK423)))
  go_ret; exact rt_y HB
def swarfref07_CheckStowage.f (k : Nat) (a0_0 : Int) (a0_1 : Int) (a0_2 : Int) (l0_3 : List (S85)) (a0_4 : Int) (l0_5 : List (S59)) (l0_6 : List (S79)) (l1 : List Int) : Option (Int) := (swarfref07_Check.f k a0_0 a0_1 a0_2 l0_3 a0_4 l0_5 l0_6).bind fun t430 => (if t430 = 0 then ((swarfref07_stowed.f k a0_0 a0_1 a0_2 l0_3 a0_4 l0_5 l0_6 l1).bind fun t431 => (some t431)) else (some t430))
set_option maxHeartbeats 8000000 in
set_option maxRecDepth 100000 in
theorem swarfref07_CheckStowage.calls (k : Nat) (a0_0 : Int) (a0_1 : Int) (a0_2 : Int) (A0_3 : Option Addr) (c0_3 : Nat) (l0_3 : List (S85)) (a0_4 : Int) (A0_5 : Option Addr) (c0_5 : Nat) (l0_5 : List (S59)) (A0_6 : Option Addr) (c0_6 : Nat) (l0_6 : List (S79)) (A1 : Option Addr) (c1 : Nat) (l1 : List Int) (r : Int) (w : World) (hr0_3 : Kd.C k85 w A0_3 l0_3.length l0_3) (hc0_3 : l0_3.length ≤ c0_3) (hr0_5 : Kd.C k59 w A0_5 l0_5.length l0_5) (hc0_5 : l0_5.length ≤ c0_5) (hr0_6 : Kd.C k79 w A0_6 l0_6.length l0_6) (hc0_6 : l0_6.length ≤ c0_6) (hr1 : Kd.C (Kd.int .i64) w A1 l1.length l1) (hc1 : l1.length ≤ c1) (h : swarfref07_CheckStowage.f k a0_0 a0_1 a0_2 l0_3 a0_4 l0_5 l0_6 l1 = some r) :
  Calls Try.prog 41 #[.agg #[.int .i64 a0_0, .int .i64 a0_1, .int .i64 a0_2, .slice A0_3 l0_3.length c0_3, .int .i64 a0_4, .slice A0_5 l0_5.length c0_5, .slice A0_6 l0_6.length c0_6], .slice A1 l1.length c1] w fun e w' => e = .returned (.int .i64 r) ∧ Below w.heap.size w w' := by
 have hu26 := Try.underlying26
 have HR0_3 := Aside0.mk hr0_3
 have HC0_3 := Aside0.mk hc0_3
 clear hr0_3 hc0_3
 have HR0_5 := Aside0.mk hr0_5
 have HC0_5 := Aside0.mk hc0_5
 clear hr0_5 hc0_5
 have HR0_6 := Aside0.mk hr0_6
 have HC0_6 := Aside0.mk hc0_6
 clear hr0_6 hc0_6
 have HR1 := Aside0.mk hr1
 have HC1 := Aside0.mk hc1
 clear hr1 hc1
 have HB := Aside0.mk (Below.refl w.heap.size w)
 have H : ((swarfref07_Check.f k a0_0 a0_1 a0_2 l0_3 a0_4 l0_5 l0_6).bind fun t430 => (if t430 = 0 then ((swarfref07_stowed.f k a0_0 a0_1 a0_2 l0_3 a0_4 l0_5 l0_6 l1).bind fun t431 => (some t431)) else (some t430))) = some r := h
 clear h
 replace H := Option.bind_eq_some_iff.mp H
 obtain ⟨t430, A30, H⟩ := H
 try dsimp only at H
 have A3 := Aside0.mk A30
 clear A30
 by_cases c4 : t430 = 0
 ·
  rw [if_pos c4] at H; have c4b0 : (t430 == 0) = true := beq_iff_eq.mpr c4; have c4b1 : (t430 != 0) = false := bne_eq_false_iff_eq.mpr c4; clear c4; replace H := Option.bind_eq_some_iff.mp H; obtain ⟨t431, A50, H⟩ := H; replace H : (some t431) = some r := H; have A5 := Aside0.mk A50; clear A50; obtain rfl := Option.some.inj H; go_enter Try.func41, Try.ntmps41
  go_wp2_with (first | (refine box_r (N := 2) rfl (cs := #[.int .i64 a0_0, .int .i64 a0_1, .int .i64 a0_2, .slice A0_3 l0_3.length c0_3, .int .i64 a0_4, .slice A0_5 l0_5.length c0_5, .slice A0_6 l0_6.length c0_6]) (t := 26) ?_; intro gb429 hg w6 hbox hb; have BK429 := Aside0.mk (hbox); have GW429 := gw_x hg HB; have GE429 := GW429; replace HB := Aside0.mk (below_step (below_x HB.out) hb); clear hb hbox hg; obtain ⟨hfz7_0, _, _, _, _, _, _, _⟩ := cf7 BK429) | (refine goesG_x 27 rfl (some 7) Try.func27 #[.agg #[.int .i64 a0_0, .int .i64 a0_1, .int .i64 a0_2, .slice A0_3 l0_3.length c0_3, .int .i64 a0_4, .slice A0_5 l0_5.length c0_5, .slice A0_6 l0_6.length c0_6]] ?_; (with_reducible refine (swarfref07_Check.calls k a0_0 a0_1 a0_2 _ _ l0_3 a0_4 _ _ l0_5 _ _ l0_6 t430 _ ?side1 ?side2 ?side3 ?side4 ?side5 ?side6 A3.out).mono ?_); (case side1 => exact Kd.C_x HR0_3.out HB.out); (case side2 => exact HC0_3.out); (case side3 => exact Kd.C_x HR0_5.out HB.out); (case side4 => exact HC0_5.out); (case side5 => exact Kd.C_x HR0_6.out HB.out); (case side6 => exact HC0_6.out); rintro e w8 ⟨rfl, hb⟩; refine ⟨_, rfl, ?_⟩; replace BK429 := bk_x BK429 hb; replace HB := bl_x HB hb; (try clear hb); (try clear hk); (try clear hi); obtain ⟨hfz9_0, _, _, _, _, _, _, _⟩ := cf7 BK429) | (refine goesG_x 76 rfl (some 13) Try.func76 #[.agg #[.int .i64 a0_0, .int .i64 a0_1, .int .i64 a0_2, .slice A0_3 l0_3.length c0_3, .int .i64 a0_4, .slice A0_5 l0_5.length c0_5, .slice A0_6 l0_6.length c0_6], .slice A1 l1.length c1] ?_; (with_reducible refine (swarfref07_stowed.calls k a0_0 a0_1 a0_2 _ _ l0_3 a0_4 _ _ l0_5 _ _ l0_6 _ _ l1 t431 _ ?side1 ?side2 ?side3 ?side4 ?side5 ?side6 ?side7 ?side8 A5.out).mono ?_); (case side1 => exact Kd.C_x HR0_3.out HB.out); (case side2 => exact HC0_3.out); (case side3 => exact Kd.C_x HR0_5.out HB.out); (case side4 => exact HC0_5.out); (case side5 => exact Kd.C_x HR0_6.out HB.out); (case side6 => exact HC0_6.out); (case side7 => exact Kd.C_x HR1.out HB.out); (case side8 => exact HC1.out); rintro e w10 ⟨rfl, hb⟩; refine ⟨_, rfl, ?_⟩; replace BK429 := bk_x BK429 hb; replace HB := bl_x HB hb; (try clear hb); (try clear hk); (try clear hi)))
  go_ret; exact rt_y HB
 ·
  rw [if_neg c4] at H; have c4b0 : (t430 == 0) = false := beq_eq_false_iff_ne.mpr c4; have c4b1 : (t430 != 0) = true := bne_iff_ne.mpr c4; obtain rfl := Option.some.inj H; go_enter Try.func41, Try.ntmps41
  go_wp2_with (first | (refine box_r (N := 2) rfl (cs := #[.int .i64 a0_0, .int .i64 a0_1, .int .i64 a0_2, .slice A0_3 l0_3.length c0_3, .int .i64 a0_4, .slice A0_5 l0_5.length c0_5, .slice A0_6 l0_6.length c0_6]) (t := 26) ?_; intro gb429 hg w11 hbox hb; have BK429 := Aside0.mk (hbox); have GW429 := gw_x hg HB; have GE429 := GW429; replace HB := Aside0.mk (below_step (below_x HB.out) hb); clear hb hbox hg; obtain ⟨hfz12_0, _, _, _, _, _, _, _⟩ := cf7 BK429) | (refine goesG_x 27 rfl (some 7) Try.func27 #[.agg #[.int .i64 a0_0, .int .i64 a0_1, .int .i64 a0_2, .slice A0_3 l0_3.length c0_3, .int .i64 a0_4, .slice A0_5 l0_5.length c0_5, .slice A0_6 l0_6.length c0_6]] ?_; (with_reducible refine (swarfref07_Check.calls k a0_0 a0_1 a0_2 _ _ l0_3 a0_4 _ _ l0_5 _ _ l0_6 t430 _ ?side1 ?side2 ?side3 ?side4 ?side5 ?side6 A3.out).mono ?_); (case side1 => exact Kd.C_x HR0_3.out HB.out); (case side2 => exact HC0_3.out); (case side3 => exact Kd.C_x HR0_5.out HB.out); (case side4 => exact HC0_5.out); (case side5 => exact Kd.C_x HR0_6.out HB.out); (case side6 => exact HC0_6.out); rintro e w13 ⟨rfl, hb⟩; refine ⟨_, rfl, ?_⟩; replace BK429 := bk_x BK429 hb; replace HB := bl_x HB hb; (try clear hb); (try clear hk); (try clear hi)))
  go_ret; exact rt_y HB
end Go.Proofs.Ytodmemndaaiolaa.PC7
namespace Go.Proofs.Ytodmemndaaiolaa.PC7
set_option linter.unusedVariables false
set_option linter.unusedSimpArgs false
open Go.RowKit Go.Proofs.YtodmemndaaiolaaW.PrintWords Go.Proofs.YtodmemndaaiolaaW.PrintLast Go.Proofs.YtodmemndaaiolaaW.PrintMore
def anyE (n e : Int) : List Int → Int
  | [] => e
  | y :: r => if -1 ≤ y ∧ y ≤ n - 1 then anyE n e r else 3
def roomE (lots : List S79) (s : List Int) : Nat → List S85 → Int
  | _, [] => 0
  | h, x :: r => if used lots (h : Int) 0 s ≤ x.f0 then roomE lots s (h + 1) r else 13
def stowedE (holds : List S85) (lots : List S79) (s : List Int) : Int := if s.length = lots.length then anyE holds.length (roomE lots s 0 holds) s else 2
def TonOK (lots : List S79) : Prop := ∀ c, c ∈ lots → 0 ≤ c.f0.f1 ∧ c.f0.f1 ≤ 5000
def RoomB (holds : List S85) : Prop := ∀ h, h ∈ holds → 0 ≤ h.f0 ∧ h.f0 ≤ 5000
theorem shipRoom_l2 (L U R V : Int) (holds : List S85) (sills : List S59) (lots : List S79) (ho : TonOK lots) (s : List Int) (hs : s.length = lots.length) (hsl : s.length ≤ 1000) (h : Nat) (c0 : Int) (hn : Int) (X : Int)
    (hk : Ev (fun k => ship_checkStowage.l1 k s holds hn (wrap64 ((h : Int) + 1)) L U R holds V sills lots) X) (d : Nat) :
    ∀ (i : Nat) (c : Int), i + d = s.length → c - used lots h i (s.drop i) = c0 - used lots h 0 s → -5000000 - 5000 * (i : Int) ≤ c ∧ c ≤ 5000000 → Ev (fun k => ship_checkStowage.l2 k s (h : Int) c holds hn (h : Int) s (s.length : Int) (i : Int) L U R holds V sills lots) (if used lots h 0 s ≤ c0 then X else 13) := by
  induction d with
  | zero =>
    intro i c hi he hb
    refine Ev.succ ?_
    rw [List.drop_of_length_le (by omega)] at he
    simp only [used] at he
    simp (disch := omega) only [ship_checkStowage.l2, if_neg]
    by_cases hc : c < 0
    · rw [if_neg (show ¬ used lots h 0 s ≤ c0 by omega)]; simp only [if_pos hc]; exact Ev.now _
    · rw [if_pos (show used lots h 0 s ≤ c0 by omega)]; simp only [if_neg hc]; exact hk
  | succ d ih =>
    intro i c hi he hb
    have hlt : i < s.length := by omega
    obtain ⟨b1, b2⟩ := ho _ (getD_mem lots i z79 (by omega))
    rw [List.drop_eq_getElem_cons hlt, ← getD_get s i 0 hlt] at he
    simp only [used] at he
    refine Ev.succ ?_
    simp (disch := omega) only [ship_checkStowage.l2, if_pos, rdI, rd79]
    rw [wrapS (by omega)]
    by_cases e : s.getD i 0 = (h : Int)
    · simp only [if_pos e] at he ⊢
      rw [wrap64_id (by omega) (by omega)]
      exact ih (i + 1) _ (by omega) (by omega) (by omega)
    · simp only [if_neg e] at he ⊢
      exact ih (i + 1) _ (by omega) (by omega) (by omega)
theorem shipRoom_l1 (L U R V : Int) (holds : List S85) (sills : List S59) (lots : List S79) (ho : TonOK lots) (hd : RoomB holds) (hh : holds.length ≤ 1000) (s : List Int) (hs : s.length = lots.length) (hsl : s.length ≤ 1000) (d : Nat) :
    ∀ i : Nat, i + d = holds.length → Ev (fun k => ship_checkStowage.l1 k s holds (holds.length : Int) (i : Int) L U R holds V sills lots) (roomE lots s i (holds.drop i)) := by
  induction d with
  | zero =>
    intro i hi
    refine Ev.succ ?_
    rw [List.drop_eq_nil_of_le (by omega)]
    simp (disch := omega) only [ship_checkStowage.l1, if_neg, roomE]
    exact Ev.now _
  | succ d ih =>
    intro i hi
    obtain ⟨b1, b2⟩ := hd _ (getD_mem holds i z85 (by omega))
    rw [drop_cons_of holds i (by omega) z85]
    refine Ev.succ ?_
    simp (disch := omega) only [ship_checkStowage.l1, if_pos, rd85, roomE]
    refine shipRoom_l2 L U R V holds sills lots ho s hs hsl i _ _ _ ?_ s.length 0 _ (by omega) (by rw [List.drop_zero]) (by omega)
    rw [wrapS (by omega)]
    exact ih (i + 1) (by omega)
theorem shipAny_l0 (L U R V : Int) (holds : List S85) (sills : List S59) (lots : List S79) (ho : TonOK lots) (hd : RoomB holds) (hh : holds.length ≤ 1000) (s : List Int) (hs : s.length = lots.length) (hsl : s.length ≤ 1000) (d : Nat) :
    ∀ i : Nat, i + d = s.length → Ev (fun k => ship_checkStowage.l0 k s s (s.length : Int) (i : Int) L U R holds V sills lots) (anyE holds.length (roomE lots s 0 holds) (s.drop i)) := by
  induction d with
  | zero =>
    intro i hi
    refine Ev.succ ?_
    rw [List.drop_eq_nil_of_le (by omega)]
    simp (disch := omega) only [ship_checkStowage.l0, if_neg, anyE]
    exact shipRoom_l1 L U R V holds sills lots ho hd hh s hs hsl holds.length 0 (by omega)
  | succ d ih =>
    intro i hi
    rw [drop_cons_of s i (by omega) 0]
    refine Ev.succ ?_
    simp (disch := omega) only [ship_checkStowage.l0, if_pos, rdI, in_e, Option.bind_some, decide_eq_true_eq, anyE]
    rw [wrap64_id (n := (holds.length : Int) - 1) (by omega) (by omega)]
    by_cases h : -1 ≤ s.getD i 0 ∧ s.getD i 0 ≤ (holds.length : Int) - 1
    · simp only [if_pos h]; rw [wrapS (by omega)]; exact ih (i + 1) (by omega)
    · simp only [if_neg h]; exact Ev.now _
theorem refRoom_l2 (L U R V : Int) (holds : List S85) (sills : List S59) (lots : List S79) (ho : TonOK lots) (s : List Int) (hs : s.length = lots.length) (hsl : s.length ≤ 1000) (h : Nat) (hh : h < holds.length) (X : Int)
    (hk : Ev (fun k => swarfref07_stowed.l1 k s (wrap64 ((h : Int) + 1)) L U R holds V sills lots) X) (d : Nat) :
    ∀ (i : Nat) (c : Int), i + d = s.length → c + used lots h i (s.drop i) = used lots h 0 s → 0 ≤ c ∧ c ≤ 5000 * (i : Int) → Ev (fun k => swarfref07_stowed.l2 k s (h : Int) c (i : Int) L U R holds V sills lots) (if used lots h 0 s ≤ (holds.getD h z85).f0 then X else 13) := by
  induction d with
  | zero =>
    intro i c hi he hb
    refine Ev.succ ?_
    rw [List.drop_of_length_le (by omega)] at he
    simp only [used] at he
    simp (disch := omega) only [swarfref07_stowed.l2, if_neg, if_pos, rd85]
    by_cases hc : c > (holds.getD h z85).f0
    · rw [if_neg (show ¬ used lots h 0 s ≤ (holds.getD h z85).f0 by omega)]; simp only [if_pos hc]; exact Ev.now _
    · rw [if_pos (show used lots h 0 s ≤ (holds.getD h z85).f0 by omega)]; simp only [if_neg hc]; exact hk
  | succ d ih =>
    intro i c hi he hb
    have hlt : i < s.length := by omega
    obtain ⟨b1, b2⟩ := ho _ (getD_mem lots i z79 (by omega))
    rw [List.drop_eq_getElem_cons hlt, ← getD_get s i 0 hlt] at he
    simp only [used] at he
    refine Ev.succ ?_
    simp (disch := omega) only [swarfref07_stowed.l2, if_pos, rdI, rd79]
    rw [wrapS (by omega)]
    by_cases e : s.getD i 0 = (h : Int)
    · simp only [if_pos e] at he ⊢
      rw [wrap64_id (by omega) (by omega)]
      exact ih (i + 1) _ (by omega) (by omega) (by omega)
    · simp only [if_neg e] at he ⊢
      exact ih (i + 1) _ (by omega) (by omega) (by omega)
theorem refRoom_l1 (L U R V : Int) (holds : List S85) (sills : List S59) (lots : List S79) (ho : TonOK lots) (hh : holds.length ≤ 1000) (s : List Int) (hs : s.length = lots.length) (hsl : s.length ≤ 1000) (d : Nat) :
    ∀ i : Nat, i + d = holds.length → Ev (fun k => swarfref07_stowed.l1 k s (i : Int) L U R holds V sills lots) (roomE lots s i (holds.drop i)) := by
  induction d with
  | zero =>
    intro i hi
    refine Ev.succ ?_
    rw [List.drop_eq_nil_of_le (by omega)]
    simp (disch := omega) only [swarfref07_stowed.l1, if_neg, roomE]
    exact Ev.now _
  | succ d ih =>
    intro i hi
    rw [drop_cons_of holds i (by omega) z85]
    refine Ev.succ ?_
    simp (disch := omega) only [swarfref07_stowed.l1, if_pos, roomE]
    refine refRoom_l2 L U R V holds sills lots ho s hs hsl i (by omega) _ ?_ s.length 0 0 (by omega) (by rw [List.drop_zero]; omega) (by omega)
    rw [wrapS (by omega)]
    exact ih (i + 1) (by omega)
theorem refAny_l0 (L U R V : Int) (holds : List S85) (sills : List S59) (lots : List S79) (ho : TonOK lots) (hh : holds.length ≤ 1000) (s : List Int) (hs : s.length = lots.length) (hsl : s.length ≤ 1000) (d : Nat) :
    ∀ i : Nat, i + d = s.length → Ev (fun k => swarfref07_stowed.l0 k s (i : Int) L U R holds V sills lots) (anyE holds.length (roomE lots s 0 holds) (s.drop i)) := by
  induction d with
  | zero =>
    intro i hi
    refine Ev.succ ?_
    rw [List.drop_eq_nil_of_le (by omega)]
    simp (disch := omega) only [swarfref07_stowed.l0, if_neg, anyE]
    exact refRoom_l1 L U R V holds sills lots ho hh s hs hsl holds.length 0 (by omega)
  | succ d ih =>
    intro i hi
    rw [drop_cons_of s i (by omega) 0]
    refine Ev.succ ?_
    simp (disch := omega) only [swarfref07_stowed.l0, if_pos, rdI, between_e, Option.bind_some, decide_eq_true_eq, anyE]
    rw [wrap64_id (n := (holds.length : Int) - 1) (by omega) (by omega)]
    by_cases h : -1 ≤ s.getD i 0 ∧ s.getD i 0 ≤ (holds.length : Int) - 1
    · simp only [if_pos h]; rw [wrapS (by omega)]; exact ih (i + 1) (by omega)
    · simp only [if_neg h]; exact Ev.now _
theorem shipStowed_ev (L U R V : Int) (holds : List S85) (sills : List S59) (lots : List S79) (ho : TonOK lots) (hd : RoomB holds) (hh : holds.length ≤ 1000) (s : List Int) (hsl : s.length ≤ 1000) : Ev (fun k => ship_checkStowage.f k L U R holds V sills lots s) (stowedE holds lots s) := by
  unfold ship_checkStowage.f stowedE
  by_cases h : s.length = lots.length
  · simp (disch := omega) only [if_pos]; exact shipAny_l0 L U R V holds sills lots ho hd hh s h hsl s.length 0 (by omega)
  · simp (disch := omega) only [if_neg]; exact Ev.now _
theorem refStowed_ev (L U R V : Int) (holds : List S85) (sills : List S59) (lots : List S79) (ho : TonOK lots) (hh : holds.length ≤ 1000) (s : List Int) (hsl : s.length ≤ 1000) : Ev (fun k => swarfref07_stowed.f k L U R holds V sills lots s) (stowedE holds lots s) := by
  unfold swarfref07_stowed.f stowedE
  by_cases h : s.length = lots.length
  · simp (disch := omega) only [if_pos]; exact refAny_l0 L U R V holds sills lots ho hh s h hsl s.length 0 (by omega)
  · simp (disch := omega) only [if_neg]; exact Ev.now _
def stowingE (L U R : Int) (holds : List S85) (V : Int) (sills : List S59) (lots : List S79) (s : List Int) : Int := if checkE L U R holds V sills lots = 0 then stowedE holds lots s else checkE L U R holds V sills lots
structure Narrow (holds : List S85) (sills : List S59) (lots : List S79) : Prop where
  h : holds.length ≤ 1000
  s : sills.length ≤ 1000
  n : ∀ s, s ∈ sills → s.f1.length ≤ 1000
  l : lots.length ≤ 1000
theorem shipCS_ev {L U R V : Int} {holds : List S85} {sills : List S59} {lots : List S79} (hn : Narrow holds sills lots) (s : List Int) (hsl : s.length ≤ 1000) : Ev (fun k => ship_CheckStowage.f k L U R holds V sills lots s) (stowingE L U R holds V sills lots s) := by
  unfold ship_CheckStowage.f stowingE
  refine Ev.bind (shipCheck_ev L U R V holds sills lots hn.h hn.s hn.n hn.l) ?_
  by_cases h : checkE L U R holds V sills lots = 0
  · have hv := valid_of h
    simp only [if_pos h]
    exact Ev.tail (shipStowed_ev L U R V holds sills lots (fun c hc => by have := hv.lo c hc; omega) (fun x hx => (hv.ho x hx).1) hn.h s hsl)
  · simp only [if_neg h]; exact Ev.now _
theorem refCS_ev {L U R V : Int} {holds : List S85} {sills : List S59} {lots : List S79} (hn : Narrow holds sills lots) (s : List Int) (hsl : s.length ≤ 1000) : Ev (fun k => swarfref07_CheckStowage.f k L U R holds V sills lots s) (stowingE L U R holds V sills lots s) := by
  unfold swarfref07_CheckStowage.f stowingE
  refine Ev.bind (refCheck_ev L U R V holds sills lots hn.h hn.s hn.n hn.l) ?_
  by_cases h : checkE L U R holds V sills lots = 0
  · have hv := valid_of h
    simp only [if_pos h]
    exact Ev.tail (refStowed_ev L U R V holds sills lots (fun c hc => by have := hv.lo c hc; omega) hn.h s hsl)
  · simp only [if_neg h]; exact Ev.now _
theorem anyE_zero (n e : Int) : ∀ s : List Int, anyE n e s = 0 → e = 0 ∧ ∀ y, y ∈ s → -1 ≤ y ∧ y < n
  | [], h => ⟨h, fun y hy => by cases hy⟩
  | y :: r, h => by
    simp only [anyE] at h
    by_cases h1 : -1 ≤ y ∧ y ≤ n - 1
    · rw [if_pos h1] at h
      obtain ⟨a, b⟩ := anyE_zero n e r h
      refine ⟨a, fun x hx => ?_⟩
      rcases List.mem_cons.1 hx with rfl | hx
      · omega
      · exact b x hx
    · rw [if_neg h1] at h; cases h
theorem stowing_zero {L U R V : Int} {holds : List S85} {sills : List S59} {lots : List S79} {s : List Int} (h : stowingE L U R holds V sills lots s = 0) : Valid L U R holds V sills lots ∧ s.length = lots.length ∧ ∀ y, y ∈ s → -1 ≤ y ∧ y < (holds.length : Int) := by
  unfold stowingE at h
  by_cases h1 : checkE L U R holds V sills lots = 0
  · rw [if_pos h1] at h
    unfold stowedE at h
    by_cases h2 : s.length = lots.length
    · rw [if_pos h2] at h
      exact ⟨valid_of h1, h2, (anyE_zero _ _ s h).2⟩
    · rw [if_neg h2] at h; cases h
  · rw [if_neg h1] at h; exact absurd h h1
end Go.Proofs.Ytodmemndaaiolaa.PC7
namespace Go.Proofs.Ytodmemndaaiolaa.PC7
open Go.RowKit Go.Proofs.YtodmemndaaiolaaW.PrintWords Go.Proofs.YtodmemndaaiolaaW.PrintLast Go.Proofs.YtodmemndaaiolaaW.PrintMore
attribute [local go_sem] max2_int min2_int max_two min_two max_three min_three max_four min_four
set_option linter.unusedVariables false
set_option linter.unusedSimpArgs false
def swarfref07_Ends.l0 : Nat → List Int → List Int → Int → Int → Int → Int → Int → Int → List (S85) → Int → List (S59) → List (S79) → Option (Int × Int)
 | 0, _, _, _, _, _, _, _, _, _, _, _, _ => none
 | k + 1, x1, x2, x8, x9, x10, x433000, x433001, x433002, x433003, x433004, x433005, x433006 => if x10 < (x1.length : Int) then (if 0 ≤ x10 then (if (rd x1 x10) ≥ 0 then (if 0 ≤ (rd x1 x10) then (if (rd x1 x10) < (x433003.length : Int) then (if x10 < (x2.length : Int) then (swarfref07_Ends.l0 k x1 x2 (wrap64 (x8 + (wrap64 ((rd x2 x10) * ((rd_T85 x433003 (rd x1 x10)).f1))))) (wrap64 (x9 + (wrap64 ((rd x2 x10) * ((rd_T85 x433003 (rd x1 x10)).f2))))) (wrap64 (x10 + 1)) x433000 x433001 x433002 x433003 x433004 x433005 x433006) else (none)) else (none)) else (none)) else (swarfref07_Ends.l0 k x1 x2 x8 x9 (wrap64 (x10 + 1)) x433000 x433001 x433002 x433003 x433004 x433005 x433006)) else (none)) else (some (x8, x9))
def swarfref07_Ends.f (k : Nat) (a0_0 : Int) (a0_1 : Int) (a0_2 : Int) (l0_3 : List (S85)) (a0_4 : Int) (l0_5 : List (S59)) (l0_6 : List (S79)) (l1 : List Int) (l2 : List Int) : Option (Int × Int) := swarfref07_Ends.l0 k l1 l2 (wrap64 (1000 * a0_0)) (wrap64 (1000 * a0_0)) 0 a0_0 a0_1 a0_2 l0_3 a0_4 l0_5 l0_6
def swarfref07_Ends.T1 : Bool × List (List Nat × List Nat) := (true, [([], []), ([0], [0]), ([1], [1]), ([], []), ([3], [3]), ([4], [4]), ([2, 0, 1, 2], [2]), ([5, 6, 0, 1, 2, 3, 4, 5, 6], [5])])
def swarfref07_Ends.B1 : List Nat := [0, 1, 3, 0, 8, 24, 7, 127]
theorem swarfref07_Ends.tab1 : rtab .any (opsOf Try.f85 1) = swarfref07_Ends.T1 := by kernel_rfl
theorem swarfref07_Ends.bits1 : waitsOk swarfref07_Ends.T1.2 swarfref07_Ends.B1 = true := by kernel_rfl
def swarfref07_Ends.T6 : Bool × List (List Nat × List Nat) := (true, [([], []), ([0], [0]), ([], []), ([], []), ([2, 3], [2, 3]), ([4], [4]), ([1, 5], [1, 5]), ([6], [6]), ([], []), ([8, 7, 0, 1, 2, 3, 4, 5, 6, 7, 8], [7, 8])])
def swarfref07_Ends.B6 : List Nat := [0, 1, 0, 0, 12, 28, 63, 127, 0, 511]
theorem swarfref07_Ends.tab6 : rtab .any (opsOf Try.f85 6) = swarfref07_Ends.T6 := by kernel_rfl
theorem swarfref07_Ends.bits6 : waitsOk swarfref07_Ends.T6.2 swarfref07_Ends.B6 = true := by kernel_rfl
def swarfref07_Ends.T7 : Bool × List (List Nat × List Nat) := (true, [([], []), ([], []), ([], []), ([1, 2], [1, 2]), ([3], [3]), ([], []), ([5], [5]), ([4, 6], [4, 6]), ([0, 7], [0, 7]), ([], []), ([], []), ([], []), ([10, 11], [10, 11]), ([12], [12]), ([], []), ([14], [14]), ([13, 15], [13, 15]), ([9, 16], [9, 16]), ([8, 0, 1, 2, 3, 4, 5, 6, 7, 8], [0, 8]), ([17, 18, 0, 1, 2, 3, 4, 5, 6, 7, 8, 9, 10, 11, 12, 13, 14, 15, 16, 17, 18], [9, 17])])
def swarfref07_Ends.B7 : List Nat := [0, 0, 0, 6, 14, 0, 32, 126, 255, 0, 0, 0, 3072, 7168, 0, 16384, 64512, 130560, 511, 524287]
theorem swarfref07_Ends.tab7 : rtab .any (opsOf Try.f85 7) = swarfref07_Ends.T7 := by kernel_rfl
theorem swarfref07_Ends.bits7 : waitsOk swarfref07_Ends.T7.2 swarfref07_Ends.B7 = true := by kernel_rfl
set_option maxHeartbeats 8000000 in
set_option maxRecDepth 100000 in
theorem swarfref07_Ends.calls (k : Nat) (a0_0 : Int) (a0_1 : Int) (a0_2 : Int) (A0_3 : Option Addr) (c0_3 : Nat) (l0_3 : List (S85)) (a0_4 : Int) (A0_5 : Option Addr) (c0_5 : Nat) (l0_5 : List (S59)) (A0_6 : Option Addr) (c0_6 : Nat) (l0_6 : List (S79)) (A1 : Option Addr) (c1 : Nat) (l1 : List Int) (A2 : Option Addr) (c2 : Nat) (l2 : List Int) (r1 : Int) (r2 : Int) (w : World) (hr0_3 : Kd.C k85 w A0_3 l0_3.length l0_3) (hc0_3 : l0_3.length ≤ c0_3) (hr0_5 : Kd.C k59 w A0_5 l0_5.length l0_5) (hc0_5 : l0_5.length ≤ c0_5) (hr0_6 : Kd.C k79 w A0_6 l0_6.length l0_6) (hc0_6 : l0_6.length ≤ c0_6) (hr1 : Kd.C (Kd.int .i64) w A1 l1.length l1) (hc1 : l1.length ≤ c1) (hr2 : Kd.C (Kd.int .i64) w A2 l2.length l2) (hc2 : l2.length ≤ c2) (h : swarfref07_Ends.f k a0_0 a0_1 a0_2 l0_3 a0_4 l0_5 l0_6 l1 l2 = some (r1, r2)) :
  Calls Try.prog 85 #[.agg #[.int .i64 a0_0, .int .i64 a0_1, .int .i64 a0_2, .slice A0_3 l0_3.length c0_3, .int .i64 a0_4, .slice A0_5 l0_5.length c0_5, .slice A0_6 l0_6.length c0_6], .slice A1 l1.length c1, .slice A2 l2.length c2] w fun e w' => e = .returned (.tuple #[.int .i64 r1, .int .i64 r2]) ∧ Below w.heap.size w w' := by
 have hu26 := Try.underlying26
 have hu85 := Try.underlying85
 have HR0_3 := Aside0.mk hr0_3
 have HC0_3 := Aside0.mk hc0_3
 clear hr0_3 hc0_3
 have HR0_5 := Aside0.mk hr0_5
 have HC0_5 := Aside0.mk hc0_5
 clear hr0_5 hc0_5
 have HR0_6 := Aside0.mk hr0_6
 have HC0_6 := Aside0.mk hc0_6
 clear hr0_6 hc0_6
 have HR1 := Aside0.mk hr1
 have HC1 := Aside0.mk hc1
 clear hr1 hc1
 have HR2 := Aside0.mk hr2
 have HC2 := Aside0.mk hc2
 clear hr2 hc2
 have HB := Aside0.mk (Below.refl w.heap.size w)
 have H : (swarfref07_Ends.l0 k l1 l2 (wrap64 (1000 * a0_0)) (wrap64 (1000 * a0_0)) 0 a0_0 a0_1 a0_2 l0_3 a0_4 l0_5 l0_6) = some (r1, r2) := h
 clear h
 have H' := Aside0.mk H
 clear H
 go_enter Try.func85, Try.ntmps85
 try go_wp2_with (first | (refine box_r (N := 3) rfl (cs := #[.int .i64 a0_0, .int .i64 a0_1, .int .i64 a0_2, .slice A0_3 l0_3.length c0_3, .int .i64 a0_4, .slice A0_5 l0_5.length c0_5, .slice A0_6 l0_6.length c0_6]) (t := 26) ?_; intro gb432 hg w4 hbox hb; have BK432 := Aside0.mk (hbox); have GW432 := gw_x hg HB; have GE432 := GW432; replace HB := Aside0.mk (below_step (below_x HB.out) hb); clear hb hbox hg))
 replace BK432 := Aside0.mk (blk_drew BK432.out)
 replace HB := Aside0.mk (below_drew1 HB.out)
 refine start_ (n := 8) (S := fun w' => w'.cell? ⟨gb432, 0, none⟩ = some (.int .i64 a0_0) ∧ w'.cell? ⟨gb432, 1, none⟩ = some (.int .i64 a0_1) ∧ w'.cell? ⟨gb432, 2, none⟩ = some (.int .i64 a0_2) ∧ w'.cell? ⟨gb432, 3, none⟩ = some (.slice A0_3 l0_3.length c0_3) ∧ w'.cell? ⟨gb432, 4, none⟩ = some (.int .i64 a0_4) ∧ w'.cell? ⟨gb432, 5, none⟩ = some (.slice A0_5 l0_5.length c0_5) ∧ w'.cell? ⟨gb432, 6, none⟩ = some (.slice A0_6 l0_6.length c0_6)) (ds := []) #[false, false, false, false, false, false, false, false] (by kernel_rfl) rfl rfl ⟨(blk_cell BK432.out 0).trans rfl, (blk_cell BK432.out 1).trans rfl, (blk_cell BK432.out 2).trans rfl, (blk_cell BK432.out 3).trans rfl, (blk_cell BK432.out 4).trans rfl, (blk_cell BK432.out 5).trans rfl, (blk_cell BK432.out 6).trans rfl⟩ (fun hHeld => ?_); refine with_tabW swarfref07_Ends.tab1 swarfref07_Ends.bits1 (fun HT_ HW_ => ?_)
 generalize w4.drew = w5 at BK432 HB hHeld ⊢
 refine pure_t 0 (some 12) (bz 8 1) HT_ ?_
 refine pure_t 3 (some 15) (bz 8 9) HT_ ?_
 refine take_t 1 (some 13) (bz 8 11) HT_ HW_ hHeld ?_
 refine pure_t 2 (some 14) (bz 8 15) HT_ ?_
 refine pure_t 6 (some 8) (bz 8 79) HT_ ?_
 refine take_t 4 (some 16) (bz 8 95) HT_ HW_ hHeld ?_
 refine pure_t 5 (some 17) (bz 8 127) HT_ ?_
 refine pure_t 7 (some 9) (bz 8 255) HT_ ?_
 refine done_ (done_of HT_.out (by kernel_rfl)) ?_
 try go_wp2
 go_loopg [8, 9, 10] k (fun kq v8 v9 v10 w' => ∃ (x8_1 : Int) (x9_1 : Int) (x10_1 : Int), v8 = .int .i64 x8_1 ∧ v9 = .int .i64 x9_1 ∧ v10 = .int .i64 x10_1 ∧ Aside0 (swarfref07_Ends.l0 kq l1 l2 x8_1 x9_1 x10_1 a0_0 a0_1 a0_2 l0_3 a0_4 l0_5 l0_6 = some (r1, r2)) ∧ Aside0 (kq ≤ k) ∧ Aside0 (w'.heap[gb432]? = some (.cells #[.int .i64 a0_0, .int .i64 a0_1, .int .i64 a0_2, (.slice A0_3 l0_3.length c0_3), .int .i64 a0_4, (.slice A0_5 l0_5.length c0_5), (.slice A0_6 l0_6.length c0_6)] 26 (0, 0))) ∧ Aside0 (Below w.heap.size w w'))
 case atStart => exact ⟨(wrap64 (1000 * a0_0)), (wrap64 (1000 * a0_0)), (0), (by first | rfl | (simp; done) | (simp [*]; done)), (by first | rfl | (simp; done) | (simp [*]; done)), (by first | rfl | (simp; done) | (simp [*]; done)), H', ⟨Nat.le_refl _⟩, ⟨blk_x BK432.out⟩, ⟨by exact below_y HB.out⟩⟩
 case round =>
  clear H'; obtain ⟨x8_1, x9_1, x10_1, rfl, rfl, rfl, HA, HK1, BK432, HB⟩ := hrel; cases gk with
  | zero => exact absurd HA.out (by simp [swarfref07_Ends.l0])
  | succ k1 =>
   have H := HA.out; clear HA; simp only [swarfref07_Ends.l0] at H; by_cases c6 : x10_1 < (l1.length : Int)
   ·
    rw [if_pos c6] at H; have c6b0 : decide (x10_1 < (l1.length : Int)) = true := decide_eq_true c6; clear c6; by_cases c7 : 0 ≤ x10_1
    ·
     rw [if_pos c7] at H; have c7b0 : decide (0 ≤ x10_1) = true := decide_eq_true c7; clear c7; by_cases c8 : (rd l1 x10_1) ≥ 0
     ·
      rw [if_pos c8] at H; have c8b0 : decide (0 ≤ (rd l1 x10_1)) = true := decide_eq_true c8; clear c8; by_cases c9 : 0 ≤ (rd l1 x10_1)
      ·
       rw [if_pos c9] at H; have c9b0 : decide (0 ≤ (rd l1 x10_1)) = true := decide_eq_true c9; clear c9; by_cases c10 : (rd l1 x10_1) < (l0_3.length : Int)
       ·
        rw [if_pos c10] at H; have c10b0 : decide ((rd l1 x10_1) < (l0_3.length : Int)) = true := decide_eq_true c10; clear c10; by_cases c11 : x10_1 < (l2.length : Int)
        ·
         rw [if_pos c11] at H; have c11b0 : decide (x10_1 < (l2.length : Int)) = true := decide_eq_true c11; clear c11; have H' := Aside0.mk H; clear H; have p433 : 0 ≤ (x10_1 : Int) := of_x; have q433 : x10_1 < (l1.length : Int) := of_x; obtain ⟨ad433, e433, hx433_0⟩ := Kd.at_int HR1.out x10_1 p433 q433; (cases e433); replace hx433_0 := cell_x HB hx433_0; replace p433 := eq_true p433; replace q433 := eq_true q433
         try go_wp2
         replace BK432 := Aside0.mk (blk_drew BK432.out); replace HB := Aside0.mk (below_drew1 HB.out); have p434 : 0 ≤ (x10_1 : Int) := of_x; have q434 : x10_1 < (l1.length : Int) := of_x; obtain ⟨ad434, e434, hx434_0⟩ := Kd.at_int HR1.out x10_1 p434 q434; have hw434_0 := hx434_0; obtain rfl : ad433 = ad434 := (by injection e434); replace hx434_0 := cell_x HB hx434_0; replace p434 := eq_true p434; replace q434 := eq_true q434; have p435 : 0 ≤ ((rd l1 x10_1) : Int) := of_x; have q435 : (rd l1 x10_1) < (l0_3.length : Int) := of_x; obtain ⟨ad435, e435, hx435_0, hx435_1, hx435_2⟩ := at_T85 HR0_3.out (rd l1 x10_1) p435 q435; have hw435_2 := hx435_2; have hw435_1 := hx435_1; have hw435_0 := hx435_0; (cases e435); replace hx435_0 := cell_x HB hx435_0; replace hx435_1 := cell_x HB hx435_1; replace hx435_2 := cell_x HB hx435_2; replace p435 := eq_true p435; replace q435 := eq_true q435; refine start_ (n := 10) (S := fun w' => w'.cell? ⟨gb432, 0, none⟩ = some (.int .i64 a0_0) ∧ w'.cell? ⟨gb432, 1, none⟩ = some (.int .i64 a0_1) ∧ w'.cell? ⟨gb432, 2, none⟩ = some (.int .i64 a0_2) ∧ w'.cell? ⟨gb432, 3, none⟩ = some (.slice (some ad435) l0_3.length c0_3) ∧ w'.cell? ⟨gb432, 4, none⟩ = some (.int .i64 a0_4) ∧ w'.cell? ⟨gb432, 5, none⟩ = some (.slice A0_5 l0_5.length c0_5) ∧ w'.cell? ⟨gb432, 6, none⟩ = some (.slice A0_6 l0_6.length c0_6) ∧ w'.cell? (ad433.add (x10_1).toNat) = some (.int .i64 (rd l1 x10_1)) ∧ w'.cell? (ad435.add (((rd l1 x10_1)).toNat * 3)) = some (.int .i64 ((rd_T85 l0_3 (rd l1 x10_1)).f0)) ∧ w'.cell? ⟨(ad435.add (((rd l1 x10_1)).toNat * 3)).block, (ad435.add (((rd l1 x10_1)).toNat * 3)).off + 1, none⟩ = some (.int .i64 ((rd_T85 l0_3 (rd l1 x10_1)).f1)) ∧ w'.cell? ⟨(ad435.add (((rd l1 x10_1)).toNat * 3)).block, (ad435.add (((rd l1 x10_1)).toNat * 3)).off + 2, none⟩ = some (.int .i64 ((rd_T85 l0_3 (rd l1 x10_1)).f2))) (ds := []) #[false, false, false, false, false, false, false, false, false, false] (by kernel_rfl) rfl rfl ⟨(blk_cell BK432.out 0).trans rfl, (blk_cell BK432.out 1).trans rfl, (blk_cell BK432.out 2).trans rfl, (blk_cell BK432.out 3).trans rfl, (blk_cell BK432.out 4).trans rfl, (blk_cell BK432.out 5).trans rfl, (blk_cell BK432.out 6).trans rfl, ((HB.out.cell (World.block_lt_of_cell? w _ hw434_0)).trans hw434_0), ((HB.out.cell (World.block_lt_of_cell? w _ hw435_0)).trans hw435_0), ((HB.out.cell (World.block_lt_of_cell? w _ hw435_1)).trans hw435_1), ((HB.out.cell (World.block_lt_of_cell? w _ hw435_2)).trans hw435_2)⟩ (fun hHeld => ?_); refine with_tabW swarfref07_Ends.tab6 swarfref07_Ends.bits6 (fun HT_ HW_ => ?_); generalize wr.drew = w12 at BK432 HB hx434_0 hx435_0 hx435_1 hx435_2 hHeld ⊢; refine pure_t 0 (some 29) (bz 10 1) HT_ ?_; refine pure_t 2 (some 31) (bz 10 5) HT_ ?_; refine pure_t 3 (some 32) (bz 10 13) HT_ ?_; refine pure_t 4 (some 33) (bz 10 29) HT_ ?_; refine take_t 1 (some 30) (bz 10 31) HT_ HW_ hHeld ?_; refine take_t 5 (some 34) (bz 10 63) HT_ HW_ hHeld ?_; refine pure_t 6 (some 35) (bz 10 127) HT_ ?_; refine take_t 7 (some 36) (bz 10 255) HT_ HW_ hHeld ?_; (refine one_t 8 (some 11) (bz 10 511) HT_ fun K hK => ?_); refine box_step ?hg (N := 11) ?hd (cs := #[.int .i64 0, .int .i64 0, .int .i64 0]) (t := 85) ?hr ?_; (case hd => rfl); (case hg => rfl); (case hr => first | (go_simp; done) | (go_simp; rfl)); intro gb436 hg w13 hbox hb; have BK436 := Aside0.mk (hbox); have GW436 := gw_x hg HB; have GE436 := gw_x hg HB; replace HB := bl_x HB hb; have NB432_436 := nb_x hg BK432; have NB436_432 := nb_y hg BK432; replace BK432 := bk_x BK432 hb; clear hb hbox hg; refine hK.out _ _ ⟨(blk_cell BK432.out 0).trans rfl, (blk_cell BK432.out 1).trans rfl, (blk_cell BK432.out 2).trans rfl, (blk_cell BK432.out 3).trans rfl, (blk_cell BK432.out 4).trans rfl, (blk_cell BK432.out 5).trans rfl, (blk_cell BK432.out 6).trans rfl, ((HB.out.cell (World.block_lt_of_cell? w _ hw434_0)).trans hw434_0), ((HB.out.cell (World.block_lt_of_cell? w _ hw435_0)).trans hw435_0), ((HB.out.cell (World.block_lt_of_cell? w _ hw435_1)).trans hw435_1), ((HB.out.cell (World.block_lt_of_cell? w _ hw435_2)).trans hw435_2)⟩ (fun hHeld => ?_); clear hK K; refine norm_y (some 11) ?_; (refine one_t 9 (none) (bz 10 1023) HT_ fun K hK => ?_); have hs14 : w13.cell? ⟨gb436, 0, none⟩ = some (.int .i64 0) := (blk_cell BK436.out 0).trans rfl; have hfs14 := blk_frozen BK436.out 0; have hns14_0 := NB432_436.out; have hms14_0 := NB436_432.out; have hs15 : w13.cell? ⟨gb436, 1, none⟩ = some (.int .i64 0) := (blk_cell BK436.out 1).trans rfl; have hfs15 := blk_frozen BK436.out 1; have hns15_0 := NB432_436.out; have hms15_0 := NB436_432.out; have hs16 : w13.cell? ⟨gb436, 2, none⟩ = some (.int .i64 0) := (blk_cell BK436.out 2).trans rfl; have hfs16 := blk_frozen BK436.out 2; have hns16_0 := NB432_436.out; have hms16_0 := NB436_432.out; refine skip_ (w1 := ?_) (by rfl) rfl ?_ ?_; rotate_left
         ·
          go_simp
          rfl
         refine hK.out _ _ ⟨(cf3_y NB432_436.out hHeld.1), (cf3_y NB432_436.out hHeld.2.1), (cf3_y NB432_436.out hHeld.2.2.1), (cf3_y NB432_436.out hHeld.2.2.2.1), (cf3_y NB432_436.out hHeld.2.2.2.2.1), (cf3_y NB432_436.out hHeld.2.2.2.2.2.1), (cf3_y NB432_436.out hHeld.2.2.2.2.2.2.1), ((cell_far (p := ⟨gb436, _, none⟩) (nf_x hw434_0 GW436) _).trans (((cell_far (p := ⟨gb436, _, none⟩) (nf_x hw434_0 GW436) _).trans (((cell_far (p := ⟨gb436, _, none⟩) (nf_x hw434_0 GW436) _).trans (hHeld.2.2.2.2.2.2.2.1)))))), ((cell_far (p := ⟨gb436, _, none⟩) (nf_x hw435_0 GW436) _).trans (((cell_far (p := ⟨gb436, _, none⟩) (nf_x hw435_0 GW436) _).trans (((cell_far (p := ⟨gb436, _, none⟩) (nf_x hw435_0 GW436) _).trans (hHeld.2.2.2.2.2.2.2.2.1)))))), ((cell_far (p := ⟨gb436, _, none⟩) (nf_x hw435_1 GW436) _).trans (((cell_far (p := ⟨gb436, _, none⟩) (nf_x hw435_1 GW436) _).trans (((cell_far (p := ⟨gb436, _, none⟩) (nf_x hw435_1 GW436) _).trans (hHeld.2.2.2.2.2.2.2.2.2.1)))))), ((cell_far (p := ⟨gb436, _, none⟩) (nf_x hw435_2 GW436) _).trans (((cell_far (p := ⟨gb436, _, none⟩) (nf_x hw435_2 GW436) _).trans (((cell_far (p := ⟨gb436, _, none⟩) (nf_x hw435_2 GW436) _).trans (hHeld.2.2.2.2.2.2.2.2.2.2))))))⟩ (fun hHeld => ?_); clear hK K; refine done_ (done_of HT_.out (by kernel_rfl)) ?_
         try go_wp2
         have n0_ : Aside0 ((((w13.setCell ⟨gb436, 0, none⟩ (.int .i64 ((rd_T85 l0_3 (rd l1 x10_1)).f0))).setCell ⟨gb436, 1, none⟩ (.int .i64 ((rd_T85 l0_3 (rd l1 x10_1)).f1))).setCell ⟨gb436, 2, none⟩ (.int .i64 ((rd_T85 l0_3 (rd l1 x10_1)).f2))).heap[gb432]? = some (.cells #[.int .i64 a0_0, .int .i64 a0_1, .int .i64 a0_2, .slice (some ad435) l0_3.length c0_3, .int .i64 a0_4, .slice A0_5 l0_5.length c0_5, .slice A0_6 l0_6.length c0_6] 26 (0, 0))) := ⟨blk_w BK432.out⟩; have n1_ : Aside0 ((((w13.setCell ⟨gb436, 0, none⟩ (.int .i64 ((rd_T85 l0_3 (rd l1 x10_1)).f0))).setCell ⟨gb436, 1, none⟩ (.int .i64 ((rd_T85 l0_3 (rd l1 x10_1)).f1))).setCell ⟨gb436, 2, none⟩ (.int .i64 ((rd_T85 l0_3 (rd l1 x10_1)).f2))).heap[gb436]? = some (.cells #[.int .i64 ((rd_T85 l0_3 (rd l1 x10_1)).f0), .int .i64 ((rd_T85 l0_3 (rd l1 x10_1)).f1), .int .i64 ((rd_T85 l0_3 (rd l1 x10_1)).f2)] 85 (0, 0))) := ⟨blk_z BK436.out⟩; have n2_ : Aside0 (Below w.heap.size w (((w13.setCell ⟨gb436, 0, none⟩ (.int .i64 ((rd_T85 l0_3 (rd l1 x10_1)).f0))).setCell ⟨gb436, 1, none⟩ (.int .i64 ((rd_T85 l0_3 (rd l1 x10_1)).f1))).setCell ⟨gb436, 2, none⟩ (.int .i64 ((rd_T85 l0_3 (rd l1 x10_1)).f2)))) := ⟨by exact below_y HB.out⟩
         (try clear BK432)
         (try clear BK436)
         (try clear HB)
         generalize (((w13.setCell ⟨gb436, 0, none⟩ (.int .i64 ((rd_T85 l0_3 (rd l1 x10_1)).f0))).setCell ⟨gb436, 1, none⟩ (.int .i64 ((rd_T85 l0_3 (rd l1 x10_1)).f1))).setCell ⟨gb436, 2, none⟩ (.int .i64 ((rd_T85 l0_3 (rd l1 x10_1)).f2))) = w17 at n0_ n1_ n2_ ⊢; have BK432 := n0_; have BK436 := n1_; have HB := n2_; clear n0_ n1_ n2_; replace BK432 := Aside0.mk (blk_drew BK432.out); replace BK436 := Aside0.mk (blk_drew BK436.out); replace HB := Aside0.mk (below_drew1 HB.out); have p437 : 0 ≤ (x10_1 : Int) := of_x; have q437 : x10_1 < (l2.length : Int) := of_x; obtain ⟨ad437, e437, hx437_0⟩ := Kd.at_int HR2.out x10_1 p437 q437; have hw437_0 := hx437_0; (cases e437); replace hx437_0 := cell_x HB hx437_0; replace p437 := eq_true p437; replace q437 := eq_true q437; have p438 : 0 ≤ (x10_1 : Int) := of_x; have q438 : x10_1 < (l2.length : Int) := of_x; obtain ⟨ad438, e438, hx438_0⟩ := Kd.at_int HR2.out x10_1 p438 q438; have hw438_0 := hx438_0; obtain rfl : ad437 = ad438 := (by injection e438); replace hx438_0 := cell_x HB hx438_0; replace p438 := eq_true p438; replace q438 := eq_true q438; refine start_ (n := 20) (S := fun w' => w'.cell? ⟨gb436, 0, none⟩ = some (.int .i64 ((rd_T85 l0_3 (rd l1 x10_1)).f0)) ∧ w'.cell? ⟨gb436, 1, none⟩ = some (.int .i64 ((rd_T85 l0_3 (rd l1 x10_1)).f1)) ∧ w'.cell? ⟨gb436, 2, none⟩ = some (.int .i64 ((rd_T85 l0_3 (rd l1 x10_1)).f2)) ∧ w'.cell? (ad437.add (x10_1).toNat) = some (.int .i64 (rd l2 x10_1)) ∧ w'.cell? (ad437.add (x10_1).toNat) = some (.int .i64 (rd l2 x10_1))) (ds := []) #[false, false, false, false, false, false, false, false, false, false, false, false, false, false, false, false, false, false, false, false] (by kernel_rfl) rfl rfl ⟨(blk_cell BK436.out 0).trans rfl, (blk_cell BK436.out 1).trans rfl, (blk_cell BK436.out 2).trans rfl, ((HB.out.cell (World.block_lt_of_cell? w _ hw437_0)).trans hw437_0), ((HB.out.cell (World.block_lt_of_cell? w _ hw438_0)).trans hw438_0)⟩ (fun hHeld => ?_); refine with_tabW swarfref07_Ends.tab7 swarfref07_Ends.bits7 (fun HT_ HW_ => ?_); generalize w17.drew = w18 at BK432 BK436 HB hx437_0 hx438_0 hHeld ⊢; refine pure_t 0 (some 37) (bz 20 1) HT_ ?_; refine pure_t 1 (some 38) (bz 20 3) HT_ ?_; refine pure_t 2 (some 39) (bz 20 7) HT_ ?_; refine pure_t 3 (some 40) (bz 20 15) HT_ ?_; refine pure_t 5 (some 42) (bz 20 47) HT_ ?_; refine pure_t 9 (some 46) (bz 20 559) HT_ ?_; refine pure_t 10 (some 47) (bz 20 1583) HT_ ?_; refine pure_t 11 (some 48) (bz 20 3631) HT_ ?_; refine pure_t 12 (some 49) (bz 20 7727) HT_ ?_; refine pure_t 14 (some 51) (bz 20 24111) HT_ ?_; refine take_t 4 (some 41) (bz 20 24127) HT_ HW_ hHeld ?_; refine take_t 6 (some 43) (bz 20 24191) HT_ HW_ hHeld ?_; refine pure_t 7 (some 44) (bz 20 24319) HT_ ?_; refine pure_t 8 (some 45) (bz 20 24575) HT_ ?_; refine pure_t 18 (some 8) (bz 20 286719) HT_ ?_; refine take_t 13 (some 50) (bz 20 294911) HT_ HW_ hHeld ?_; refine take_t 15 (some 52) (bz 20 327679) HT_ HW_ hHeld ?_; refine pure_t 16 (some 53) (bz 20 393215) HT_ ?_; refine pure_t 17 (some 54) (bz 20 524287) HT_ ?_; refine pure_t 19 (some 9) (bz 20 1048575) HT_ ?_; refine done_ (done_of HT_.out (by kernel_rfl)) ?_
         try go_wp2
         go_roundg k1
         case measure => have := HK1.out; omega
         case rel => exact ⟨(wrap64 (x8_1 + (wrap64 ((rd l2 x10_1) * ((rd_T85 l0_3 (rd l1 x10_1)).f1))))), (wrap64 (x9_1 + (wrap64 ((rd l2 x10_1) * ((rd_T85 l0_3 (rd l1 x10_1)).f2))))), (wrap64 (x10_1 + 1)), (by first | rfl | (simp; done) | (simp [*]; done)), (by first | rfl | (simp; done) | (simp [*]; done)), (by first | rfl | (simp; done) | (simp [*]; done)), H', ⟨by have := HK1.out; omega⟩, ⟨blk_x BK432.out⟩, ⟨by exact below_y HB.out⟩⟩
        ·
         rw [if_neg c11] at H; exact absurd H (by simp)
       ·
        rw [if_neg c10] at H; exact absurd H (by simp)
      ·
       rw [if_neg c9] at H; exact absurd H (by simp)
     ·
      rw [if_neg c8] at H; have c8b0 : decide (0 ≤ (rd l1 x10_1)) = false := decide_eq_false c8; clear c8; have H' := Aside0.mk H; clear H; have p433 : 0 ≤ (x10_1 : Int) := of_x; have q433 : x10_1 < (l1.length : Int) := of_x; obtain ⟨ad433, e433, hx433_0⟩ := Kd.at_int HR1.out x10_1 p433 q433; (cases e433); replace hx433_0 := cell_x HB hx433_0; replace p433 := eq_true p433; replace q433 := eq_true q433; go_wp2; go_roundg k1
      case measure => have := HK1.out; omega
      case rel => exact ⟨(x8_1), (x9_1), (wrap64 (x10_1 + 1)), (by first | rfl | (simp; done) | (simp [*]; done)), (by first | rfl | (simp; done) | (simp [*]; done)), (by first | rfl | (simp; done) | (simp [*]; done)), H', ⟨by have := HK1.out; omega⟩, ⟨blk_x BK432.out⟩, ⟨by exact below_y HB.out⟩⟩
    ·
     rw [if_neg c7] at H; exact absurd H (by simp)
   ·
    rw [if_neg c6] at H; have c6b0 : decide (x10_1 < (l1.length : Int)) = false := decide_eq_false c6; clear c6; simp only [Option.some.injEq, Prod.mk.injEq] at H; obtain ⟨rfl, rfl⟩ := H; go_wp2
    go_ret2
    exact rt_y HB
def swarfref07_Lightest.l0 : Nat → List Int → Int → Int → Int → Int → List (S85) → Int → List (S59) → List (S79) → Option (List Int)
 | 0, _, _, _, _, _, _, _, _, _ => none
 | k + 1, x3, x4, x440000, x440001, x440002, x440003, x440004, x440005, x440006 => if x4 < (x440006.length : Int) then (if 0 ≤ x4 then (if x3.length < 17592186044416 then (swarfref07_Lightest.l0 k (x3 ++ [(rd_T79 x440006 x4).f0.f0]) (wrap64 (x4 + 1)) x440000 x440001 x440002 x440003 x440004 x440005 x440006) else (none)) else (none)) else (some x3)
def swarfref07_Lightest.f (k : Nat) (a0_0 : Int) (a0_1 : Int) (a0_2 : Int) (l0_3 : List (S85)) (a0_4 : Int) (l0_5 : List (S59)) (l0_6 : List (S79)) : Option (List Int) := swarfref07_Lightest.l0 k ([] : List Int) 0 a0_0 a0_1 a0_2 l0_3 a0_4 l0_5 l0_6
set_option maxHeartbeats 8000000 in
set_option maxRecDepth 100000 in
theorem swarfref07_Lightest.calls (k : Nat) (a0_0 : Int) (a0_1 : Int) (a0_2 : Int) (A0_3 : Option Addr) (c0_3 : Nat) (l0_3 : List (S85)) (a0_4 : Int) (A0_5 : Option Addr) (c0_5 : Nat) (l0_5 : List (S59)) (A0_6 : Option Addr) (c0_6 : Nat) (l0_6 : List (S79)) (r : List Int) (w : World) (hr0_3 : Kd.C k85 w A0_3 l0_3.length l0_3) (hc0_3 : l0_3.length ≤ c0_3) (hr0_5 : Kd.C k59 w A0_5 l0_5.length l0_5) (hc0_5 : l0_5.length ≤ c0_5) (hr0_6 : Kd.C k79 w A0_6 l0_6.length l0_6) (hc0_6 : l0_6.length ≤ c0_6) (h : swarfref07_Lightest.f k a0_0 a0_1 a0_2 l0_3 a0_4 l0_5 l0_6 = some r) :
  Calls Try.prog 86 #[.agg #[.int .i64 a0_0, .int .i64 a0_1, .int .i64 a0_2, .slice A0_3 l0_3.length c0_3, .int .i64 a0_4, .slice A0_5 l0_5.length c0_5, .slice A0_6 l0_6.length c0_6]] w fun e w' => ∃ v0_ : Value, e = .returned (v0_) ∧ Kd.R (Kd.int .i64) 3 w' w.heap.size (fun _ => True) v0_ r ∧ Below w.heap.size w w' := by
 have hu26 := Try.underlying26
 have HR0_3 := Aside0.mk hr0_3
 have HC0_3 := Aside0.mk hc0_3
 clear hr0_3 hc0_3
 have HR0_5 := Aside0.mk hr0_5
 have HC0_5 := Aside0.mk hc0_5
 clear hr0_5 hc0_5
 have HR0_6 := Aside0.mk hr0_6
 have HC0_6 := Aside0.mk hc0_6
 clear hr0_6 hc0_6
 have HB := Aside0.mk (Below.refl w.heap.size w)
 have H : (swarfref07_Lightest.l0 k ([] : List Int) 0 a0_0 a0_1 a0_2 l0_3 a0_4 l0_5 l0_6) = some r := h
 clear h
 have H' := Aside0.mk H
 clear H
 go_enter Try.func86, Try.ntmps86
 go_wp2_with (first | (refine box_r (N := 1) rfl (cs := #[.int .i64 a0_0, .int .i64 a0_1, .int .i64 a0_2, .slice A0_3 l0_3.length c0_3, .int .i64 a0_4, .slice A0_5 l0_5.length c0_5, .slice A0_6 l0_6.length c0_6]) (t := 26) ?_; intro gb439 hg w2 hbox hb; have BK439 := Aside0.mk (hbox); have GW439 := gw_x hg HB; have GE439 := GW439; replace HB := Aside0.mk (below_step (below_x HB.out) hb); clear hb hbox hg))
 go_loopg [3, 4] k (fun kq v3 v4 w' => ∃ (x3_1 : List Int) (x4_1 : Int), v4 = .int .i64 x4_1 ∧ Aside0 (swarfref07_Lightest.l0 kq x3_1 x4_1 a0_0 a0_1 a0_2 l0_3 a0_4 l0_5 l0_6 = some r) ∧ Aside0 (kq ≤ k) ∧ Aside0 (Kd.R (Kd.int .i64) 3 w' w.heap.size (fun _ => True) v3 x3_1) ∧ Aside0 (w'.heap[gb439]? = some (.cells #[.int .i64 a0_0, .int .i64 a0_1, .int .i64 a0_2, (.slice A0_3 l0_3.length c0_3), .int .i64 a0_4, (.slice A0_5 l0_5.length c0_5), (.slice A0_6 l0_6.length c0_6)] 26 (0, 0))) ∧ Aside0 (Below w.heap.size w w'))
 case atStart => exact ⟨(([] : List Int)), (0), (by first | rfl | (simp; done) | (simp [*]; done)), H', ⟨Nat.le_refl _⟩, ⟨by first | exact Kd.R_nil _ _ _ _ _ | exact Kd.N_nil _ _ _ _ _ | exact Kd.V_nil _ _ _ _ _ | exact Kd.Q_nil _ _ _ _ _ | exact Kd.S_nil _ _ _ _ _⟩, ⟨blk_x BK439.out⟩, ⟨by exact below_y HB.out⟩⟩
 case round =>
  clear H'; obtain ⟨x3_1, x4_1, rfl, HA, HK1, HO_3, BK439, HB⟩ := hrel; cases gk with
  | zero => exact absurd HA.out (by simp [swarfref07_Lightest.l0])
  | succ k1 =>
   have H := HA.out; clear HA; simp only [swarfref07_Lightest.l0] at H; by_cases c3 : x4_1 < (l0_6.length : Int)
   ·
    rw [if_pos c3] at H; have c3b0 : decide (x4_1 < (l0_6.length : Int)) = true := decide_eq_true c3; clear c3; by_cases c4 : 0 ≤ x4_1
    ·
     rw [if_pos c4] at H; have c4b0 : decide (0 ≤ x4_1) = true := decide_eq_true c4; clear c4; by_cases c5 : x3_1.length < 17592186044416
     ·
      rw [if_pos c5] at H; have LMc5 := Aside0.mk c5; clear c5; obtain ⟨y441, hy441⟩ : ∃ y_ : List Int, y_ = (x3_1 ++ [(rd_T79 l0_6 x4_1).f0.f0]) := ⟨_, rfl⟩; (replace H : (swarfref07_Lightest.l0 k1 y441 (wrap64 (x4_1 + 1)) a0_0 a0_1 a0_2 l0_3 a0_4 l0_5 l0_6) = some r := by first | (rw [hy441]; with_reducible exact H) | (have H2_ := (Option.bind_some _ _).symm.trans H; rw [hy441]; with_reducible exact H2_) | (have H2_ := (Option.bind_some _ _).symm.trans H; with_reducible exact H2_) | with_reducible exact H | (rw [hy441]; exact H) | exact H); have Ny441 := Aside0.mk hy441; clear hy441; have H' := Aside0.mk H; clear H; obtain ⟨hfz6_0, _, _, _, _, _, _, _⟩ := cf7 BK439; have p440 : 0 ≤ (x4_1 : Int) := of_x; have q440 : x4_1 < (l0_6.length : Int) := of_x; obtain ⟨ad440, e440, hx440_0, hx440_1, hx440_2⟩ := at_T79 HR0_6.out x4_1 p440 q440; (cases e440); replace hx440_0 := cell_x HB hx440_0; replace hx440_1 := cell_x HB hx440_1; replace hx440_2 := cell_x HB hx440_2; replace p440 := eq_true p440; replace q440 := eq_true q440
      go_wp2_with (first | ((with_reducible refine gate_builtin (b := .append) (xs := #[.tmp 12, .tmp 20]) rfl ?_); at_builtin; refine Kd.R_append (Kd.int .i64) (w0 := w) w.heap.size rfl (.tmp 12) (.tmp 20) 27 3 (.int .i64 0) 8 rfl Try.underlying27 info3 rfl (by decide) (by omega) u3 x3_1 ((rd_T79 l0_6 x4_1).f0.f0) [.int .i64 ((rd_T79 l0_6 x4_1).f0.f0)] (fun _ => True) (fun _ => False) rfl rfl ?aP (fun _ hk => hk.elim) ?aF ?aO ?aB ?aS ?aL ?_; (case aP => exact rfl); (case aB => exact (by exact below_y HB.out)); (case aF => exact (fun _ _ => trivial)); (case aO => exact (Kd.R_x HO_3.out)); (case aS => exact (below_size (by exact below_y HB.out))); (case aL => have := LMc5.out; omega); intro v442 w7 ho hb hg hat; rw [← Ny441.out] at ho; replace BK439 := Aside0.mk (blk_grown (blk_x BK439.out) hg (Kd.R_ne HO_3.out BK439.out (by decide))); replace HB := Aside0.mk (hb); have HO443 := Aside0.mk (ho); clear HO_3; clear ho hb hg hat))
      go_roundg k1
      case measure => have := HK1.out; omega
      case rel => exact ⟨(y441), (wrap64 (x4_1 + 1)), (by first | rfl | (simp; done) | (simp [*]; done)), H', ⟨by have := HK1.out; omega⟩, ⟨by (with_reducible repeat (first | apply Kd.R_alloc | apply Kd.R_drewN | apply Kd.R_drew)); exact HO443.out⟩, ⟨blk_x BK439.out⟩, ⟨by exact below_y HB.out⟩⟩
     ·
      rw [if_neg c5] at H; exact absurd H (by simp)
    ·
     rw [if_neg c4] at H; exact absurd H (by simp)
   ·
    rw [if_neg c3] at H; have c3b0 : decide (x4_1 < (l0_6.length : Int)) = false := decide_eq_false c3; clear c3; obtain rfl := Option.some.inj H; obtain ⟨hfz8_0, _, _, _, _, _, _, _⟩ := cf7 BK439; go_wp2; go_ret; exact ⟨_, by first | rfl | (simp [errW_none, errW_some] <;> rfl) | (simp [*, errW_none, errW_some] <;> rfl), by (with_reducible repeat (first | apply Kd.R_alloc | apply Kd.R_drewN | apply Kd.R_drew)); exact HO_3.out, by exact below_y HB.out⟩
def swarfref07_Heaviest.l0 : Nat → List Int → Int → Int → Int → Int → List (S85) → Int → List (S59) → List (S79) → Option (List Int)
 | 0, _, _, _, _, _, _, _, _, _ => none
 | k + 1, x3, x4, x445000, x445001, x445002, x445003, x445004, x445005, x445006 => if x4 < (x445006.length : Int) then (if 0 ≤ x4 then (if x3.length < 17592186044416 then (swarfref07_Heaviest.l0 k (x3 ++ [(rd_T79 x445006 x4).f0.f1]) (wrap64 (x4 + 1)) x445000 x445001 x445002 x445003 x445004 x445005 x445006) else (none)) else (none)) else (some x3)
def swarfref07_Heaviest.f (k : Nat) (a0_0 : Int) (a0_1 : Int) (a0_2 : Int) (l0_3 : List (S85)) (a0_4 : Int) (l0_5 : List (S59)) (l0_6 : List (S79)) : Option (List Int) := swarfref07_Heaviest.l0 k ([] : List Int) 0 a0_0 a0_1 a0_2 l0_3 a0_4 l0_5 l0_6
set_option maxHeartbeats 8000000 in
set_option maxRecDepth 100000 in
theorem swarfref07_Heaviest.calls (k : Nat) (a0_0 : Int) (a0_1 : Int) (a0_2 : Int) (A0_3 : Option Addr) (c0_3 : Nat) (l0_3 : List (S85)) (a0_4 : Int) (A0_5 : Option Addr) (c0_5 : Nat) (l0_5 : List (S59)) (A0_6 : Option Addr) (c0_6 : Nat) (l0_6 : List (S79)) (r : List Int) (w : World) (hr0_3 : Kd.C k85 w A0_3 l0_3.length l0_3) (hc0_3 : l0_3.length ≤ c0_3) (hr0_5 : Kd.C k59 w A0_5 l0_5.length l0_5) (hc0_5 : l0_5.length ≤ c0_5) (hr0_6 : Kd.C k79 w A0_6 l0_6.length l0_6) (hc0_6 : l0_6.length ≤ c0_6) (h : swarfref07_Heaviest.f k a0_0 a0_1 a0_2 l0_3 a0_4 l0_5 l0_6 = some r) :
  Calls Try.prog 87 #[.agg #[.int .i64 a0_0, .int .i64 a0_1, .int .i64 a0_2, .slice A0_3 l0_3.length c0_3, .int .i64 a0_4, .slice A0_5 l0_5.length c0_5, .slice A0_6 l0_6.length c0_6]] w fun e w' => ∃ v0_ : Value, e = .returned (v0_) ∧ Kd.R (Kd.int .i64) 3 w' w.heap.size (fun _ => True) v0_ r ∧ Below w.heap.size w w' := by
 have hu26 := Try.underlying26
 have HR0_3 := Aside0.mk hr0_3
 have HC0_3 := Aside0.mk hc0_3
 clear hr0_3 hc0_3
 have HR0_5 := Aside0.mk hr0_5
 have HC0_5 := Aside0.mk hc0_5
 clear hr0_5 hc0_5
 have HR0_6 := Aside0.mk hr0_6
 have HC0_6 := Aside0.mk hc0_6
 clear hr0_6 hc0_6
 have HB := Aside0.mk (Below.refl w.heap.size w)
 have H : (swarfref07_Heaviest.l0 k ([] : List Int) 0 a0_0 a0_1 a0_2 l0_3 a0_4 l0_5 l0_6) = some r := h
 clear h
 have H' := Aside0.mk H
 clear H
 go_enter Try.func87, Try.ntmps87
 go_wp2_with (first | (refine box_r (N := 1) rfl (cs := #[.int .i64 a0_0, .int .i64 a0_1, .int .i64 a0_2, .slice A0_3 l0_3.length c0_3, .int .i64 a0_4, .slice A0_5 l0_5.length c0_5, .slice A0_6 l0_6.length c0_6]) (t := 26) ?_; intro gb444 hg w2 hbox hb; have BK444 := Aside0.mk (hbox); have GW444 := gw_x hg HB; have GE444 := GW444; replace HB := Aside0.mk (below_step (below_x HB.out) hb); clear hb hbox hg))
 go_loopg [3, 4] k (fun kq v3 v4 w' => ∃ (x3_1 : List Int) (x4_1 : Int), v4 = .int .i64 x4_1 ∧ Aside0 (swarfref07_Heaviest.l0 kq x3_1 x4_1 a0_0 a0_1 a0_2 l0_3 a0_4 l0_5 l0_6 = some r) ∧ Aside0 (kq ≤ k) ∧ Aside0 (Kd.R (Kd.int .i64) 3 w' w.heap.size (fun _ => True) v3 x3_1) ∧ Aside0 (w'.heap[gb444]? = some (.cells #[.int .i64 a0_0, .int .i64 a0_1, .int .i64 a0_2, (.slice A0_3 l0_3.length c0_3), .int .i64 a0_4, (.slice A0_5 l0_5.length c0_5), (.slice A0_6 l0_6.length c0_6)] 26 (0, 0))) ∧ Aside0 (Below w.heap.size w w'))
 case atStart => exact ⟨(([] : List Int)), (0), (by first | rfl | (simp; done) | (simp [*]; done)), H', ⟨Nat.le_refl _⟩, ⟨by first | exact Kd.R_nil _ _ _ _ _ | exact Kd.N_nil _ _ _ _ _ | exact Kd.V_nil _ _ _ _ _ | exact Kd.Q_nil _ _ _ _ _ | exact Kd.S_nil _ _ _ _ _⟩, ⟨blk_x BK444.out⟩, ⟨by exact below_y HB.out⟩⟩
 case round =>
  clear H'; obtain ⟨x3_1, x4_1, rfl, HA, HK1, HO_3, BK444, HB⟩ := hrel; cases gk with
  | zero => exact absurd HA.out (by simp [swarfref07_Heaviest.l0])
  | succ k1 =>
   have H := HA.out; clear HA; simp only [swarfref07_Heaviest.l0] at H; by_cases c3 : x4_1 < (l0_6.length : Int)
   ·
    rw [if_pos c3] at H; have c3b0 : decide (x4_1 < (l0_6.length : Int)) = true := decide_eq_true c3; clear c3; by_cases c4 : 0 ≤ x4_1
    ·
     rw [if_pos c4] at H; have c4b0 : decide (0 ≤ x4_1) = true := decide_eq_true c4; clear c4; by_cases c5 : x3_1.length < 17592186044416
     ·
      rw [if_pos c5] at H; have LMc5 := Aside0.mk c5; clear c5; obtain ⟨y446, hy446⟩ : ∃ y_ : List Int, y_ = (x3_1 ++ [(rd_T79 l0_6 x4_1).f0.f1]) := ⟨_, rfl⟩; (replace H : (swarfref07_Heaviest.l0 k1 y446 (wrap64 (x4_1 + 1)) a0_0 a0_1 a0_2 l0_3 a0_4 l0_5 l0_6) = some r := by first | (rw [hy446]; with_reducible exact H) | (have H2_ := (Option.bind_some _ _).symm.trans H; rw [hy446]; with_reducible exact H2_) | (have H2_ := (Option.bind_some _ _).symm.trans H; with_reducible exact H2_) | with_reducible exact H | (rw [hy446]; exact H) | exact H); have Ny446 := Aside0.mk hy446; clear hy446; have H' := Aside0.mk H; clear H; obtain ⟨hfz6_0, _, _, _, _, _, _, _⟩ := cf7 BK444; have p445 : 0 ≤ (x4_1 : Int) := of_x; have q445 : x4_1 < (l0_6.length : Int) := of_x; obtain ⟨ad445, e445, hx445_0, hx445_1, hx445_2⟩ := at_T79 HR0_6.out x4_1 p445 q445; (cases e445); replace hx445_0 := cell_x HB hx445_0; replace hx445_1 := cell_x HB hx445_1; replace hx445_2 := cell_x HB hx445_2; replace p445 := eq_true p445; replace q445 := eq_true q445
      go_wp2_with (first | ((with_reducible refine gate_builtin (b := .append) (xs := #[.tmp 12, .tmp 20]) rfl ?_); at_builtin; refine Kd.R_append (Kd.int .i64) (w0 := w) w.heap.size rfl (.tmp 12) (.tmp 20) 27 3 (.int .i64 0) 8 rfl Try.underlying27 info3 rfl (by decide) (by omega) u3 x3_1 ((rd_T79 l0_6 x4_1).f0.f1) [.int .i64 ((rd_T79 l0_6 x4_1).f0.f1)] (fun _ => True) (fun _ => False) rfl rfl ?aP (fun _ hk => hk.elim) ?aF ?aO ?aB ?aS ?aL ?_; (case aP => exact rfl); (case aB => exact (by exact below_y HB.out)); (case aF => exact (fun _ _ => trivial)); (case aO => exact (Kd.R_x HO_3.out)); (case aS => exact (below_size (by exact below_y HB.out))); (case aL => have := LMc5.out; omega); intro v447 w7 ho hb hg hat; rw [← Ny446.out] at ho; replace BK444 := Aside0.mk (blk_grown (blk_x BK444.out) hg (Kd.R_ne HO_3.out BK444.out (by decide))); replace HB := Aside0.mk (hb); have HO448 := Aside0.mk (ho); clear HO_3; clear ho hb hg hat))
      go_roundg k1
      case measure => have := HK1.out; omega
      case rel => exact ⟨(y446), (wrap64 (x4_1 + 1)), (by first | rfl | (simp; done) | (simp [*]; done)), H', ⟨by have := HK1.out; omega⟩, ⟨by (with_reducible repeat (first | apply Kd.R_alloc | apply Kd.R_drewN | apply Kd.R_drew)); exact HO448.out⟩, ⟨blk_x BK444.out⟩, ⟨by exact below_y HB.out⟩⟩
     ·
      rw [if_neg c5] at H; exact absurd H (by simp)
    ·
     rw [if_neg c4] at H; exact absurd H (by simp)
   ·
    rw [if_neg c3] at H; have c3b0 : decide (x4_1 < (l0_6.length : Int)) = false := decide_eq_false c3; clear c3; obtain rfl := Option.some.inj H; obtain ⟨hfz8_0, _, _, _, _, _, _, _⟩ := cf7 BK444; go_wp2; go_ret; exact ⟨_, by first | rfl | (simp [errW_none, errW_some] <;> rfl) | (simp [*, errW_none, errW_some] <;> rfl), by (with_reducible repeat (first | apply Kd.R_alloc | apply Kd.R_drewN | apply Kd.R_drew)); exact HO_3.out, by exact below_y HB.out⟩
def swarfref07_drafts.f (k : Nat) (a0_0 : Int) (a0_1 : Int) (a0_2 : Int) (l0_3 : List (S85)) (a0_4 : Int) (l0_5 : List (S59)) (l0_6 : List (S79)) (l1 : List Int) : Option (Int × Int × Int × Int) := (swarfref07_Lightest.f k a0_0 a0_1 a0_2 l0_3 a0_4 l0_5 l0_6).bind fun t452 => ((swarfref07_Ends.f k a0_0 a0_1 a0_2 l0_3 a0_4 l0_5 l0_6 l1 t452).bind fun bt455 => ((swarfref07_Heaviest.f k a0_0 a0_1 a0_2 l0_3 a0_4 l0_5 l0_6).bind fun t457 => ((swarfref07_Ends.f k a0_0 a0_1 a0_2 l0_3 a0_4 l0_5 l0_6 l1 t457).bind fun bt460 => (some (bt455.1, bt460.1, bt455.2, bt460.2)))))
def swarfref07_drafts.T1 : Bool × List (List Nat × List Nat) := (true, [([], []), ([], []), ([], []), ([2], [2]), ([0, 1, 3, 3], [0, 1, 3]), ([4], [4]), ([5], [5]), ([5], [5]), ([6, 4, 0, 1, 2, 3, 4, 5, 6], [6]), ([7, 8, 0, 1, 2, 3, 4, 5, 6, 7, 8], [7])])
def swarfref07_drafts.B1 : List Nat := [0, 0, 0, 4, 15, 31, 63, 63, 127, 511]
theorem swarfref07_drafts.tab1 : rtab .any (opsOf Try.f70 1) = swarfref07_drafts.T1 := by kernel_rfl
theorem swarfref07_drafts.bits1 : waitsOk swarfref07_drafts.T1.2 swarfref07_drafts.B1 = true := by kernel_rfl
def swarfref07_drafts.T2 : Bool × List (List Nat × List Nat) := (true, [([], []), ([], []), ([], []), ([2], [2]), ([0, 1, 3, 3], [0, 1, 3]), ([4], [4]), ([5], [5]), ([5], [5]), ([6, 4, 0, 1, 2, 3, 4, 5, 6], [6]), ([7, 8, 0, 1, 2, 3, 4, 5, 6, 7, 8], [7])])
def swarfref07_drafts.B2 : List Nat := [0, 0, 0, 4, 15, 31, 63, 63, 127, 511]
theorem swarfref07_drafts.tab2 : rtab .any (opsOf Try.f70 2) = swarfref07_drafts.T2 := by kernel_rfl
theorem swarfref07_drafts.bits2 : waitsOk swarfref07_drafts.T2.2 swarfref07_drafts.B2 = true := by kernel_rfl
set_option maxHeartbeats 8000000 in
set_option maxRecDepth 100000 in
theorem swarfref07_drafts.calls (k : Nat) (a0_0 : Int) (a0_1 : Int) (a0_2 : Int) (A0_3 : Option Addr) (c0_3 : Nat) (l0_3 : List (S85)) (a0_4 : Int) (A0_5 : Option Addr) (c0_5 : Nat) (l0_5 : List (S59)) (A0_6 : Option Addr) (c0_6 : Nat) (l0_6 : List (S79)) (A1 : Option Addr) (c1 : Nat) (l1 : List Int) (r1 : Int) (r2 : Int) (r3 : Int) (r4 : Int) (w : World) (hr0_3 : Kd.C k85 w A0_3 l0_3.length l0_3) (hc0_3 : l0_3.length ≤ c0_3) (hr0_5 : Kd.C k59 w A0_5 l0_5.length l0_5) (hc0_5 : l0_5.length ≤ c0_5) (hr0_6 : Kd.C k79 w A0_6 l0_6.length l0_6) (hc0_6 : l0_6.length ≤ c0_6) (hr1 : Kd.C (Kd.int .i64) w A1 l1.length l1) (hc1 : l1.length ≤ c1) (h : swarfref07_drafts.f k a0_0 a0_1 a0_2 l0_3 a0_4 l0_5 l0_6 l1 = some (r1, r2, r3, r4)) :
  Calls Try.prog 70 #[.agg #[.int .i64 a0_0, .int .i64 a0_1, .int .i64 a0_2, .slice A0_3 l0_3.length c0_3, .int .i64 a0_4, .slice A0_5 l0_5.length c0_5, .slice A0_6 l0_6.length c0_6], .slice A1 l1.length c1] w fun e w' => e = .returned (.tuple #[.agg #[.int .i64 r1, .int .i64 r2], .agg #[.int .i64 r3, .int .i64 r4]]) ∧ Below w.heap.size w w' := by
 have hu26 := Try.underlying26
 have hu56 := Try.underlying56
 have HR0_3 := Aside0.mk hr0_3
 have HC0_3 := Aside0.mk hc0_3
 clear hr0_3 hc0_3
 have HR0_5 := Aside0.mk hr0_5
 have HC0_5 := Aside0.mk hc0_5
 clear hr0_5 hc0_5
 have HR0_6 := Aside0.mk hr0_6
 have HC0_6 := Aside0.mk hc0_6
 clear hr0_6 hc0_6
 have HR1 := Aside0.mk hr1
 have HC1 := Aside0.mk hc1
 clear hr1 hc1
 have HB := Aside0.mk (Below.refl w.heap.size w)
 have H : ((swarfref07_Lightest.f k a0_0 a0_1 a0_2 l0_3 a0_4 l0_5 l0_6).bind fun t452 => ((swarfref07_Ends.f k a0_0 a0_1 a0_2 l0_3 a0_4 l0_5 l0_6 l1 t452).bind fun bt455 => ((swarfref07_Heaviest.f k a0_0 a0_1 a0_2 l0_3 a0_4 l0_5 l0_6).bind fun t457 => ((swarfref07_Ends.f k a0_0 a0_1 a0_2 l0_3 a0_4 l0_5 l0_6 l1 t457).bind fun bt460 => (some (bt455.1, bt460.1, bt455.2, bt460.2)))))) = some (r1, r2, r3, r4) := h
 clear h
 replace H := Option.bind_eq_some_iff.mp H
 obtain ⟨t452, A30, H⟩ := H
 try dsimp only at H
 have A3 := Aside0.mk A30
 clear A30
 replace H := Option.bind_eq_some_iff.mp H
 obtain ⟨⟨t455, t456⟩, A40, H⟩ := H
 try dsimp only at H
 have A4 := Aside0.mk A40
 clear A40
 replace H := Option.bind_eq_some_iff.mp H
 obtain ⟨t457, A50, H⟩ := H
 try dsimp only at H
 have A5 := Aside0.mk A50
 clear A50
 replace H := Option.bind_eq_some_iff.mp H
 obtain ⟨⟨t460, t461⟩, A60, H⟩ := H
 replace H : (some (t455, t460, t456, t461)) = some (r1, r2, r3, r4) := H
 have A6 := Aside0.mk A60
 clear A60
 simp only [Option.some.injEq, Prod.mk.injEq] at H
 obtain ⟨rfl, rfl, rfl, rfl⟩ := H
 go_enter Try.func70, Try.ntmps70
 try go_wp2_with (first | (refine box_r (N := 2) rfl (cs := #[.int .i64 a0_0, .int .i64 a0_1, .int .i64 a0_2, .slice A0_3 l0_3.length c0_3, .int .i64 a0_4, .slice A0_5 l0_5.length c0_5, .slice A0_6 l0_6.length c0_6]) (t := 26) ?_; intro gb449 hg w7 hbox hb; have BK449 := Aside0.mk (hbox); have GW449 := gw_x hg HB; have GE449 := GW449; replace HB := Aside0.mk (below_step (below_x HB.out) hb); clear hb hbox hg) | (refine box_r (N := 4) rfl (cs := #[.int .i64 0, .int .i64 0]) (t := 56) ?_; intro gb450 hg w8 hbox hb; have BK450 := Aside0.mk (hbox); have GW450 := gw_x hg HB; have GE450 := GW450; replace HB := bl_x HB hb; have NB449_450 := nb_x hg BK449; have NB450_449 := nb_y hg BK449; replace BK449 := bk_x BK449 hb; clear hb hbox hg) | (refine box_r (N := 5) rfl (cs := #[.int .i64 0, .int .i64 0]) (t := 56) ?_; intro gb451 hg w9 hbox hb; have BK451 := Aside0.mk (hbox); have GW451 := gw_x hg HB; have GE451 := GW451; replace HB := bl_x HB hb; have NB449_451 := nb_x hg BK449; have NB451_449 := nb_y hg BK449; replace BK449 := bk_x BK449 hb; have NB450_451 := nb_x hg BK450; have NB451_450 := nb_y hg BK450; replace BK450 := bk_x BK450 hb; clear hb hbox hg))
 replace BK449 := Aside0.mk (blk_drew BK449.out)
 replace BK450 := Aside0.mk (blk_drew BK450.out)
 replace BK451 := Aside0.mk (blk_drew BK451.out)
 replace HB := Aside0.mk (below_drew1 HB.out)
 refine start_ (n := 10) (S := fun w' => w'.cell? ⟨gb449, 0, none⟩ = some (.int .i64 a0_0) ∧ w'.cell? ⟨gb449, 1, none⟩ = some (.int .i64 a0_1) ∧ w'.cell? ⟨gb449, 2, none⟩ = some (.int .i64 a0_2) ∧ w'.cell? ⟨gb449, 3, none⟩ = some (.slice A0_3 l0_3.length c0_3) ∧ w'.cell? ⟨gb449, 4, none⟩ = some (.int .i64 a0_4) ∧ w'.cell? ⟨gb449, 5, none⟩ = some (.slice A0_5 l0_5.length c0_5) ∧ w'.cell? ⟨gb449, 6, none⟩ = some (.slice A0_6 l0_6.length c0_6)) (ds := []) #[false, false, false, false, false, false, false, false, false, false] (by kernel_rfl) rfl rfl ⟨(blk_cell BK449.out 0).trans rfl, (blk_cell BK449.out 1).trans rfl, (blk_cell BK449.out 2).trans rfl, (blk_cell BK449.out 3).trans rfl, (blk_cell BK449.out 4).trans rfl, (blk_cell BK449.out 5).trans rfl, (blk_cell BK449.out 6).trans rfl⟩ (fun hHeld => ?_); refine with_tabW swarfref07_drafts.tab1 swarfref07_drafts.bits1 (fun HT_ HW_ => ?_)
 generalize w9.drew = w10 at BK449 BK450 BK451 HB hHeld ⊢
 refine pure_t 1 (some 12) (bz 10 2) HT_ ?_
 refine take_t 0 (some 11) (bz 10 3) HT_ HW_ hHeld ?_
 refine take_t 2 (some 13) (bz 10 7) HT_ HW_ hHeld ?_
 refine one_t 3 (some 14) (bz 10 15) HT_ fun K hK => ?_
 refine goes_x Try.func86 #[.agg #[.int .i64 a0_0, .int .i64 a0_1, .int .i64 a0_2, .slice A0_3 l0_3.length c0_3, .int .i64 a0_4, .slice A0_5 l0_5.length c0_5, .slice A0_6 l0_6.length c0_6]] ?_
 with_reducible refine (swarfref07_Lightest.calls k a0_0 a0_1 a0_2 _ _ l0_3 a0_4 _ _ l0_5 _ _ l0_6 t452 _ ?side1 ?side2 ?side3 ?side4 ?side5 ?side6 A3.out).mono ?_
 (case side1 => exact Kd.C_x HR0_3.out HB.out)
 (case side2 => exact HC0_3.out)
 (case side3 => exact Kd.C_x HR0_5.out HB.out)
 (case side4 => exact HC0_5.out)
 (case side5 => exact Kd.C_x HR0_6.out HB.out)
 (case side6 => exact HC0_6.out)
 rintro e w11 ⟨v453, rfl, ho0, hb⟩
 refine ⟨_, rfl, ?_⟩
 have HO454 := Aside0.mk (Kd.R_lower ho0 (below_size (by exact below_y HB.out)))
 replace BK449 := bk_x BK449 hb
 replace BK450 := bk_x BK450 hb
 replace BK451 := bk_x BK451 hb
 replace HB := bl_x HB hb
 (try clear hb)
 (try clear hb2)
 (try clear hk)
 (try clear hi)
 (try clear ho0)
 obtain ⟨Ao12, co12, eo12⟩ := Kd.R_slice HO454.out
 (first | subst eo12 | (injection eo12 with f1_ f2_ f3_; have f4_ := f1_.symm; have f5_ := f3_.symm; clear f1_ f2_ f3_; subst f4_; subst f5_))
 refine hK.out _ _ (bcs_y BK449) (fun hHeld => ?_)
 clear hK K
 refine norm_y (some 14) ?_
 refine one_t 4 (some 15) (bz 10 31) HT_ fun K hK => ?_
 refine goes_x Try.func85 #[.agg #[.int .i64 a0_0, .int .i64 a0_1, .int .i64 a0_2, .slice A0_3 l0_3.length c0_3, .int .i64 a0_4, .slice A0_5 l0_5.length c0_5, .slice A0_6 l0_6.length c0_6], .slice A1 l1.length c1, .slice Ao12 t452.length co12] ?_
 with_reducible refine (swarfref07_Ends.calls k a0_0 a0_1 a0_2 _ _ l0_3 a0_4 _ _ l0_5 _ _ l0_6 _ _ l1 _ _ t452 t455 t456 _ ?side1 ?side2 ?side3 ?side4 ?side5 ?side6 ?side7 ?side8 ?side9 ?side10 A4.out).mono ?_
 (case side1 => exact Kd.C_x HR0_3.out HB.out)
 (case side2 => exact HC0_3.out)
 (case side3 => exact Kd.C_x HR0_5.out HB.out)
 (case side4 => exact HC0_5.out)
 (case side5 => exact Kd.C_x HR0_6.out HB.out)
 (case side6 => exact HC0_6.out)
 (case side7 => exact Kd.C_x HR1.out HB.out)
 (case side8 => exact HC1.out)
 (case side9 => exact Kd.C_y (Kd.R_reads' HO454.out).2.2)
 (case side10 => exact (Kd.R_reads' HO454.out).2.1)
 rintro e w13 ⟨rfl, hb⟩
 refine ⟨_, rfl, ?_⟩
 replace HO454 := Aside0.mk (Kd.R_below (Kd.R_x HO454.out) hb)
 replace BK449 := bk_x BK449 hb
 replace BK450 := bk_x BK450 hb
 replace BK451 := bk_x BK451 hb
 replace HB := bl_x HB hb
 (try clear hb)
 (try clear hb2)
 (try clear hk)
 (try clear hi)
 refine hK.out _ _ (bcs_y BK449) (fun hHeld => ?_)
 clear hK K
 refine norm_y (some 15) ?_
 refine pure_t 5 (some 10) (bz 10 63) HT_ ?_
 refine pure_t 6 (some 16) (bz 10 127) HT_ ?_
 refine pure_t 7 (some 17) (bz 10 255) HT_ ?_
 refine pure_t 8 (some 6) (bz 10 511) HT_ ?_
 refine pure_t 9 (some 7) (bz 10 1023) HT_ ?_
 refine done_ (done_of HT_.out (by kernel_rfl)) ?_
 try go_wp2
 replace HO454 := Aside0.mk (Kd.R_drew HO454.out)
 replace BK449 := Aside0.mk (blk_drew BK449.out)
 replace BK450 := Aside0.mk (blk_drew BK450.out)
 replace BK451 := Aside0.mk (blk_drew BK451.out)
 replace HB := Aside0.mk (below_drew1 HB.out)
 refine start_ (n := 10) (S := fun w' => w'.cell? ⟨gb449, 0, none⟩ = some (.int .i64 a0_0) ∧ w'.cell? ⟨gb449, 1, none⟩ = some (.int .i64 a0_1) ∧ w'.cell? ⟨gb449, 2, none⟩ = some (.int .i64 a0_2) ∧ w'.cell? ⟨gb449, 3, none⟩ = some (.slice A0_3 l0_3.length c0_3) ∧ w'.cell? ⟨gb449, 4, none⟩ = some (.int .i64 a0_4) ∧ w'.cell? ⟨gb449, 5, none⟩ = some (.slice A0_5 l0_5.length c0_5) ∧ w'.cell? ⟨gb449, 6, none⟩ = some (.slice A0_6 l0_6.length c0_6)) (ds := []) #[false, false, false, false, false, false, false, false, false, false] (by kernel_rfl) rfl rfl ⟨(blk_cell BK449.out 0).trans rfl, (blk_cell BK449.out 1).trans rfl, (blk_cell BK449.out 2).trans rfl, (blk_cell BK449.out 3).trans rfl, (blk_cell BK449.out 4).trans rfl, (blk_cell BK449.out 5).trans rfl, (blk_cell BK449.out 6).trans rfl⟩ (fun hHeld => ?_); refine with_tabW swarfref07_drafts.tab2 swarfref07_drafts.bits2 (fun HT_ HW_ => ?_)
 generalize w13.drew = w14 at HO454 BK449 BK450 BK451 HB hHeld ⊢
 refine pure_t 1 (some 20) (bz 10 2) HT_ ?_
 refine take_t 0 (some 19) (bz 10 3) HT_ HW_ hHeld ?_
 refine take_t 2 (some 21) (bz 10 7) HT_ HW_ hHeld ?_
 refine one_t 3 (some 22) (bz 10 15) HT_ fun K hK => ?_
 refine goes_x Try.func87 #[.agg #[.int .i64 a0_0, .int .i64 a0_1, .int .i64 a0_2, .slice A0_3 l0_3.length c0_3, .int .i64 a0_4, .slice A0_5 l0_5.length c0_5, .slice A0_6 l0_6.length c0_6]] ?_
 with_reducible refine (swarfref07_Heaviest.calls k a0_0 a0_1 a0_2 _ _ l0_3 a0_4 _ _ l0_5 _ _ l0_6 t457 _ ?side1 ?side2 ?side3 ?side4 ?side5 ?side6 A5.out).mono ?_
 (case side1 => exact Kd.C_x HR0_3.out HB.out)
 (case side2 => exact HC0_3.out)
 (case side3 => exact Kd.C_x HR0_5.out HB.out)
 (case side4 => exact HC0_5.out)
 (case side5 => exact Kd.C_x HR0_6.out HB.out)
 (case side6 => exact HC0_6.out)
 rintro e w15 ⟨v458, rfl, ho0, hb⟩
 refine ⟨_, rfl, ?_⟩
 have HO459 := Aside0.mk (Kd.R_lower (Kd.R_new' ho0 (Kd.R_lt (Kd.R_x HO454.out))) (below_size (by exact below_y HB.out)))
 replace HO454 := Aside0.mk (Kd.R_elder' (Kd.R_x HO454.out) (Kd.R_base ho0) hb)
 replace BK449 := bk_x BK449 hb
 replace BK450 := bk_x BK450 hb
 replace BK451 := bk_x BK451 hb
 replace HB := bl_x HB hb
 (try clear hb)
 (try clear hb2)
 (try clear hk)
 (try clear hi)
 (try clear ho0)
 obtain ⟨Ao16, co16, eo16⟩ := Kd.R_slice HO459.out
 (first | subst eo16 | (injection eo16 with f1_ f2_ f3_; have f4_ := f1_.symm; have f5_ := f3_.symm; clear f1_ f2_ f3_; subst f4_; subst f5_))
 refine hK.out _ _ (bcs_y BK449) (fun hHeld => ?_)
 clear hK K
 refine norm_y (some 22) ?_
 refine one_t 4 (some 23) (bz 10 31) HT_ fun K hK => ?_
 refine goes_x Try.func85 #[.agg #[.int .i64 a0_0, .int .i64 a0_1, .int .i64 a0_2, .slice A0_3 l0_3.length c0_3, .int .i64 a0_4, .slice A0_5 l0_5.length c0_5, .slice A0_6 l0_6.length c0_6], .slice A1 l1.length c1, .slice Ao16 t457.length co16] ?_
 with_reducible refine (swarfref07_Ends.calls k a0_0 a0_1 a0_2 _ _ l0_3 a0_4 _ _ l0_5 _ _ l0_6 _ _ l1 _ _ t457 t460 t461 _ ?side1 ?side2 ?side3 ?side4 ?side5 ?side6 ?side7 ?side8 ?side9 ?side10 A6.out).mono ?_
 (case side1 => exact Kd.C_x HR0_3.out HB.out)
 (case side2 => exact HC0_3.out)
 (case side3 => exact Kd.C_x HR0_5.out HB.out)
 (case side4 => exact HC0_5.out)
 (case side5 => exact Kd.C_x HR0_6.out HB.out)
 (case side6 => exact HC0_6.out)
 (case side7 => exact Kd.C_x HR1.out HB.out)
 (case side8 => exact HC1.out)
 (case side9 => exact Kd.C_y (Kd.R_reads' HO459.out).2.2)
 (case side10 => exact (Kd.R_reads' HO459.out).2.1)
 rintro e w17 ⟨rfl, hb⟩
 refine ⟨_, rfl, ?_⟩
 replace HO454 := Aside0.mk (Kd.R_below (Kd.R_x HO454.out) hb)
 replace HO459 := Aside0.mk (Kd.R_below (Kd.R_x HO459.out) hb)
 replace BK449 := bk_x BK449 hb
 replace BK450 := bk_x BK450 hb
 replace BK451 := bk_x BK451 hb
 replace HB := bl_x HB hb
 (try clear hb)
 (try clear hb2)
 (try clear hk)
 (try clear hi)
 refine hK.out _ _ (bcs_y BK449) (fun hHeld => ?_)
 clear hK K
 refine norm_y (some 23) ?_
 refine pure_t 5 (some 18) (bz 10 63) HT_ ?_
 refine pure_t 6 (some 24) (bz 10 127) HT_ ?_
 refine pure_t 7 (some 25) (bz 10 255) HT_ ?_
 refine pure_t 8 (some 8) (bz 10 511) HT_ ?_
 refine pure_t 9 (some 9) (bz 10 1023) HT_ ?_
 refine done_ (done_of HT_.out (by kernel_rfl)) ?_
 have hnb18 := NB450_449.out
 have hnc18 := NB449_450.out
 have hnb19 := NB450_451.out
 have hnc19 := NB451_450.out
 obtain ⟨hfz20_0, _, _⟩ := cf2 BK450
 have hnb21 := NB451_449.out
 have hnc21 := NB449_451.out
 obtain ⟨hfz22_0, _, _⟩ := cf2 BK451
 try go_wp2
 refine bodyPost_ret (results_cc rfl _ _ gb450 gb451 56 56 #[.int .i64 t455, .int .i64 t460] #[.int .i64 t456, .int .i64 t461] (0, 0) (0, 0) _ _ rfl (blk_z BK450.out) Try.underlying56 rfl (by kernel_rfl) rfl (by (with_reducible repeat (first | refine blk_drewN ?_ _ | refine blk_drew ?_ | refine blk_alloc ?_ _)); refine blk_put (cs := #[.int .i64 t456, .int .i64 0]) ?_ 1 _ rfl; (with_reducible repeat (first | refine blk_drewN ?_ _ | refine blk_drew ?_ | refine blk_alloc ?_ _)); refine blk_put (cs := #[.int .i64 0, .int .i64 0]) ?_ 0 _ rfl; exact blk_w BK451.out) Try.underlying56 rfl (by kernel_rfl)) rfl ?_
 exact rt_y HB
end Go.Proofs.Ytodmemndaaiolaa.PC7
