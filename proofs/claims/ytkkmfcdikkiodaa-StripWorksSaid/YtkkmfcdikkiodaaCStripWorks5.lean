/- Lemmas on the way to this: Work finds the quickest order of work, or the error, as the reference does, and nothing is changed: for every car and every list of numbers of the size that Go can hold. -/
import Derived.Test.YtkkmfcdikkiodaaCStripWorks1
import Derived.Test.YtkkmfcdikkiodaaCStripWorks3
import Derived.Test.YtkkmfcdikkiodaaCStripWorks2
import Derived.Test.YtkkmfcdikkiodaaCStripWorks4
import Derived.RegionTactic
import Derived.BigRegion
import Derived.Outline
import Derived.StillTailTactics
import Derived.Deep.QuietTactic
namespace Go.Proofs.Ytkkmfcdikkiodaa.PC4
open Go.RowKit Go.Proofs.YtkkmfcdikkiodaaW.PrintWords Go.Proofs.YtkkmfcdikkiodaaW.PrintLast Go.Proofs.YtkkmfcdikkiodaaW.PrintMore
attribute [local go_sem] max2_int min2_int max_two min_two max_three min_three max_four min_four
set_option linter.unusedVariables false
set_option linter.unusedSimpArgs false
mutual
def swarfref04_States.l0 : Nat → List (List Bool) → Int → List (S50) → Int → List (S61) → Int → List Int → Option ((List (List Bool)))
 | 0, _, _, _, _, _, _, _ => none
 | k + 1, x3, x4, x607000, x607001, x607002, x607003, x607004 => if x4 < (x607000.length : Int) then (swarfref04_States.l1 k x3 x4 ([] : List (List Bool)) 0 x607000 x607001 x607002 x607003 x607004) else (some x3)
def swarfref04_States.l1 : Nat → List (List Bool) → Int → List (List Bool) → Int → List (S50) → Int → List (S61) → Int → List Int → Option ((List (List Bool)))
 | 0, _, _, _, _, _, _, _, _, _ => none
 | k + 1, x3, x4, x5, x6, x607000, x607001, x607002, x607003, x607004 => if x6 < (x3.length : Int) then (swarfref04_States.l2 k x3 x4 x5 x6 true 0 x607000 x607001 x607002 x607003 x607004) else (swarfref04_States.l0 k x5 (wrap64 (x4 + 1)) x607000 x607001 x607002 x607003 x607004)
def swarfref04_States.l2 : Nat → List (List Bool) → Int → List (List Bool) → Int → Bool → Int → List (S50) → Int → List (S61) → Int → List Int → Option ((List (List Bool)))
 | 0, _, _, _, _, _, _, _, _, _, _, _ => none
 | k + 1, x3, x4, x5, x6, x7, x8, x607000, x607001, x607002, x607003, x607004 => if 0 ≤ x4 then (if x4 < (x607000.length : Int) then (if x8 < (((rd_T50 x607000 x4).f0).length : Int) then (if x7 = true then (if 0 ≤ x6 then (if x6 < (x3.length : Int) then (if 0 ≤ x8 then (if 0 ≤ (rd ((rd_T50 x607000 x4).f0) x8) then (if (rd ((rd_T50 x607000 x4).f0) x8) < ((rd_L5 x3 x6).length : Int) then (swarfref04_States.l2 k x3 x4 x5 x6 (rdOf false (rd_L5 x3 x6) (rd ((rd_T50 x607000 x4).f0) x8)) (wrap64 (x8 + 1)) x607000 x607001 x607002 x607003 x607004) else (none)) else (none)) else (none)) else (none)) else (none)) else (swarfref04_States.l2 k x3 x4 x5 x6 false (wrap64 (x8 + 1)) x607000 x607001 x607002 x607003 x607004)) else ((some (([] : List Bool) : List Bool)).bind fun y615 => (if 0 ≤ x6 then (if x6 < (x3.length : Int) then (if y615.length + (rd_L5 x3 x6).length < 140737488355328 then ((some (y615 ++ (rd_L5 x3 x6) : List Bool)).bind fun y619 => (if y619.length < 140737488355328 then (if x5.length < 5864062014805 then ((some (x5 ++ [(y619 ++ [false])] : List (List Bool))).bind fun y625 => (if x7 = true then ((some (([] : List Bool) : List Bool)).bind fun y628 => (if y628.length + (rd_L5 x3 x6).length < 140737488355328 then ((some (y628 ++ (rd_L5 x3 x6) : List Bool)).bind fun y632 => (if y632.length < 140737488355328 then (if y625.length < 5864062014805 then (swarfref04_States.l1 k x3 x4 (y625 ++ [(y632 ++ [true])]) (wrap64 (x6 + 1)) x607000 x607001 x607002 x607003 x607004) else (none)) else (none))) else (none))) else (swarfref04_States.l1 k x3 x4 y625 (wrap64 (x6 + 1)) x607000 x607001 x607002 x607003 x607004))) else (none)) else (none))) else (none)) else (none)) else (none)))) else (none)) else (none)
end
def swarfref04_States.f (k : Nat) (l0_0 : List (S50)) (a0_1 : Int) (l0_2 : List (S61)) (a0_3 : Int) (l0_4 : List Int) : Option ((List (List Bool))) := swarfref04_States.l0 k (([[]] : List (List Bool))) 0 l0_0 a0_1 l0_2 a0_3 l0_4
theorem swarfref04_States.mono_l : ∀ k, (∀ y0 y1 y2 y3 y4 y5 y6, LeO (swarfref04_States.l0 k y0 y1 y2 y3 y4 y5 y6) (swarfref04_States.l0 (k + 1) y0 y1 y2 y3 y4 y5 y6)) ∧ (∀ y0 y1 y2 y3 y4 y5 y6 y7 y8, LeO (swarfref04_States.l1 k y0 y1 y2 y3 y4 y5 y6 y7 y8) (swarfref04_States.l1 (k + 1) y0 y1 y2 y3 y4 y5 y6 y7 y8)) ∧ (∀ y0 y1 y2 y3 y4 y5 y6 y7 y8 y9 y10, LeO (swarfref04_States.l2 k y0 y1 y2 y3 y4 y5 y6 y7 y8 y9 y10) (swarfref04_States.l2 (k + 1) y0 y1 y2 y3 y4 y5 y6 y7 y8 y9 y10))
 | 0 => ⟨fun _ _ _ _ _ _ _ r h => by simp [swarfref04_States.l0] at h, fun _ _ _ _ _ _ _ _ _ r h => by simp [swarfref04_States.l1] at h, fun _ _ _ _ _ _ _ _ _ _ _ r h => by simp [swarfref04_States.l2] at h⟩
 | k + 1 => by
  obtain ⟨ih0, ih1, ih2⟩ := swarfref04_States.mono_l k
  refine ⟨?_, ?_, ?_⟩
  ·
   intro y0 y1 y2 y3 y4 y5 y6
   unfold swarfref04_States.l0
   repeat' first
   | (with_reducible exact ih0 _ _ _ _ _ _ _)
   | (with_reducible exact ih1 _ _ _ _ _ _ _ _ _)
   | (with_reducible exact ih2 _ _ _ _ _ _ _ _ _ _ _)
   | (with_reducible exact LeO.refl _)
   | (with_reducible exact LeO.none _)
   | (with_reducible refine LeO.ite ?_ ?_)
   | (with_reducible refine LeO.bind ?_ (fun _ => ?_))
   | exact ih0 _ _ _ _ _ _ _
   | exact ih1 _ _ _ _ _ _ _ _ _
   | exact ih2 _ _ _ _ _ _ _ _ _ _ _
   | exact LeO.none _
   | refine LeO.ite ?_ ?_
   | refine LeO.bind ?_ (fun _ => ?_)
  ·
   intro y0 y1 y2 y3 y4 y5 y6 y7 y8
   unfold swarfref04_States.l1
   repeat' first
   | (with_reducible exact ih0 _ _ _ _ _ _ _)
   | (with_reducible exact ih1 _ _ _ _ _ _ _ _ _)
   | (with_reducible exact ih2 _ _ _ _ _ _ _ _ _ _ _)
   | (with_reducible exact LeO.refl _)
   | (with_reducible exact LeO.none _)
   | (with_reducible refine LeO.ite ?_ ?_)
   | (with_reducible refine LeO.bind ?_ (fun _ => ?_))
   | exact ih0 _ _ _ _ _ _ _
   | exact ih1 _ _ _ _ _ _ _ _ _
   | exact ih2 _ _ _ _ _ _ _ _ _ _ _
   | exact LeO.none _
   | refine LeO.ite ?_ ?_
   | refine LeO.bind ?_ (fun _ => ?_)
  ·
   intro y0 y1 y2 y3 y4 y5 y6 y7 y8 y9 y10
   unfold swarfref04_States.l2
   repeat' first
   | (with_reducible exact ih0 _ _ _ _ _ _ _)
   | (with_reducible exact ih1 _ _ _ _ _ _ _ _ _)
   | (with_reducible exact ih2 _ _ _ _ _ _ _ _ _ _ _)
   | (with_reducible exact LeO.refl _)
   | (with_reducible exact LeO.none _)
   | (with_reducible refine LeO.ite ?_ ?_)
   | (with_reducible refine LeO.bind ?_ (fun _ => ?_))
   | exact ih0 _ _ _ _ _ _ _
   | exact ih1 _ _ _ _ _ _ _ _ _
   | exact ih2 _ _ _ _ _ _ _ _ _ _ _
   | exact LeO.none _
   | refine LeO.ite ?_ ?_
   | refine LeO.bind ?_ (fun _ => ?_)
theorem swarfref04_States.mono : ∀ a0 a1 a2 a3 a4 k, LeO (swarfref04_States.f k a0 a1 a2 a3 a4) (swarfref04_States.f (k + 1) a0 a1 a2 a3 a4) := by
 intro a0 a1 a2 a3 a4 k
 obtain ⟨ih0, ih1, ih2⟩ := swarfref04_States.mono_l k
 unfold swarfref04_States.f
 repeat' first
   | (with_reducible exact ih0 _ _ _ _ _ _ _)
   | (with_reducible exact ih1 _ _ _ _ _ _ _ _ _)
   | (with_reducible exact ih2 _ _ _ _ _ _ _ _ _ _ _)
   | (with_reducible exact LeO.refl _)
   | (with_reducible exact LeO.none _)
   | (with_reducible refine LeO.ite ?_ ?_)
   | (with_reducible refine LeO.bind ?_ (fun _ => ?_))
   | exact ih0 _ _ _ _ _ _ _
   | exact ih1 _ _ _ _ _ _ _ _ _
   | exact ih2 _ _ _ _ _ _ _ _ _ _ _
   | exact LeO.none _
   | refine LeO.ite ?_ ?_
   | refine LeO.bind ?_ (fun _ => ?_)
set_option maxHeartbeats 8000000 in
set_option maxRecDepth 100000 in
theorem swarfref04_States.calls (k : Nat) (A0_0 : Option Addr) (c0_0 : Nat) (l0_0 : List (S50)) (a0_1 : Int) (A0_2 : Option Addr) (c0_2 : Nat) (l0_2 : List (S61)) (a0_3 : Int) (A0_4 : Option Addr) (c0_4 : Nat) (l0_4 : List Int) (r : List (List Bool)) (w : World) (hr0_0 : Kd.C k50 w A0_0 l0_0.length l0_0) (hc0_0 : l0_0.length ≤ c0_0) (hr0_2 : Kd.C k61 w A0_2 l0_2.length l0_2) (hc0_2 : l0_2.length ≤ c0_2) (hr0_4 : Kd.C (Kd.int .i64) w A0_4 l0_4.length l0_4) (hc0_4 : l0_4.length ≤ c0_4) (h : swarfref04_States.f k l0_0 a0_1 l0_2 a0_3 l0_4 = some r) :
  Calls Try.prog 71 #[.agg #[.slice A0_0 l0_0.length c0_0, .int .i64 a0_1, .slice A0_2 l0_2.length c0_2, .int .i64 a0_3, .slice A0_4 l0_4.length c0_4]] w fun e w' => ∃ v0_ : Value, e = .returned (v0_) ∧ Kd.S (Kd.slice 4 Kd.bool) 31 w' w.heap.size (fun _ => True) v0_ r ∧ Below w.heap.size w w' := by
 have hu26 := Try.underlying26
 have HR0_0 := Aside0.mk hr0_0
 have HC0_0 := Aside0.mk hc0_0
 clear hr0_0 hc0_0
 have HR0_2 := Aside0.mk hr0_2
 have HC0_2 := Aside0.mk hc0_2
 clear hr0_2 hc0_2
 have HR0_4 := Aside0.mk hr0_4
 have HC0_4 := Aside0.mk hc0_4
 clear hr0_4 hc0_4
 have HB := Aside0.mk (Below.refl w.heap.size w)
 have H : (swarfref04_States.l0 k (([[]] : List (List Bool))) 0 l0_0 a0_1 l0_2 a0_3 l0_4) = some r := h
 clear h
 obtain ⟨y607, hy607⟩ : ∃ y_ : List (List Bool), y_ = (([[]] : List (List Bool))) := ⟨_, rfl⟩
 replace H : (swarfref04_States.l0 k y607 0 l0_0 a0_1 l0_2 a0_3 l0_4) = some r := by first | (rw [hy607]; with_reducible exact H) | (have H2_ := (Option.bind_some _ _).symm.trans H; rw [hy607]; with_reducible exact H2_) | (have H2_ := (Option.bind_some _ _).symm.trans H; with_reducible exact H2_) | with_reducible exact H | (rw [hy607]; exact H) | exact H
 have Ny607 := Aside0.mk hy607
 clear hy607
 have H' := Aside0.mk H
 clear H
 go_enter Try.func71, Try.ntmps71
 go_wp2_with (first | ((with_reducible refine gate_dst (N := 1) rfl ?_); refine box_event ?hg (N := 1) ?hd (cs := #[.slice A0_0 l0_0.length c0_0, .int .i64 a0_1, .slice A0_2 l0_2.length c0_2, .int .i64 a0_3, .slice A0_4 l0_4.length c0_4]) (t := 26) ?hr ?_; (case hd => rfl); (case hg => rfl); (case hr => first | (go_simp; done) | (go_simp; rfl)); intro gb606 hg w2 hbox hb; have BK606 := Aside0.mk (hbox); have GW606 := Aside0.mk ((by rw [hg]; exact (below_size (below_x HB.out)) : w.heap.size ≤ gb606)); have GE606 := Aside0.mk ((by rw [hg]; exact (below_size (below_x HB.out)) : w.heap.size ≤ gb606)); replace HB := Aside0.mk (below_step (below_x HB.out) hb); clear hb hbox hg) | ((with_reducible refine gate_dst (N := 9) rfl ?_); refine Kd.S_lit (Kd.slice 4 Kd.bool) _ 31 ?hg (N := 9) ?hd (xs := ([[]] : List (List Bool))) (inner := [.slice none 0 0]) (ok := fun _ => True) (okp := fun _ => True) ?hr ?hp (fun _ hk => hk) trivial (Below.refl _ _) (Nat.le_refl _) (by simp) ?_; (case hd => rfl); (case hg => rfl); (case hr => first | (go_simp; done) | (go_simp; rfl)); (case hp => exact (Reps.one (show Kd.M (Kd.slice 4 Kd.bool) _ _ _ [] [.slice none 0 0] from ⟨_, rfl, Kd.R_nil _ _ _ _ _⟩) (Reps.none _ _))); intro v608 w3 ho4 hb hg_ hnew_; clear hg_ hnew_; (first | rw [← Ny607.out] at ho4 | (simp only [Int.reduceToNat] at ho4; rw [← Ny607.out] at ho4)); have HO609 := Aside0.mk (Kd.S_lower ho4 (below_size (by exact below_y HB.out))); replace BK606 := Aside0.mk (blk_below (blk_x BK606.out) hb); replace HB := bl_x HB hb; clear hb ho4))
 go_loopg [3, 4] k (fun kq v3 v4 w' => ∃ (x3_1 : List (List Bool)) (x4_1 : Int), v4 = .int .i64 x4_1 ∧ Aside0 (swarfref04_States.l0 kq x3_1 x4_1 l0_0 a0_1 l0_2 a0_3 l0_4 = some r) ∧ Aside0 (kq ≤ k) ∧ Aside0 (Kd.S (Kd.slice 4 Kd.bool) 31 w' w.heap.size (fun _ => True) v3 x3_1) ∧ Aside0 (w'.heap[gb606]? = some (.cells #[(.slice A0_0 l0_0.length c0_0), .int .i64 a0_1, (.slice A0_2 l0_2.length c0_2), .int .i64 a0_3, (.slice A0_4 l0_4.length c0_4)] 26 (0, 0))) ∧ Aside0 (Below w.heap.size w w'))
 case atStart => exact ⟨(y607), (0), (by first | rfl | (simp; done) | (simp [*]; done)), H', ⟨Nat.le_refl _⟩, ⟨by (with_reducible repeat (first | apply Kd.S_alloc | apply Kd.S_drewN | apply Kd.S_drew)); exact HO609.out⟩, ⟨blk_x BK606.out⟩, ⟨by exact below_y HB.out⟩⟩
 case round =>
  clear H'
  obtain ⟨x3_1, x4_1, rfl, HA, HK1, HO_3, BK606, HB⟩ := hrel
  cases gk with
  | zero => exact absurd HA.out (by simp [swarfref04_States.l0])
  | succ k1 =>
   have H := HA.out
   clear HA
   simp only [swarfref04_States.l0] at H
   by_cases c5 : x4_1 < (l0_0.length : Int)
   ·
    rw [if_pos c5] at H
    have c5b0 : decide (x4_1 < (l0_0.length : Int)) = true := decide_eq_true c5
    clear c5
    have H' := Aside0.mk H
    clear H
    obtain ⟨_, _, _, _, _⟩ := cz5 BK606
    have hfz6_0 := blk_frozen BK606.out
    go_wp2
    go_loopg [5, 6] k1 (fun kq v5 v6 w' => ∃ (x5_2 : List (List Bool)) (x6_2 : Int), v6 = .int .i64 x6_2 ∧ Aside0 (swarfref04_States.l1 kq x3_1 x4_1 x5_2 x6_2 l0_0 a0_1 l0_2 a0_3 l0_4 = some r) ∧ Aside0 (kq ≤ k1) ∧ Aside0 (Kd.S (Kd.slice 4 Kd.bool) 31 w' w.heap.size (fun k_ => some k_ ≠ (v5 : Value).ownBlock) u3 x3_1) ∧ Aside0 (Kd.S (Kd.slice 4 Kd.bool) 31 w' w.heap.size (fun k_ => some k_ ≠ (u3 : Value).ownBlock) v5 x5_2) ∧ Aside0 (w'.heap[gb606]? = some (.cells #[(.slice A0_0 l0_0.length c0_0), .int .i64 a0_1, (.slice A0_2 l0_2.length c0_2), .int .i64 a0_3, (.slice A0_4 l0_4.length c0_4)] 26 (0, 0))) ∧ Aside0 (Below w.heap.size w w'))
    case atStart => exact ⟨(([] : List (List Bool))), (0), (by first | rfl | (simp; done) | (simp [*]; done)), H', ⟨Nat.le_refl _⟩, ⟨by (with_reducible repeat (first | apply Kd.S_alloc | apply Kd.S_drewN | apply Kd.S_drew)); exact Kd.S_mono HO_3.out (fun _ hk => (by simp [Value.ownBlock]))⟩, ⟨by first | exact Kd.S_nil _ _ _ _ _ | exact Kd.N_nil _ _ _ _ _ | exact Kd.V_nil _ _ _ _ _ | exact Kd.Q_nil _ _ _ _ _ | exact Kd.R_nil _ _ _ _ _⟩, ⟨blk_x BK606.out⟩, ⟨by exact below_y HB.out⟩⟩
    case round =>
     clear H'
     obtain ⟨x5_2, x6_2, rfl, HA, HK2, HO_3, HO_5, BK606, HB⟩ := hrel
     cases gk with
     | zero => exact absurd HA.out (by simp [swarfref04_States.l1])
     | succ k2 =>
      have H := HA.out
      clear HA
      simp only [swarfref04_States.l1] at H
      by_cases c7 : x6_2 < (x3_1.length : Int)
      ·
       rw [if_pos c7] at H
       have c7b0 : decide (x6_2 < (x3_1.length : Int)) = true := decide_eq_true c7
       clear c7
       have H' := Aside0.mk H
       clear H
       obtain ⟨Ao8, co8, eo8⟩ := Kd.S_slice HO_3.out
       subst eo8
       go_wp2
       go_loopg [7, 8] k2 (fun kq v7 v8 w' => ∃ (x7_3 : Bool) (x8_3 : Int), v7 = .bool x7_3 ∧ v8 = .int .i64 x8_3 ∧ Aside0 (swarfref04_States.l2 kq x3_1 x4_1 x5_2 x6_2 x7_3 x8_3 l0_0 a0_1 l0_2 a0_3 l0_4 = some r) ∧ Aside0 (kq ≤ k2) ∧ Aside0 (Kd.S (Kd.slice 4 Kd.bool) 31 w' w.heap.size (fun k_ => some k_ ≠ (u5 : Value).ownBlock) (.slice Ao8 x3_1.length co8) x3_1) ∧ Aside0 (Kd.S (Kd.slice 4 Kd.bool) 31 w' w.heap.size (fun k_ => some k_ ≠ ((.slice Ao8 x3_1.length co8) : Value).ownBlock) u5 x5_2) ∧ Aside0 (w'.heap[gb606]? = some (.cells #[(.slice A0_0 l0_0.length c0_0), .int .i64 a0_1, (.slice A0_2 l0_2.length c0_2), .int .i64 a0_3, (.slice A0_4 l0_4.length c0_4)] 26 (0, 0))) ∧ Aside0 (Below w.heap.size w w'))
       case atStart => exact ⟨(true), (0), (by first | rfl | (simp; done) | (simp [*]; done)), (by first | rfl | (simp; done) | (simp [*]; done)), H', ⟨Nat.le_refl _⟩, ⟨by (with_reducible repeat (first | apply Kd.S_alloc | apply Kd.S_drewN | apply Kd.S_drew)); exact HO_3.out⟩, ⟨by (with_reducible repeat (first | apply Kd.S_alloc | apply Kd.S_drewN | apply Kd.S_drew)); exact HO_5.out⟩, ⟨blk_x BK606.out⟩, ⟨by exact below_y HB.out⟩⟩
       case round =>
        clear H'
        obtain ⟨x7_3, x8_3, rfl, rfl, HA, HK3, HO_3, HO_5, BK606, HB⟩ := hrel
        cases gk with
        | zero => exact absurd HA.out (by simp [swarfref04_States.l2])
        | succ k3 =>
         have H := HA.out
         clear HA
         simp only [swarfref04_States.l2] at H
         by_cases c9 : 0 ≤ x4_1
         ·
          rw [if_pos c9] at H
          have c9b0 : decide (0 ≤ x4_1) = true := decide_eq_true c9
          clear c9
          by_cases c10 : x4_1 < (l0_0.length : Int)
          ·
           rw [if_pos c10] at H
           have c10b0 : decide (x4_1 < (l0_0.length : Int)) = true := decide_eq_true c10
           clear c10
           by_cases c11 : x8_3 < (((rd_T50 l0_0 x4_1).f0).length : Int)
           ·
            rw [if_pos c11] at H
            have c11b0 : decide (x8_3 < (((rd_T50 l0_0 x4_1).f0).length : Int)) = true := decide_eq_true c11
            clear c11
            by_cases c12 : x7_3 = true
            ·
             subst c12
             have H1 : (if 0 ≤ x6_2 then (if x6_2 < (x3_1.length : Int) then (if 0 ≤ x8_3 then (if 0 ≤ (rd ((rd_T50 l0_0 x4_1).f0) x8_3) then (if (rd ((rd_T50 l0_0 x4_1).f0) x8_3) < ((rd_L5 x3_1 x6_2).length : Int) then (swarfref04_States.l2 k3 x3_1 x4_1 x5_2 x6_2 (rdOf false (rd_L5 x3_1 x6_2) (rd ((rd_T50 l0_0 x4_1).f0) x8_3)) (wrap64 (x8_3 + 1)) l0_0 a0_1 l0_2 a0_3 l0_4) else (none)) else (none)) else (none)) else (none)) else (none)) = some r := by rw [if_pos rfl] at H; exact H
             clear H
             have H := H1
             clear H1
             by_cases c13 : 0 ≤ x6_2
             ·
              rw [if_pos c13] at H
              have c13b0 : decide (0 ≤ x6_2) = true := decide_eq_true c13
              clear c13
              by_cases c14 : x6_2 < (x3_1.length : Int)
              ·
               rw [if_pos c14] at H
               have c14b0 : decide (x6_2 < (x3_1.length : Int)) = true := decide_eq_true c14
               clear c14
               by_cases c15 : 0 ≤ x8_3
               ·
                rw [if_pos c15] at H
                have c15b0 : decide (0 ≤ x8_3) = true := decide_eq_true c15
                clear c15
                by_cases c16 : 0 ≤ (rd ((rd_T50 l0_0 x4_1).f0) x8_3)
                ·
                 rw [if_pos c16] at H
                 have c16b0 : decide (0 ≤ (rd ((rd_T50 l0_0 x4_1).f0) x8_3)) = true := decide_eq_true c16
                 clear c16
                 by_cases c17 : (rd ((rd_T50 l0_0 x4_1).f0) x8_3) < ((rd_L5 x3_1 x6_2).length : Int)
                 ·
                  rw [if_pos c17] at H
                  have c17b0 : decide ((rd ((rd_T50 l0_0 x4_1).f0) x8_3) < ((rd_L5 x3_1 x6_2).length : Int)) = true := decide_eq_true c17
                  clear c17
                  have H' := Aside0.mk H
                  clear H
                  obtain ⟨_, _, _, _, _⟩ := cz5 BK606
                  have hfz18_0 := blk_frozen BK606.out
                  have p610 : 0 ≤ (x4_1 : Int) := of_x
                  have q610 : x4_1 < (l0_0.length : Int) := of_x
                  obtain ⟨ad610, A610_0, c610_0, e610, hx610_0, hx610_1, hx610_2, hx610_3, hl610_0, hi610_0⟩ := at_T50 HR0_0.out x4_1 p610 q610
                  cases e610
                  replace hx610_0 := cell_x HB hx610_0
                  replace hx610_1 := cell_x HB hx610_1
                  replace hx610_2 := cell_x HB hx610_2
                  replace hx610_3 := cell_x HB hx610_3
                  have HR610_0 := Aside0.mk hi610_0
                  have HC610_0 := Aside0.mk hl610_0
                  clear hi610_0 hl610_0
                  replace p610 := eq_true p610
                  replace q610 := eq_true q610
                  have p611 : 0 ≤ (x6_2 : Int) := of_x
                  have q611 : x6_2 < (x3_1.length : Int) := of_x
                  obtain ⟨ad611, A611_0, c611_0, e611, hx611_0, hl611_0, hi611_0⟩ := at_L5 (Kd.S_reads' HO_3.out).2.2 x6_2 p611 q611
                  cases e611
                  obtain ⟨ce611, hce611, hMe611, hcc611⟩ := Kd.S_get HO_3.out [] x6_2 p611 (by first | exact q611 | exact of_x | (have e_ := (Kd.S_reads' HO_3.out).1; omega))
                  obtain ⟨ve611_0, rfl, ge611_0⟩ := hMe611
                  have hv611_0 := hcc611 0 _ rfl
                  rw [Nat.add_zero, show ((Kd.slice 4 Kd.bool)).sz = 1 from rfl, Nat.mul_one] at hv611_0
                  replace hv611_0 := Option.some.inj (hv611_0.symm.trans hx611_0)
                  rw [hv611_0] at ge611_0
                  have HL611_0 := Aside0.mk (show Kd.R Kd.bool 4 _ _ _ _ (rd_L5 x3_1 x6_2) from ge611_0)
                  clear hv611_0 ge611_0 hcc611 hce611
                  have HR611_0 := Aside0.mk hi611_0
                  have HC611_0 := Aside0.mk hl611_0
                  clear hi611_0 hl611_0
                  replace p611 := eq_true p611
                  replace q611 := eq_true q611
                  have p612 : 0 ≤ (x4_1 : Int) := of_x
                  have q612 : x4_1 < (l0_0.length : Int) := of_x
                  obtain ⟨ad612, A612_0, c612_0, e612, hx612_0, hx612_1, hx612_2, hx612_3, hl612_0, hi612_0⟩ := at_T50 HR0_0.out x4_1 p612 q612
                  obtain rfl : ad610 = ad612 := (by injection e612)
                  replace hx612_0 := cell_x HB hx612_0
                  replace hx612_1 := cell_x HB hx612_1
                  replace hx612_2 := cell_x HB hx612_2
                  replace hx612_3 := cell_x HB hx612_3
                  have HR612_0 := Aside0.mk hi612_0
                  have HC612_0 := Aside0.mk hl612_0
                  clear hi612_0 hl612_0
                  replace p612 := eq_true p612
                  replace q612 := eq_true q612
                  have ea_ := Option.some.inj (hx610_0.symm.trans hx612_0)
                  injection ea_ with ea_ en_ ec_
                  subst ea_
                  subst ec_
                  clear en_
                  have p613 : 0 ≤ (x8_3 : Int) := of_x
                  have q613 : x8_3 < (((rd_T50 l0_0 x4_1).f0).length : Int) := of_x
                  obtain ⟨ad613, e613, hx613_0⟩ := Kd.at_int HR612_0.out x8_3 p613 q613
                  cases e613
                  replace hx613_0 := cell_x HB hx613_0
                  replace p613 := eq_true p613
                  replace q613 := eq_true q613
                  have p614 : 0 ≤ ((rd ((rd_T50 l0_0 x4_1).f0) x8_3) : Int) := of_x
                  have q614 : (rd ((rd_T50 l0_0 x4_1).f0) x8_3) < ((rd_L5 x3_1 x6_2).length : Int) := of_x
                  obtain ⟨ad614, e614, hx614_0⟩ := Kd.at_bool (by repeat (first | (with_reducible exact HR611_0.out) | (with_reducible refine Kd.C_alloc ?_ _) | (with_reducible refine Kd.C_drewN ?_ _) | (with_reducible refine Kd.C_drew ?_) | exact HR611_0.out)) (rd ((rd_T50 l0_0 x4_1).f0) x8_3) p614 q614
                  cases e614
                  replace p614 := eq_true p614
                  replace q614 := eq_true q614
                  go_wp2
                  repeat (go_quiet (fail); try go_wp2)
                  go_roundg k3
                  case measure => have := HK1.out; have := HK2.out; have := HK3.out; omega
                  case rel => exact ⟨(rdOf false (rd_L5 x3_1 x6_2) (rd ((rd_T50 l0_0 x4_1).f0) x8_3)), (wrap64 (x8_3 + 1)), (by first | rfl | (simp; done) | (simp [*]; done)), (by first | rfl | (simp; done) | (simp [*]; done)), H', ⟨by have := HK1.out; have := HK2.out; have := HK3.out; omega⟩, ⟨by (with_reducible repeat (first | apply Kd.S_alloc | apply Kd.S_drewN | apply Kd.S_drew)); exact HO_3.out⟩, ⟨by (with_reducible repeat (first | apply Kd.S_alloc | apply Kd.S_drewN | apply Kd.S_drew)); exact HO_5.out⟩, ⟨blk_x BK606.out⟩, ⟨by exact below_y HB.out⟩⟩
                 ·
                  rw [if_neg c17] at H
                  exact absurd H (by simp)
                ·
                 rw [if_neg c16] at H
                 exact absurd H (by simp)
               ·
                rw [if_neg c15] at H
                exact absurd H (by simp)
              ·
               rw [if_neg c14] at H
               exact absurd H (by simp)
             ·
              rw [if_neg c13] at H
              exact absurd H (by simp)
            ·
             replace c12 := Bool.eq_false_iff.mpr c12
             subst c12
             have H1 : (swarfref04_States.l2 k3 x3_1 x4_1 x5_2 x6_2 false (wrap64 (x8_3 + 1)) l0_0 a0_1 l0_2 a0_3 l0_4) = some r := by rw [if_neg (show ¬ (false = true) by decide)] at H; exact H
             clear H
             have H := H1
             clear H1
             have H' := Aside0.mk H
             clear H
             obtain ⟨_, _, _, _, _⟩ := cz5 BK606
             have hfz19_0 := blk_frozen BK606.out
             have p610 : 0 ≤ (x4_1 : Int) := of_x
             have q610 : x4_1 < (l0_0.length : Int) := of_x
             obtain ⟨ad610, A610_0, c610_0, e610, hx610_0, hx610_1, hx610_2, hx610_3, hl610_0, hi610_0⟩ := at_T50 HR0_0.out x4_1 p610 q610
             cases e610
             replace hx610_0 := cell_x HB hx610_0
             replace hx610_1 := cell_x HB hx610_1
             replace hx610_2 := cell_x HB hx610_2
             replace hx610_3 := cell_x HB hx610_3
             have HR610_0 := Aside0.mk hi610_0
             have HC610_0 := Aside0.mk hl610_0
             clear hi610_0 hl610_0
             replace p610 := eq_true p610
             replace q610 := eq_true q610
             go_wp2
             repeat (go_quiet (fail); try go_wp2)
             go_roundg k3
             case measure => have := HK1.out; have := HK2.out; have := HK3.out; omega
             case rel => exact ⟨(false), (wrap64 (x8_3 + 1)), (by first | rfl | (simp; done) | (simp [*]; done)), (by first | rfl | (simp; done) | (simp [*]; done)), H', ⟨by have := HK1.out; have := HK2.out; have := HK3.out; omega⟩, ⟨by (with_reducible repeat (first | apply Kd.S_alloc | apply Kd.S_drewN | apply Kd.S_drew)); exact HO_3.out⟩, ⟨by (with_reducible repeat (first | apply Kd.S_alloc | apply Kd.S_drewN | apply Kd.S_drew)); exact HO_5.out⟩, ⟨blk_x BK606.out⟩, ⟨by exact below_y HB.out⟩⟩
           ·
            rw [if_neg c11] at H
            have c11b0 : decide (x8_3 < (((rd_T50 l0_0 x4_1).f0).length : Int)) = false := decide_eq_false c11
            clear c11
            obtain ⟨y615, hy615⟩ : ∃ y_ : List Bool, y_ = (([] : List Bool)) := ⟨_, rfl⟩
            replace H : (if 0 ≤ x6_2 then (if x6_2 < (x3_1.length : Int) then (if y615.length + (rd_L5 x3_1 x6_2).length < 140737488355328 then ((some (y615 ++ (rd_L5 x3_1 x6_2) : List Bool)).bind fun y619 => (if y619.length < 140737488355328 then (if x5_2.length < 5864062014805 then ((some (x5_2 ++ [(y619 ++ [false])] : List (List Bool))).bind fun y625 => (if x7_3 = true then ((some (([] : List Bool) : List Bool)).bind fun y628 => (if y628.length + (rd_L5 x3_1 x6_2).length < 140737488355328 then ((some (y628 ++ (rd_L5 x3_1 x6_2) : List Bool)).bind fun y632 => (if y632.length < 140737488355328 then (if y625.length < 5864062014805 then (swarfref04_States.l1 k3 x3_1 x4_1 (y625 ++ [(y632 ++ [true])]) (wrap64 (x6_2 + 1)) l0_0 a0_1 l0_2 a0_3 l0_4) else (none)) else (none))) else (none))) else (swarfref04_States.l1 k3 x3_1 x4_1 y625 (wrap64 (x6_2 + 1)) l0_0 a0_1 l0_2 a0_3 l0_4))) else (none)) else (none))) else (none)) else (none)) else (none)) = some r := by first | (rw [hy615]; with_reducible exact H) | (have H2_ := (Option.bind_some _ _).symm.trans H; rw [hy615]; with_reducible exact H2_) | (have H2_ := (Option.bind_some _ _).symm.trans H; with_reducible exact H2_) | with_reducible exact H | (rw [hy615]; exact H) | exact H
            have Ny615 := Aside0.mk hy615
            clear hy615
            by_cases c20 : 0 ≤ x6_2
            ·
             rw [if_pos c20] at H
             have c20b0 : decide (0 ≤ x6_2) = true := decide_eq_true c20
             clear c20
             by_cases c21 : x6_2 < (x3_1.length : Int)
             ·
              rw [if_pos c21] at H
              have c21b0 : decide (x6_2 < (x3_1.length : Int)) = true := decide_eq_true c21
              clear c21
              by_cases c22 : y615.length + (rd_L5 x3_1 x6_2).length < 140737488355328
              ·
               rw [if_pos c22] at H
               have LMc22 := Aside0.mk c22
               clear c22
               obtain ⟨y619, hy619⟩ : ∃ y_ : List Bool, y_ = (y615 ++ (rd_L5 x3_1 x6_2)) := ⟨_, rfl⟩
               replace H : (if y619.length < 140737488355328 then (if x5_2.length < 5864062014805 then ((some (x5_2 ++ [(y619 ++ [false])] : List (List Bool))).bind fun y625 => (if x7_3 = true then ((some (([] : List Bool) : List Bool)).bind fun y628 => (if y628.length + (rd_L5 x3_1 x6_2).length < 140737488355328 then ((some (y628 ++ (rd_L5 x3_1 x6_2) : List Bool)).bind fun y632 => (if y632.length < 140737488355328 then (if y625.length < 5864062014805 then (swarfref04_States.l1 k3 x3_1 x4_1 (y625 ++ [(y632 ++ [true])]) (wrap64 (x6_2 + 1)) l0_0 a0_1 l0_2 a0_3 l0_4) else (none)) else (none))) else (none))) else (swarfref04_States.l1 k3 x3_1 x4_1 y625 (wrap64 (x6_2 + 1)) l0_0 a0_1 l0_2 a0_3 l0_4))) else (none)) else (none)) = some r := by first | (rw [hy619]; with_reducible exact H) | (have H2_ := (Option.bind_some _ _).symm.trans H; rw [hy619]; with_reducible exact H2_) | (have H2_ := (Option.bind_some _ _).symm.trans H; with_reducible exact H2_) | with_reducible exact H | (rw [hy619]; exact H) | exact H
               have Ny619 := Aside0.mk hy619
               clear hy619
               by_cases c23 : y619.length < 140737488355328
               ·
                rw [if_pos c23] at H
                have LMc23 := Aside0.mk c23
                clear c23
                obtain ⟨y622, hy622⟩ : ∃ y_ : List Bool, y_ = (y619 ++ [false]) := ⟨_, rfl⟩
                replace H : (if x5_2.length < 5864062014805 then ((some (x5_2 ++ [y622] : List (List Bool))).bind fun y625 => (if x7_3 = true then ((some (([] : List Bool) : List Bool)).bind fun y628 => (if y628.length + (rd_L5 x3_1 x6_2).length < 140737488355328 then ((some (y628 ++ (rd_L5 x3_1 x6_2) : List Bool)).bind fun y632 => (if y632.length < 140737488355328 then (if y625.length < 5864062014805 then (swarfref04_States.l1 k3 x3_1 x4_1 (y625 ++ [(y632 ++ [true])]) (wrap64 (x6_2 + 1)) l0_0 a0_1 l0_2 a0_3 l0_4) else (none)) else (none))) else (none))) else (swarfref04_States.l1 k3 x3_1 x4_1 y625 (wrap64 (x6_2 + 1)) l0_0 a0_1 l0_2 a0_3 l0_4))) else (none)) = some r := by first | (rw [hy622]; with_reducible exact H) | (have H2_ := (Option.bind_some _ _).symm.trans H; rw [hy622]; with_reducible exact H2_) | (have H2_ := (Option.bind_some _ _).symm.trans H; with_reducible exact H2_) | with_reducible exact H | (rw [hy622]; exact H) | exact H
                have Ny622 := Aside0.mk hy622
                clear hy622
                by_cases c24 : x5_2.length < 5864062014805
                ·
                 rw [if_pos c24] at H
                 have LMc24 := Aside0.mk c24
                 clear c24
                 obtain ⟨y625, hy625⟩ : ∃ y_ : List (List Bool), y_ = (x5_2 ++ [y622]) := ⟨_, rfl⟩
                 replace H : (if x7_3 = true then ((some (([] : List Bool) : List Bool)).bind fun y628 => (if y628.length + (rd_L5 x3_1 x6_2).length < 140737488355328 then ((some (y628 ++ (rd_L5 x3_1 x6_2) : List Bool)).bind fun y632 => (if y632.length < 140737488355328 then (if y625.length < 5864062014805 then (swarfref04_States.l1 k3 x3_1 x4_1 (y625 ++ [(y632 ++ [true])]) (wrap64 (x6_2 + 1)) l0_0 a0_1 l0_2 a0_3 l0_4) else (none)) else (none))) else (none))) else (swarfref04_States.l1 k3 x3_1 x4_1 y625 (wrap64 (x6_2 + 1)) l0_0 a0_1 l0_2 a0_3 l0_4)) = some r := by first | (rw [hy625]; with_reducible exact H) | (have H2_ := (Option.bind_some _ _).symm.trans H; rw [hy625]; with_reducible exact H2_) | (have H2_ := (Option.bind_some _ _).symm.trans H; with_reducible exact H2_) | with_reducible exact H | (rw [hy625]; exact H) | exact H
                 have Ny625 := Aside0.mk hy625
                 clear hy625
                 by_cases c25 : x7_3 = true
                 ·
                  subst c25
                  have H1 : ((some (([] : List Bool) : List Bool)).bind fun y628 => (if y628.length + (rd_L5 x3_1 x6_2).length < 140737488355328 then ((some (y628 ++ (rd_L5 x3_1 x6_2) : List Bool)).bind fun y632 => (if y632.length < 140737488355328 then (if y625.length < 5864062014805 then (swarfref04_States.l1 k3 x3_1 x4_1 (y625 ++ [(y632 ++ [true])]) (wrap64 (x6_2 + 1)) l0_0 a0_1 l0_2 a0_3 l0_4) else (none)) else (none))) else (none))) = some r := by rw [if_pos rfl] at H; exact H
                  clear H
                  have H := H1
                  clear H1
                  obtain ⟨y628, hy628⟩ : ∃ y_ : List Bool, y_ = (([] : List Bool)) := ⟨_, rfl⟩
                  replace H : (if y628.length + (rd_L5 x3_1 x6_2).length < 140737488355328 then ((some (y628 ++ (rd_L5 x3_1 x6_2) : List Bool)).bind fun y632 => (if y632.length < 140737488355328 then (if y625.length < 5864062014805 then (swarfref04_States.l1 k3 x3_1 x4_1 (y625 ++ [(y632 ++ [true])]) (wrap64 (x6_2 + 1)) l0_0 a0_1 l0_2 a0_3 l0_4) else (none)) else (none))) else (none)) = some r := by first | (rw [hy628]; with_reducible exact H) | (have H2_ := (Option.bind_some _ _).symm.trans H; rw [hy628]; with_reducible exact H2_) | (have H2_ := (Option.bind_some _ _).symm.trans H; with_reducible exact H2_) | with_reducible exact H | (rw [hy628]; exact H) | exact H
                  have Ny628 := Aside0.mk hy628
                  clear hy628
                  by_cases c26 : y628.length + (rd_L5 x3_1 x6_2).length < 140737488355328
                  ·
                   rw [if_pos c26] at H
                   have LMc26 := Aside0.mk c26
                   clear c26
                   obtain ⟨y632, hy632⟩ : ∃ y_ : List Bool, y_ = (y628 ++ (rd_L5 x3_1 x6_2)) := ⟨_, rfl⟩
                   replace H : (if y632.length < 140737488355328 then (if y625.length < 5864062014805 then (swarfref04_States.l1 k3 x3_1 x4_1 (y625 ++ [(y632 ++ [true])]) (wrap64 (x6_2 + 1)) l0_0 a0_1 l0_2 a0_3 l0_4) else (none)) else (none)) = some r := by first | (rw [hy632]; with_reducible exact H) | (have H2_ := (Option.bind_some _ _).symm.trans H; rw [hy632]; with_reducible exact H2_) | (have H2_ := (Option.bind_some _ _).symm.trans H; with_reducible exact H2_) | with_reducible exact H | (rw [hy632]; exact H) | exact H
                   have Ny632 := Aside0.mk hy632
                   clear hy632
                   by_cases c27 : y632.length < 140737488355328
                   ·
                    rw [if_pos c27] at H
                    have LMc27 := Aside0.mk c27
                    clear c27
                    obtain ⟨y635, hy635⟩ : ∃ y_ : List Bool, y_ = (y632 ++ [true]) := ⟨_, rfl⟩
                    replace H : (if y625.length < 5864062014805 then (swarfref04_States.l1 k3 x3_1 x4_1 (y625 ++ [y635]) (wrap64 (x6_2 + 1)) l0_0 a0_1 l0_2 a0_3 l0_4) else (none)) = some r := by first | (rw [hy635]; with_reducible exact H) | (have H2_ := (Option.bind_some _ _).symm.trans H; rw [hy635]; with_reducible exact H2_) | (have H2_ := (Option.bind_some _ _).symm.trans H; with_reducible exact H2_) | with_reducible exact H | (rw [hy635]; exact H) | exact H
                    have Ny635 := Aside0.mk hy635
                    clear hy635
                    by_cases c28 : y625.length < 5864062014805
                    ·
                     rw [if_pos c28] at H
                     have LMc28 := Aside0.mk c28
                     clear c28
                     obtain ⟨y638, hy638⟩ : ∃ y_ : List (List Bool), y_ = (y625 ++ [y635]) := ⟨_, rfl⟩
                     replace H : (swarfref04_States.l1 k3 x3_1 x4_1 y638 (wrap64 (x6_2 + 1)) l0_0 a0_1 l0_2 a0_3 l0_4) = some r := by first | (rw [hy638]; with_reducible exact H) | (have H2_ := (Option.bind_some _ _).symm.trans H; rw [hy638]; with_reducible exact H2_) | (have H2_ := (Option.bind_some _ _).symm.trans H; with_reducible exact H2_) | with_reducible exact H | (rw [hy638]; exact H) | exact H
                     have Ny638 := Aside0.mk hy638
                     clear hy638
                     have H' := Aside0.mk H
                     clear H
                     obtain ⟨_, _, _, _, _⟩ := cz5 BK606
                     have hfz29_0 := blk_frozen BK606.out
                     have p610 : 0 ≤ (x4_1 : Int) := of_x
                     have q610 : x4_1 < (l0_0.length : Int) := of_x
                     obtain ⟨ad610, A610_0, c610_0, e610, hx610_0, hx610_1, hx610_2, hx610_3, hl610_0, hi610_0⟩ := at_T50 HR0_0.out x4_1 p610 q610
                     cases e610
                     replace hx610_0 := cell_x HB hx610_0
                     replace hx610_1 := cell_x HB hx610_1
                     replace hx610_2 := cell_x HB hx610_2
                     replace hx610_3 := cell_x HB hx610_3
                     have HR610_0 := Aside0.mk hi610_0
                     have HC610_0 := Aside0.mk hl610_0
                     clear hi610_0 hl610_0
                     replace p610 := eq_true p610
                     replace q610 := eq_true q610
                     go_wp2_with (first | ((with_reducible refine gate_dst (N := 53) rfl ?_); refine Kd.R_lit Kd.bool _ 4 ?hg (N := 53) ?hd (xs := ([] : List Bool)) (inner := []) (ok := fun _ => True) (okp := fun _ => True) ?hr ?hp (fun _ hk => hk) trivial (Below.refl _ _) (Nat.le_refl _) (by simp) ?_; (case hd => rfl); (case hg => rfl); (case hr => first | (go_simp; done) | (go_simp; rfl)); (case hp => exact (Reps.none _ _)); intro v616 w30 ho31 hb hg_ hnew_; clear hg_ hnew_; (first | rw [← Ny615.out] at ho31 | (simp only [Int.reduceToNat] at ho31; rw [← Ny615.out] at ho31)); replace HO_3 := Aside0.mk (Kd.S_elder' (Kd.S_x HO_3.out) (Kd.R_base ho31) hb); replace HO_5 := Aside0.mk (Kd.S_elder' (Kd.S_x HO_5.out) (Kd.R_base ho31) hb); have HO617 := Aside0.mk (Kd.R_lower ho31 (below_size (by exact below_y HB.out))); replace BK606 := Aside0.mk (blk_below (blk_x BK606.out) hb); replace HB := bl_x HB hb; clear hb ho31; have p618 : 0 ≤ (x6_2 : Int) := of_x; have q618 : x6_2 < (x3_1.length : Int) := of_x; obtain ⟨ad618, A618_0, c618_0, e618, hx618_0, hl618_0, hi618_0⟩ := at_L5 (Kd.S_reads' HO_3.out).2.2 x6_2 p618 q618; cases e618; obtain ⟨ce618, hce618, hMe618, hcc618⟩ := Kd.S_get HO_3.out [] x6_2 p618 (by first | exact q618 | exact of_x | (have e_ := (Kd.S_reads' HO_3.out).1; omega)); obtain ⟨ve618_0, rfl, ge618_0⟩ := hMe618; have hv618_0 := hcc618 0 _ rfl; rw [Nat.add_zero, show ((Kd.slice 4 Kd.bool)).sz = 1 from rfl, Nat.mul_one] at hv618_0; replace hv618_0 := Option.some.inj (hv618_0.symm.trans hx618_0); rw [hv618_0] at ge618_0; have HL618_0 := Aside0.mk (show Kd.R Kd.bool 4 _ _ _ _ (rd_L5 x3_1 x6_2) from ge618_0); clear hv618_0 ge618_0; clear hcc618 hce618; have HR618_0 := Aside0.mk hi618_0; have HC618_0 := Aside0.mk hl618_0; clear hi618_0 hl618_0; replace p618 := eq_true p618; replace q618 := eq_true q618) | ((with_reducible refine gate_builtin (b := .append) (xs := #[.tmp 53, .tmp 57]) rfl ?_); at_builtin; refine Kd.R_append_rows Kd.bool (w0 := w) w.heap.size rfl (.tmp 53) (.tmp 57) 31 4 (.bool false) 1 rfl Try.underlying31 info4 rfl (by decide) (by omega) v616 y615 (rd_L5 x3_1 x6_2) _ _ _ (fun _ => True) (fun _ => False) rfl rfl ?aO ?aR (fun _ _ h => h) (fun _ h => h.elim) ?aF ?aB ?aS ?aL ?_; (case aR => repeat (first | exact (by repeat (first | (with_reducible exact HR618_0.out) | (with_reducible refine Kd.C_alloc ?_ _) | (with_reducible refine Kd.C_drewN ?_ _) | (with_reducible refine Kd.C_drew ?_) | exact HR618_0.out)) | (with_reducible refine Kd.C_alloc ?_ _) | (with_reducible refine Kd.C_drewN ?_ _) | (with_reducible refine Kd.C_drew ?_))); (case aB => exact (by exact below_y HB.out)); (case aF => exact (fun _ _ => trivial)); (case aO => exact (Kd.R_x HO617.out)); (case aS => exact (below_size (by exact below_y HB.out))); (case aL => have := LMc22.out; omega); intro v620 w32 ho hb hg hat; rw [← Ny619.out] at ho; replace HO_3 := Aside0.mk (Kd.S_after (ok := (fun k_ => some k_ ≠ (u5 : Value).ownBlock)) (Kd.S_x HO_3.out) hg hat); replace HO_5 := Aside0.mk (Kd.S_after (ok := (fun k_ => some k_ ≠ (.slice (some ad618) x3_1.length co8 : Value).ownBlock)) (Kd.S_x HO_5.out) hg hat); replace BK606 := Aside0.mk (blk_grown (blk_x BK606.out) hg (Kd.R_ne HO617.out BK606.out (by decide))); replace HL618_0 := Aside0.mk (Kd.R_after (ok := (fun k_ => some k_ ≠ (.slice (some ad618) x3_1.length co8 : Value).ownBlock ∧ some k_ ≠ (u5 : Value).ownBlock)) (by (with_reducible repeat (first | apply Kd.R_alloc | apply Kd.R_drewN | apply Kd.R_drew)); exact Kd.R_mono HL618_0.out (fun _ hk => ⟨⟨hk.2, hk.1.1⟩, hk.1.2⟩)) hg hat); replace HB := Aside0.mk (hb); have HO621 := Aside0.mk (ho); clear HO617; clear ho hb hg hat) | ((with_reducible refine gate_builtin (b := .append) (xs := #[.tmp 58, .tmp 59]) rfl ?_); at_builtin; refine Kd.R_append Kd.bool (w0 := w) w.heap.size rfl (.tmp 58) (.tmp 59) 31 4 (.bool false) 1 rfl Try.underlying31 info4 rfl (by decide) (by omega) v620 y619 false [.bool false] (fun _ => True) (fun _ => False) rfl rfl ?aP (fun _ hk => hk.elim) ?aF ?aO ?aB ?aS ?aL ?_; (case aP => exact rfl); (case aB => exact (by exact below_y HB.out)); (case aF => exact (fun _ _ => trivial)); (case aO => exact (Kd.R_x HO621.out)); (case aS => exact (below_size (by exact below_y HB.out))); (case aL => have := LMc23.out; omega); intro v623 w33 ho hb hg hat; rw [← Ny622.out] at ho; replace HO_3 := Aside0.mk (Kd.S_after (ok := (fun k_ => some k_ ≠ (u5 : Value).ownBlock)) (Kd.S_x HO_3.out) hg hat); replace HO_5 := Aside0.mk (Kd.S_after (ok := (fun k_ => some k_ ≠ (.slice (some ad618) x3_1.length co8 : Value).ownBlock)) (Kd.S_x HO_5.out) hg hat); replace BK606 := Aside0.mk (blk_grown (blk_x BK606.out) hg (Kd.R_ne HO621.out BK606.out (by decide))); replace HL618_0 := Aside0.mk (Kd.R_after (ok := (fun k_ => some k_ ≠ (.slice (some ad618) x3_1.length co8 : Value).ownBlock ∧ some k_ ≠ (u5 : Value).ownBlock)) (Kd.R_x HL618_0.out) hg hat); replace HB := Aside0.mk (hb); have HO624 := Aside0.mk (ho); clear HO621; clear ho hb hg hat; obtain ⟨Ao35, co35, eo35⟩ := Kd.R_slice HO624.out; subst eo35) | ((with_reducible refine gate_builtin (b := .append) (xs := #[.tmp 52, .tmp 61]) rfl ?_); at_builtin; refine Kd.S_append (Kd.slice 4 Kd.bool) (w0 := w) w.heap.size rfl (.tmp 52) (.tmp 61) 70 31 (.slice none 0 0) 24 rfl Try.underlying70 info31 rfl (by decide) (by omega) u5 x5_2 y622 [.slice Ao35 y622.length co35] (fun k_ => some k_ ≠ (.slice (some ad618) x3_1.length co8 : Value).ownBlock) (fun k_ => some k_ = (.slice Ao35 y622.length co35 : Value).ownBlock) rfl rfl ?aP (fun k_ hk_ => ((Kd.R_mono (ok' := fun k_ => ((fun k_ => some k_ ≠ (.slice (some ad618) x3_1.length co8 : Value).ownBlock)) k_ ∧ some k_ ≠ (u5 : Value).ownBlock) (Kd.R_apart' (Kd.R_apart' (HO624.out) (Kd.S_typed HO_3.out) (by decide)) (Kd.S_typed HO_5.out) (by decide)) (fun k_ hk => ⟨hk.1.2, hk.2⟩))).1 k_ hk_.symm) ?aF ?aO ?aB ?aS ?aL ?_; (case aP => exact Kd.M_row (Kd.R_mono (Kd.R_tight rfl (Kd.R_mono (ok' := fun k_ => ((fun k_ => some k_ ≠ (.slice (some ad618) x3_1.length co8 : Value).ownBlock)) k_ ∧ some k_ ≠ (u5 : Value).ownBlock) (Kd.R_apart' (Kd.R_apart' (HO624.out) (Kd.S_typed HO_3.out) (by decide)) (Kd.S_typed HO_5.out) (by decide)) (fun k_ hk => ⟨hk.1.2, hk.2⟩))) (fun _ h_ => h_))); (case aB => exact (by exact below_y HB.out)); (case aF => exact (fun k_ hk => Kd.fresh' (Kd.S_lt (Kd.S_x HO_3.out)) k_ hk)); (case aO => exact (by (with_reducible repeat (first | apply Kd.S_alloc | apply Kd.S_drewN | apply Kd.S_drew)); exact Kd.S_mono HO_5.out (fun k_ hk => ⟨hk.1, fun e_ => hk.2 e_⟩))); (case aS => exact (below_size (by exact below_y HB.out))); (case aL => have := LMc24.out; omega); intro v626 w34 ho hb hg hat; rw [← Ny625.out] at ho; replace HO_3 := Aside0.mk (Kd.S_after (ok := (fun k_ => some k_ ≠ (.slice Ao35 y622.length co35 : Value).ownBlock)) (by (with_reducible repeat (first | apply Kd.S_alloc | apply Kd.S_drewN | apply Kd.S_drew)); exact Kd.S_mono HO_3.out (fun _ hk => ⟨hk.2, hk.1⟩)) hg hat); replace BK606 := Aside0.mk (blk_grown (blk_x BK606.out) hg (Kd.S_ne HO_5.out BK606.out (by decide))); replace HL618_0 := Aside0.mk (Kd.R_after (ok := (fun k_ => some k_ ≠ (.slice (some ad618) x3_1.length co8 : Value).ownBlock ∧ some k_ ≠ (.slice Ao35 y622.length co35 : Value).ownBlock)) (by (with_reducible repeat (first | apply Kd.R_alloc | apply Kd.R_drewN | apply Kd.R_drew)); exact Kd.R_mono HL618_0.out (fun _ hk => ⟨⟨hk.1.1, hk.2⟩, hk.1.2⟩)) hg hat); replace HB := Aside0.mk (hb); have HO627 := Aside0.mk (ho); clear HO_5 HO624; clear ho hb hg hat) | ((with_reducible refine gate_dst (N := 65) rfl ?_); refine Kd.R_lit Kd.bool _ 4 ?hg (N := 65) ?hd (xs := ([] : List Bool)) (inner := []) (ok := fun _ => True) (okp := fun _ => True) ?hr ?hp (fun _ hk => hk) trivial (Below.refl _ _) (Nat.le_refl _) (by simp) ?_; (case hd => rfl); (case hg => rfl); (case hr => first | (go_simp; done) | (go_simp; rfl)); (case hp => exact (Reps.none _ _)); intro v629 w36 ho37 hb hg_ hnew_; clear hg_ hnew_; (first | rw [← Ny628.out] at ho37 | (simp only [Int.reduceToNat] at ho37; rw [← Ny628.out] at ho37)); replace HO_3 := Aside0.mk (Kd.S_elder' (Kd.S_x HO_3.out) (Kd.R_base ho37) hb); replace HO627 := Aside0.mk (Kd.S_elder' (Kd.S_x HO627.out) (Kd.R_base ho37) hb); have HO630 := Aside0.mk (Kd.R_lower (Kd.R_new' ho37 (Kd.R_lt (Kd.R_x HL618_0.out))) (below_size (by exact below_y HB.out))); replace HL618_0 := Aside0.mk (Kd.R_elder' (Kd.R_x HL618_0.out) (Kd.R_base ho37) hb); replace BK606 := Aside0.mk (blk_below (blk_x BK606.out) hb); replace HB := bl_x HB hb; clear hb ho37; have p631 : 0 ≤ (x6_2 : Int) := of_x; have q631 : x6_2 < (x3_1.length : Int) := of_x; obtain ⟨ad631, A631_0, c631_0, e631, hx631_0, hl631_0, hi631_0⟩ := at_L5 (Kd.S_reads' HO_3.out).2.2 x6_2 p631 q631; obtain rfl : ad618 = ad631 := (by injection e631); obtain ⟨ce631, hce631, hMe631, hcc631⟩ := Kd.S_get HO_3.out [] x6_2 p631 (by first | exact q631 | exact of_x | (have e_ := (Kd.S_reads' HO_3.out).1; omega)); obtain ⟨ve631_0, rfl, ge631_0⟩ := hMe631; have hv631_0 := hcc631 0 _ rfl; rw [Nat.add_zero, show ((Kd.slice 4 Kd.bool)).sz = 1 from rfl, Nat.mul_one] at hv631_0; replace hv631_0 := Option.some.inj (hv631_0.symm.trans hx631_0); rw [hv631_0] at ge631_0; have HL631_0 := Aside0.mk (show Kd.R Kd.bool 4 _ _ _ _ (rd_L5 x3_1 x6_2) from ge631_0); clear hv631_0 ge631_0; clear hcc631 hce631; have HR631_0 := Aside0.mk hi631_0; have HC631_0 := Aside0.mk hl631_0; clear hi631_0 hl631_0; replace p631 := eq_true p631; replace q631 := eq_true q631) | ((with_reducible refine gate_builtin (b := .append) (xs := #[.tmp 65, .tmp 69]) rfl ?_); at_builtin; refine Kd.R_append_rows Kd.bool (w0 := w) w.heap.size rfl (.tmp 65) (.tmp 69) 31 4 (.bool false) 1 rfl Try.underlying31 info4 rfl (by decide) (by omega) v629 y628 (rd_L5 x3_1 x6_2) _ _ _ (fun k_ => some k_ ≠ (.slice A618_0 (rd_L5 x3_1 x6_2).length c618_0 : Value).ownBlock) (fun _ => False) rfl rfl ?aO ?aR (fun _ _ h => h) (fun _ h => h.elim) ?aF ?aB ?aS ?aL ?_; (case aR => repeat (first | exact (by repeat (first | (with_reducible exact HR631_0.out) | (with_reducible refine Kd.C_alloc ?_ _) | (with_reducible refine Kd.C_drewN ?_ _) | (with_reducible refine Kd.C_drew ?_) | exact HR631_0.out)) | (with_reducible refine Kd.C_alloc ?_ _) | (with_reducible refine Kd.C_drewN ?_ _) | (with_reducible refine Kd.C_drew ?_))); (case aB => exact (by exact below_y HB.out)); (case aF => exact (fun k_ hk => Kd.fresh' (Kd.R_lt (Kd.R_x HL618_0.out)) k_ hk)); (case aO => exact (by (with_reducible repeat (first | apply Kd.R_alloc | apply Kd.R_drewN | apply Kd.R_drew)); exact Kd.R_mono HO630.out (fun _ hk => hk.2))); (case aS => exact (below_size (by exact below_y HB.out))); (case aL => have := LMc26.out; omega); intro v633 w38 ho hb hg hat; rw [← Ny632.out] at ho; replace HO_3 := Aside0.mk (Kd.S_after (ok := (fun k_ => some k_ ≠ (v626 : Value).ownBlock)) (by (with_reducible repeat (first | apply Kd.S_alloc | apply Kd.S_drewN | apply Kd.S_drew)); exact Kd.S_mono HO_3.out (fun _ hk => ⟨hk.1.2, hk.2⟩)) hg hat); replace BK606 := Aside0.mk (blk_grown (blk_x BK606.out) hg (Kd.R_ne HO630.out BK606.out (by decide))); replace HL618_0 := Aside0.mk (Kd.R_after (ok := (fun k_ => some k_ ≠ (.slice (some ad618) x3_1.length co8 : Value).ownBlock ∧ some k_ ≠ (v626 : Value).ownBlock)) (by (with_reducible repeat (first | apply Kd.R_alloc | apply Kd.R_drewN | apply Kd.R_drew)); exact Kd.R_mono HL618_0.out (fun _ hk => ⟨⟨hk.1.1.1, hk.1.2⟩, hk.2⟩)) hg hat); replace HO627 := Aside0.mk (Kd.S_after (ok := (fun k_ => some k_ ≠ (.slice (some ad618) x3_1.length co8 : Value).ownBlock)) (Kd.S_x HO627.out) hg hat); replace HL631_0 := Aside0.mk (Kd.R_after (ok := (fun k_ => some k_ ≠ (.slice (some ad618) x3_1.length co8 : Value).ownBlock ∧ some k_ ≠ (v626 : Value).ownBlock)) (by (with_reducible repeat (first | apply Kd.R_alloc | apply Kd.R_drewN | apply Kd.R_drew)); exact Kd.R_mono HL631_0.out (fun _ hk => ⟨⟨hk.2, hk.1.1.2⟩, hk.1.2⟩)) hg hat); replace HB := Aside0.mk (hb); have HO634 := Aside0.mk (ho); clear HO630; clear ho hb hg hat) | ((with_reducible refine gate_builtin (b := .append) (xs := #[.tmp 70, .tmp 71]) rfl ?_); at_builtin; refine Kd.R_append Kd.bool (w0 := w) w.heap.size rfl (.tmp 70) (.tmp 71) 31 4 (.bool false) 1 rfl Try.underlying31 info4 rfl (by decide) (by omega) v633 y632 true [.bool true] (fun k_ => some k_ ≠ (.slice A618_0 (rd_L5 x3_1 x6_2).length c618_0 : Value).ownBlock) (fun _ => False) rfl rfl ?aP (fun _ hk => hk.elim) ?aF ?aO ?aB ?aS ?aL ?_; (case aP => exact rfl); (case aB => exact (by exact below_y HB.out)); (case aF => exact (fun k_ hk => Kd.fresh' (Kd.R_lt (Kd.R_x HL618_0.out)) k_ hk)); (case aO => exact (Kd.R_x HO634.out)); (case aS => exact (below_size (by exact below_y HB.out))); (case aL => have := LMc27.out; omega); intro v636 w39 ho hb hg hat; rw [← Ny635.out] at ho; replace HO_3 := Aside0.mk (Kd.S_after (ok := (fun k_ => some k_ ≠ (v626 : Value).ownBlock)) (Kd.S_x HO_3.out) hg hat); replace BK606 := Aside0.mk (blk_grown (blk_x BK606.out) hg (Kd.R_ne HO634.out BK606.out (by decide))); replace HL618_0 := Aside0.mk (Kd.R_after (ok := (fun k_ => some k_ ≠ (.slice (some ad618) x3_1.length co8 : Value).ownBlock ∧ some k_ ≠ (v626 : Value).ownBlock)) (Kd.R_x HL618_0.out) hg hat); replace HO627 := Aside0.mk (Kd.S_after (ok := (fun k_ => some k_ ≠ (.slice (some ad618) x3_1.length co8 : Value).ownBlock)) (Kd.S_x HO627.out) hg hat); replace HL631_0 := Aside0.mk (Kd.R_after (ok := (fun k_ => some k_ ≠ (.slice (some ad618) x3_1.length co8 : Value).ownBlock ∧ some k_ ≠ (v626 : Value).ownBlock)) (Kd.R_x HL631_0.out) hg hat); replace HB := Aside0.mk (hb); have HO637 := Aside0.mk (ho); clear HO634; clear ho hb hg hat; obtain ⟨Ao41, co41, eo41⟩ := Kd.R_slice HO637.out; subst eo41) | ((with_reducible refine gate_builtin (b := .append) (xs := #[.tmp 64, .tmp 73]) rfl ?_); at_builtin; refine Kd.S_append (Kd.slice 4 Kd.bool) (w0 := w) w.heap.size rfl (.tmp 64) (.tmp 73) 70 31 (.slice none 0 0) 24 rfl Try.underlying70 info31 rfl (by decide) (by omega) v626 y625 y635 [.slice Ao41 y635.length co41] (fun k_ => some k_ ≠ (.slice (some ad618) x3_1.length co8 : Value).ownBlock) (fun k_ => some k_ = (.slice Ao41 y635.length co41 : Value).ownBlock) rfl rfl ?aP (fun k_ hk_ => ((Kd.R_mono (ok' := fun k_ => ((fun k_ => some k_ ≠ (.slice (some ad618) x3_1.length co8 : Value).ownBlock)) k_ ∧ some k_ ≠ (v626 : Value).ownBlock) (Kd.R_apart' (Kd.R_apart' (HO637.out) (Kd.S_typed HO_3.out) (by decide)) (Kd.S_typed HO627.out) (by decide)) (fun k_ hk => ⟨hk.1.2, hk.2⟩))).1 k_ hk_.symm) ?aF ?aO ?aB ?aS ?aL ?_; (case aP => exact Kd.M_row (Kd.R_mono (Kd.R_tight rfl (Kd.R_mono (ok' := fun k_ => ((fun k_ => some k_ ≠ (.slice (some ad618) x3_1.length co8 : Value).ownBlock)) k_ ∧ some k_ ≠ (v626 : Value).ownBlock) (Kd.R_apart' (Kd.R_apart' (HO637.out) (Kd.S_typed HO_3.out) (by decide)) (Kd.S_typed HO627.out) (by decide)) (fun k_ hk => ⟨hk.1.2, hk.2⟩))) (fun _ h_ => h_))); (case aB => exact (by exact below_y HB.out)); (case aF => exact (fun k_ hk => Kd.fresh' (Kd.S_lt (Kd.S_x HO_3.out)) k_ hk)); (case aO => exact (by (with_reducible repeat (first | apply Kd.S_alloc | apply Kd.S_drewN | apply Kd.S_drew)); exact Kd.S_mono HO627.out (fun k_ hk => ⟨hk.1, fun e_ => hk.2 e_⟩))); (case aS => exact (below_size (by exact below_y HB.out))); (case aL => have := LMc28.out; omega); intro v639 w40 ho hb hg hat; rw [← Ny638.out] at ho; replace HO_3 := Aside0.mk (Kd.S_after (ok := (fun k_ => some k_ ≠ (.slice Ao41 y635.length co41 : Value).ownBlock)) (by (with_reducible repeat (first | apply Kd.S_alloc | apply Kd.S_drewN | apply Kd.S_drew)); exact Kd.S_mono HO_3.out (fun _ hk => ⟨hk.2, hk.1⟩)) hg hat); replace BK606 := Aside0.mk (blk_grown (blk_x BK606.out) hg (Kd.S_ne HO627.out BK606.out (by decide))); replace HL618_0 := Aside0.mk (Kd.R_after (ok := (fun k_ => some k_ ≠ (.slice (some ad618) x3_1.length co8 : Value).ownBlock ∧ some k_ ≠ (.slice Ao41 y635.length co41 : Value).ownBlock)) (by (with_reducible repeat (first | apply Kd.R_alloc | apply Kd.R_drewN | apply Kd.R_drew)); exact Kd.R_mono HL618_0.out (fun _ hk => ⟨⟨hk.1.1, hk.2⟩, hk.1.2⟩)) hg hat); replace HL631_0 := Aside0.mk (Kd.R_after (ok := (fun k_ => some k_ ≠ (.slice (some ad618) x3_1.length co8 : Value).ownBlock ∧ some k_ ≠ (.slice Ao41 y635.length co41 : Value).ownBlock)) (by (with_reducible repeat (first | apply Kd.R_alloc | apply Kd.R_drewN | apply Kd.R_drew)); exact Kd.R_mono HL631_0.out (fun _ hk => ⟨⟨hk.1.1, hk.2⟩, hk.1.2⟩)) hg hat); replace HB := Aside0.mk (hb); have HO640 := Aside0.mk (ho); clear HO627 HO637; clear ho hb hg hat))
                     go_roundg k3
                     case measure => have := HK1.out; have := HK2.out; have := HK3.out; omega
                     case rel => exact ⟨(y638), (wrap64 (x6_2 + 1)), (by first | rfl | (simp; done) | (simp [*]; done)), H', ⟨by have := HK1.out; have := HK2.out; have := HK3.out; omega⟩, ⟨by (with_reducible repeat (first | apply Kd.S_alloc | apply Kd.S_drewN | apply Kd.S_drew)); exact Kd.S_mono HO_3.out (fun _ hk => hk.2)⟩, ⟨by (with_reducible repeat (first | apply Kd.S_alloc | apply Kd.S_drewN | apply Kd.S_drew)); exact HO640.out⟩, ⟨blk_x BK606.out⟩, ⟨by exact below_y HB.out⟩⟩
                    ·
                     rw [if_neg c28] at H
                     exact absurd H (by simp)
                   ·
                    rw [if_neg c27] at H
                    exact absurd H (by simp)
                  ·
                   rw [if_neg c26] at H
                   exact absurd H (by simp)
                 ·
                  replace c25 := Bool.eq_false_iff.mpr c25
                  subst c25
                  have H1 : (swarfref04_States.l1 k3 x3_1 x4_1 y625 (wrap64 (x6_2 + 1)) l0_0 a0_1 l0_2 a0_3 l0_4) = some r := by rw [if_neg (show ¬ (false = true) by decide)] at H; exact H
                  clear H
                  have H := H1
                  clear H1
                  have H' := Aside0.mk H
                  clear H
                  obtain ⟨_, _, _, _, _⟩ := cz5 BK606
                  have hfz42_0 := blk_frozen BK606.out
                  have p610 : 0 ≤ (x4_1 : Int) := of_x
                  have q610 : x4_1 < (l0_0.length : Int) := of_x
                  obtain ⟨ad610, A610_0, c610_0, e610, hx610_0, hx610_1, hx610_2, hx610_3, hl610_0, hi610_0⟩ := at_T50 HR0_0.out x4_1 p610 q610
                  cases e610
                  replace hx610_0 := cell_x HB hx610_0
                  replace hx610_1 := cell_x HB hx610_1
                  replace hx610_2 := cell_x HB hx610_2
                  replace hx610_3 := cell_x HB hx610_3
                  have HR610_0 := Aside0.mk hi610_0
                  have HC610_0 := Aside0.mk hl610_0
                  clear hi610_0 hl610_0
                  replace p610 := eq_true p610
                  replace q610 := eq_true q610
                  go_wp2_with (first | ((with_reducible refine gate_dst (N := 53) rfl ?_); refine Kd.R_lit Kd.bool _ 4 ?hg (N := 53) ?hd (xs := ([] : List Bool)) (inner := []) (ok := fun _ => True) (okp := fun _ => True) ?hr ?hp (fun _ hk => hk) trivial (Below.refl _ _) (Nat.le_refl _) (by simp) ?_; (case hd => rfl); (case hg => rfl); (case hr => first | (go_simp; done) | (go_simp; rfl)); (case hp => exact (Reps.none _ _)); intro v616 w43 ho44 hb hg_ hnew_; clear hg_ hnew_; (first | rw [← Ny615.out] at ho44 | (simp only [Int.reduceToNat] at ho44; rw [← Ny615.out] at ho44)); replace HO_3 := Aside0.mk (Kd.S_elder' (Kd.S_x HO_3.out) (Kd.R_base ho44) hb); replace HO_5 := Aside0.mk (Kd.S_elder' (Kd.S_x HO_5.out) (Kd.R_base ho44) hb); have HO617 := Aside0.mk (Kd.R_lower ho44 (below_size (by exact below_y HB.out))); replace BK606 := Aside0.mk (blk_below (blk_x BK606.out) hb); replace HB := bl_x HB hb; clear hb ho44; have p618 : 0 ≤ (x6_2 : Int) := of_x; have q618 : x6_2 < (x3_1.length : Int) := of_x; obtain ⟨ad618, A618_0, c618_0, e618, hx618_0, hl618_0, hi618_0⟩ := at_L5 (Kd.S_reads' HO_3.out).2.2 x6_2 p618 q618; cases e618; obtain ⟨ce618, hce618, hMe618, hcc618⟩ := Kd.S_get HO_3.out [] x6_2 p618 (by first | exact q618 | exact of_x | (have e_ := (Kd.S_reads' HO_3.out).1; omega)); obtain ⟨ve618_0, rfl, ge618_0⟩ := hMe618; have hv618_0 := hcc618 0 _ rfl; rw [Nat.add_zero, show ((Kd.slice 4 Kd.bool)).sz = 1 from rfl, Nat.mul_one] at hv618_0; replace hv618_0 := Option.some.inj (hv618_0.symm.trans hx618_0); rw [hv618_0] at ge618_0; have HL618_0 := Aside0.mk (show Kd.R Kd.bool 4 _ _ _ _ (rd_L5 x3_1 x6_2) from ge618_0); clear hv618_0 ge618_0; clear hcc618 hce618; have HR618_0 := Aside0.mk hi618_0; have HC618_0 := Aside0.mk hl618_0; clear hi618_0 hl618_0; replace p618 := eq_true p618; replace q618 := eq_true q618) | ((with_reducible refine gate_builtin (b := .append) (xs := #[.tmp 53, .tmp 57]) rfl ?_); at_builtin; refine Kd.R_append_rows Kd.bool (w0 := w) w.heap.size rfl (.tmp 53) (.tmp 57) 31 4 (.bool false) 1 rfl Try.underlying31 info4 rfl (by decide) (by omega) v616 y615 (rd_L5 x3_1 x6_2) _ _ _ (fun _ => True) (fun _ => False) rfl rfl ?aO ?aR (fun _ _ h => h) (fun _ h => h.elim) ?aF ?aB ?aS ?aL ?_; (case aR => repeat (first | exact (by repeat (first | (with_reducible exact HR618_0.out) | (with_reducible refine Kd.C_alloc ?_ _) | (with_reducible refine Kd.C_drewN ?_ _) | (with_reducible refine Kd.C_drew ?_) | exact HR618_0.out)) | (with_reducible refine Kd.C_alloc ?_ _) | (with_reducible refine Kd.C_drewN ?_ _) | (with_reducible refine Kd.C_drew ?_))); (case aB => exact (by exact below_y HB.out)); (case aF => exact (fun _ _ => trivial)); (case aO => exact (Kd.R_x HO617.out)); (case aS => exact (below_size (by exact below_y HB.out))); (case aL => have := LMc22.out; omega); intro v620 w45 ho hb hg hat; rw [← Ny619.out] at ho; replace HO_3 := Aside0.mk (Kd.S_after (ok := (fun k_ => some k_ ≠ (u5 : Value).ownBlock)) (Kd.S_x HO_3.out) hg hat); replace HO_5 := Aside0.mk (Kd.S_after (ok := (fun k_ => some k_ ≠ (.slice (some ad618) x3_1.length co8 : Value).ownBlock)) (Kd.S_x HO_5.out) hg hat); replace BK606 := Aside0.mk (blk_grown (blk_x BK606.out) hg (Kd.R_ne HO617.out BK606.out (by decide))); replace HL618_0 := Aside0.mk (Kd.R_after (ok := (fun k_ => some k_ ≠ (.slice (some ad618) x3_1.length co8 : Value).ownBlock ∧ some k_ ≠ (u5 : Value).ownBlock)) (by (with_reducible repeat (first | apply Kd.R_alloc | apply Kd.R_drewN | apply Kd.R_drew)); exact Kd.R_mono HL618_0.out (fun _ hk => ⟨⟨hk.2, hk.1.1⟩, hk.1.2⟩)) hg hat); replace HB := Aside0.mk (hb); have HO621 := Aside0.mk (ho); clear HO617; clear ho hb hg hat) | ((with_reducible refine gate_builtin (b := .append) (xs := #[.tmp 58, .tmp 59]) rfl ?_); at_builtin; refine Kd.R_append Kd.bool (w0 := w) w.heap.size rfl (.tmp 58) (.tmp 59) 31 4 (.bool false) 1 rfl Try.underlying31 info4 rfl (by decide) (by omega) v620 y619 false [.bool false] (fun _ => True) (fun _ => False) rfl rfl ?aP (fun _ hk => hk.elim) ?aF ?aO ?aB ?aS ?aL ?_; (case aP => exact rfl); (case aB => exact (by exact below_y HB.out)); (case aF => exact (fun _ _ => trivial)); (case aO => exact (Kd.R_x HO621.out)); (case aS => exact (below_size (by exact below_y HB.out))); (case aL => have := LMc23.out; omega); intro v623 w46 ho hb hg hat; rw [← Ny622.out] at ho; replace HO_3 := Aside0.mk (Kd.S_after (ok := (fun k_ => some k_ ≠ (u5 : Value).ownBlock)) (Kd.S_x HO_3.out) hg hat); replace HO_5 := Aside0.mk (Kd.S_after (ok := (fun k_ => some k_ ≠ (.slice (some ad618) x3_1.length co8 : Value).ownBlock)) (Kd.S_x HO_5.out) hg hat); replace BK606 := Aside0.mk (blk_grown (blk_x BK606.out) hg (Kd.R_ne HO621.out BK606.out (by decide))); replace HL618_0 := Aside0.mk (Kd.R_after (ok := (fun k_ => some k_ ≠ (.slice (some ad618) x3_1.length co8 : Value).ownBlock ∧ some k_ ≠ (u5 : Value).ownBlock)) (Kd.R_x HL618_0.out) hg hat); replace HB := Aside0.mk (hb); have HO624 := Aside0.mk (ho); clear HO621; clear ho hb hg hat; obtain ⟨Ao48, co48, eo48⟩ := Kd.R_slice HO624.out; subst eo48) | ((with_reducible refine gate_builtin (b := .append) (xs := #[.tmp 52, .tmp 61]) rfl ?_); at_builtin; refine Kd.S_append (Kd.slice 4 Kd.bool) (w0 := w) w.heap.size rfl (.tmp 52) (.tmp 61) 70 31 (.slice none 0 0) 24 rfl Try.underlying70 info31 rfl (by decide) (by omega) u5 x5_2 y622 [.slice Ao48 y622.length co48] (fun k_ => some k_ ≠ (.slice (some ad618) x3_1.length co8 : Value).ownBlock) (fun k_ => some k_ = (.slice Ao48 y622.length co48 : Value).ownBlock) rfl rfl ?aP (fun k_ hk_ => ((Kd.R_mono (ok' := fun k_ => ((fun k_ => some k_ ≠ (.slice (some ad618) x3_1.length co8 : Value).ownBlock)) k_ ∧ some k_ ≠ (u5 : Value).ownBlock) (Kd.R_apart' (Kd.R_apart' (HO624.out) (Kd.S_typed HO_3.out) (by decide)) (Kd.S_typed HO_5.out) (by decide)) (fun k_ hk => ⟨hk.1.2, hk.2⟩))).1 k_ hk_.symm) ?aF ?aO ?aB ?aS ?aL ?_; (case aP => exact Kd.M_row (Kd.R_mono (Kd.R_tight rfl (Kd.R_mono (ok' := fun k_ => ((fun k_ => some k_ ≠ (.slice (some ad618) x3_1.length co8 : Value).ownBlock)) k_ ∧ some k_ ≠ (u5 : Value).ownBlock) (Kd.R_apart' (Kd.R_apart' (HO624.out) (Kd.S_typed HO_3.out) (by decide)) (Kd.S_typed HO_5.out) (by decide)) (fun k_ hk => ⟨hk.1.2, hk.2⟩))) (fun _ h_ => h_))); (case aB => exact (by exact below_y HB.out)); (case aF => exact (fun k_ hk => Kd.fresh' (Kd.S_lt (Kd.S_x HO_3.out)) k_ hk)); (case aO => exact (by (with_reducible repeat (first | apply Kd.S_alloc | apply Kd.S_drewN | apply Kd.S_drew)); exact Kd.S_mono HO_5.out (fun k_ hk => ⟨hk.1, fun e_ => hk.2 e_⟩))); (case aS => exact (below_size (by exact below_y HB.out))); (case aL => have := LMc24.out; omega); intro v626 w47 ho hb hg hat; rw [← Ny625.out] at ho; replace HO_3 := Aside0.mk (Kd.S_after (ok := (fun k_ => some k_ ≠ (.slice Ao48 y622.length co48 : Value).ownBlock)) (by (with_reducible repeat (first | apply Kd.S_alloc | apply Kd.S_drewN | apply Kd.S_drew)); exact Kd.S_mono HO_3.out (fun _ hk => ⟨hk.2, hk.1⟩)) hg hat); replace BK606 := Aside0.mk (blk_grown (blk_x BK606.out) hg (Kd.S_ne HO_5.out BK606.out (by decide))); replace HL618_0 := Aside0.mk (Kd.R_after (ok := (fun k_ => some k_ ≠ (.slice (some ad618) x3_1.length co8 : Value).ownBlock ∧ some k_ ≠ (.slice Ao48 y622.length co48 : Value).ownBlock)) (by (with_reducible repeat (first | apply Kd.R_alloc | apply Kd.R_drewN | apply Kd.R_drew)); exact Kd.R_mono HL618_0.out (fun _ hk => ⟨⟨hk.1.1, hk.2⟩, hk.1.2⟩)) hg hat); replace HB := Aside0.mk (hb); have HO627 := Aside0.mk (ho); clear HO_5 HO624; clear ho hb hg hat))
                  go_roundg k3
                  case measure => have := HK1.out; have := HK2.out; have := HK3.out; omega
                  case rel => exact ⟨(y625), (wrap64 (x6_2 + 1)), (by first | rfl | (simp; done) | (simp [*]; done)), H', ⟨by have := HK1.out; have := HK2.out; have := HK3.out; omega⟩, ⟨by (with_reducible repeat (first | apply Kd.S_alloc | apply Kd.S_drewN | apply Kd.S_drew)); exact Kd.S_mono HO_3.out (fun _ hk => hk.2)⟩, ⟨by (with_reducible repeat (first | apply Kd.S_alloc | apply Kd.S_drewN | apply Kd.S_drew)); exact HO627.out⟩, ⟨blk_x BK606.out⟩, ⟨by exact below_y HB.out⟩⟩
                ·
                 rw [if_neg c24] at H
                 exact absurd H (by simp)
               ·
                rw [if_neg c23] at H
                exact absurd H (by simp)
              ·
               rw [if_neg c22] at H
               exact absurd H (by simp)
             ·
              rw [if_neg c21] at H
              exact absurd H (by simp)
            ·
             rw [if_neg c20] at H
             exact absurd H (by simp)
          ·
           rw [if_neg c10] at H
           exact absurd H (by simp)
         ·
          rw [if_neg c9] at H
          exact absurd H (by simp)
      ·
       rw [if_neg c7] at H
       have c7b0 : decide (x6_2 < (x3_1.length : Int)) = false := decide_eq_false c7
       clear c7
       have H' := Aside0.mk H
       clear H
       obtain ⟨Ao49, co49, eo49⟩ := Kd.S_slice HO_3.out
       subst eo49
       go_wp2
       go_roundg k2
       case measure => have := HK1.out; have := HK2.out; omega
       case rel => exact ⟨(x5_2), (wrap64 (x4_1 + 1)), (by first | rfl | (simp; done) | (simp [*]; done)), H', ⟨by have := HK1.out; have := HK2.out; omega⟩, ⟨by (with_reducible repeat (first | apply Kd.S_alloc | apply Kd.S_drewN | apply Kd.S_drew)); exact Kd.S_mono HO_5.out (fun _ hk => trivial)⟩, ⟨blk_x BK606.out⟩, ⟨by exact below_y HB.out⟩⟩
   ·
    rw [if_neg c5] at H
    have c5b0 : decide (x4_1 < (l0_0.length : Int)) = false := decide_eq_false c5
    clear c5
    obtain rfl := Option.some.inj H
    obtain ⟨_, _, _, _, _⟩ := cz5 BK606
    have hfz50_0 := blk_frozen BK606.out
    go_wp2
    go_ret
    exact ⟨_, by first | rfl | (simp [errW_none, errW_some] <;> rfl) | (simp [*, errW_none, errW_some] <;> rfl), by (with_reducible repeat (first | apply Kd.S_alloc | apply Kd.S_drewN | apply Kd.S_drew)); exact HO_3.out, by exact below_y HB.out⟩
def swarfref04_Truths.l0 : Nat → List (List Bool) → List (List Bool) → Int → List (S50) → Int → List (S61) → Int → List Int → Option ((List (List Bool)))
 | 0, _, _, _, _, _, _, _, _ => none
 | k + 1, x3, x4, x5, x642000, x642001, x642002, x642003, x642004 => if x5 < (x4.length : Int) then (if 0 ≤ x5 then ((swarfref04_Wrongs.f k x642000 x642001 x642002 x642003 x642004 (rd_L5 x4 x5)).bind fun t646 => (if t646 ≤ x642003 then (if x3.length < 5864062014805 then (swarfref04_Truths.l0 k (x3 ++ [rd_L5 x4 x5]) x4 (wrap64 (x5 + 1)) x642000 x642001 x642002 x642003 x642004) else (none)) else (swarfref04_Truths.l0 k x3 x4 (wrap64 (x5 + 1)) x642000 x642001 x642002 x642003 x642004))) else (none)) else (some x3)
def swarfref04_Truths.f (k : Nat) (l0_0 : List (S50)) (a0_1 : Int) (l0_2 : List (S61)) (a0_3 : Int) (l0_4 : List Int) : Option ((List (List Bool))) := (swarfref04_States.f k l0_0 a0_1 l0_2 a0_3 l0_4).bind fun t642 => (swarfref04_Truths.l0 k ([] : List (List Bool)) t642 0 l0_0 a0_1 l0_2 a0_3 l0_4)
theorem swarfref04_Truths.mono_l : ∀ k, (∀ y0 y1 y2 y3 y4 y5 y6 y7, LeO (swarfref04_Truths.l0 k y0 y1 y2 y3 y4 y5 y6 y7) (swarfref04_Truths.l0 (k + 1) y0 y1 y2 y3 y4 y5 y6 y7))
 | 0 => fun _ _ _ _ _ _ _ _ r h => by simp [swarfref04_Truths.l0] at h
 | k + 1 => by
  have ih0 := swarfref04_Truths.mono_l k
  ·
   intro y0 y1 y2 y3 y4 y5 y6 y7
   unfold swarfref04_Truths.l0
   repeat' first
   | (with_reducible exact ih0 _ _ _ _ _ _ _ _)
   | (with_reducible exact swarfref04_States.mono _ _ _ _ _ _)
   | (with_reducible exact swarfref04_Wrongs.mono _ _ _ _ _ _ _)
   | (with_reducible exact LeO.refl _)
   | (with_reducible exact LeO.none _)
   | (with_reducible refine LeO.ite ?_ ?_)
   | (with_reducible refine LeO.bind ?_ (fun _ => ?_))
   | exact ih0 _ _ _ _ _ _ _ _
   | exact swarfref04_States.mono _ _ _ _ _ _
   | exact swarfref04_Wrongs.mono _ _ _ _ _ _ _
   | exact LeO.none _
   | refine LeO.ite ?_ ?_
   | refine LeO.bind ?_ (fun _ => ?_)
theorem swarfref04_Truths.mono : ∀ a0 a1 a2 a3 a4 k, LeO (swarfref04_Truths.f k a0 a1 a2 a3 a4) (swarfref04_Truths.f (k + 1) a0 a1 a2 a3 a4) := by
 intro a0 a1 a2 a3 a4 k
 have ih0 := swarfref04_Truths.mono_l k
 unfold swarfref04_Truths.f
 repeat' first
   | (with_reducible exact ih0 _ _ _ _ _ _ _ _)
   | (with_reducible exact swarfref04_States.mono _ _ _ _ _ _)
   | (with_reducible exact swarfref04_Wrongs.mono _ _ _ _ _ _ _)
   | (with_reducible exact LeO.refl _)
   | (with_reducible exact LeO.none _)
   | (with_reducible refine LeO.ite ?_ ?_)
   | (with_reducible refine LeO.bind ?_ (fun _ => ?_))
   | exact ih0 _ _ _ _ _ _ _ _
   | exact swarfref04_States.mono _ _ _ _ _ _
   | exact swarfref04_Wrongs.mono _ _ _ _ _ _ _
   | exact LeO.none _
   | refine LeO.ite ?_ ?_
   | refine LeO.bind ?_ (fun _ => ?_)
def swarfref04_Truths.T6 : Bool × List (List Nat × List Nat) := (true, [([], []), ([], []), ([], []), ([1, 2], [1, 2]), ([3], [3]), ([0, 4], [0, 4]), ([], []), ([6], [6]), ([5, 7], [5, 7])])
def swarfref04_Truths.B6 : List Nat := [0, 0, 0, 6, 14, 31, 0, 64, 255]
theorem swarfref04_Truths.tab6 : rtab .any (opsOf Try.f48 6) = swarfref04_Truths.T6 := by kernel_rfl
theorem swarfref04_Truths.bits6 : waitsOk swarfref04_Truths.T6.2 swarfref04_Truths.B6 = true := by kernel_rfl
set_option maxHeartbeats 8000000 in
set_option maxRecDepth 100000 in
theorem swarfref04_Truths.calls (k : Nat) (A0_0 : Option Addr) (c0_0 : Nat) (l0_0 : List (S50)) (a0_1 : Int) (A0_2 : Option Addr) (c0_2 : Nat) (l0_2 : List (S61)) (a0_3 : Int) (A0_4 : Option Addr) (c0_4 : Nat) (l0_4 : List Int) (r : List (List Bool)) (w : World) (hr0_0 : Kd.C k50 w A0_0 l0_0.length l0_0) (hc0_0 : l0_0.length ≤ c0_0) (hr0_2 : Kd.C k61 w A0_2 l0_2.length l0_2) (hc0_2 : l0_2.length ≤ c0_2) (hr0_4 : Kd.C (Kd.int .i64) w A0_4 l0_4.length l0_4) (hc0_4 : l0_4.length ≤ c0_4) (h : swarfref04_Truths.f k l0_0 a0_1 l0_2 a0_3 l0_4 = some r) :
  Calls Try.prog 48 #[.agg #[.slice A0_0 l0_0.length c0_0, .int .i64 a0_1, .slice A0_2 l0_2.length c0_2, .int .i64 a0_3, .slice A0_4 l0_4.length c0_4]] w fun e w' => ∃ v0_ : Value, e = .returned (v0_) ∧ Kd.N (Kd.slice 4 Kd.bool) 31 w' w.heap.size (fun k_ => (w.heap.size ≤ k_)) v0_ r ∧ Below w.heap.size w w' := by
 have hu26 := Try.underlying26
 have HR0_0 := Aside0.mk hr0_0
 have HC0_0 := Aside0.mk hc0_0
 clear hr0_0 hc0_0
 have HR0_2 := Aside0.mk hr0_2
 have HC0_2 := Aside0.mk hc0_2
 clear hr0_2 hc0_2
 have HR0_4 := Aside0.mk hr0_4
 have HC0_4 := Aside0.mk hc0_4
 clear hr0_4 hc0_4
 have HB := Aside0.mk (Below.refl w.heap.size w)
 have H : ((swarfref04_States.f k l0_0 a0_1 l0_2 a0_3 l0_4).bind fun t642 => (swarfref04_Truths.l0 k ([] : List (List Bool)) t642 0 l0_0 a0_1 l0_2 a0_3 l0_4)) = some r := h
 clear h
 replace H := Option.bind_eq_some_iff.mp H
 obtain ⟨t642, A20, H⟩ := H
 try dsimp only at H
 have A2 := Aside0.mk A20
 clear A20
 have H' := Aside0.mk H
 clear H
 go_enter Try.func48, Try.ntmps48
 go_wp2_with (first | ((with_reducible refine gate_dst (N := 1) rfl ?_); refine box_event ?hg (N := 1) ?hd (cs := #[.slice A0_0 l0_0.length c0_0, .int .i64 a0_1, .slice A0_2 l0_2.length c0_2, .int .i64 a0_3, .slice A0_4 l0_4.length c0_4]) (t := 26) ?hr ?_; (case hd => rfl); (case hg => rfl); (case hr => first | (go_simp; done) | (go_simp; rfl)); intro gb641 hg w3 hbox hb; have BK641 := Aside0.mk (hbox); have GW641 := Aside0.mk ((by rw [hg]; exact (below_size (below_x HB.out)) : w.heap.size ≤ gb641)); have GE641 := Aside0.mk ((by rw [hg]; exact (below_size (below_x HB.out)) : w.heap.size ≤ gb641)); replace HB := Aside0.mk (below_step (below_x HB.out) hb); clear hb hbox hg; obtain ⟨_, _, _, _, _⟩ := cz5 BK641; have hfz4_0 := blk_frozen BK641.out) | ((with_reducible refine gate_callee (f := 71) rfl ?_); refine goesL_ (some 7) rfl rfl Try.func71 (by kernel_rfl) rfl #[.agg #[.slice A0_0 l0_0.length c0_0, .int .i64 a0_1, .slice A0_2 l0_2.length c0_2, .int .i64 a0_3, .slice A0_4 l0_4.length c0_4]] rfl (by (try simp only [List.map_toArray, List.map_cons, List.map_nil]); first | done | rfl | (simp only [List.length_drop, List.length_take]; rfl)) ?_; (with_reducible refine (swarfref04_States.calls k _ _ l0_0 a0_1 _ _ l0_2 a0_3 _ _ l0_4 t642 _ ?side1 ?side2 ?side3 ?side4 ?side5 ?side6 A2.out).mono ?_); (case side1 => exact Kd.C_x HR0_0.out HB.out); (case side2 => exact HC0_0.out); (case side3 => exact Kd.C_x HR0_2.out HB.out); (case side4 => exact HC0_2.out); (case side5 => exact Kd.C_x HR0_4.out HB.out); (case side6 => exact HC0_4.out); rintro e w5 ⟨v643, rfl, ho0, hb⟩; refine ⟨_, rfl, ?_⟩; have HO644 := Aside0.mk (Kd.N_lower (Kd.N_mono (ok' := fun k_ => (w.heap.size ≤ k_) ∧ k_ ≠ gb641) (Kd.S_N (Kd.S_bound ho0)) (fun k_ hk_ => ⟨(Nat.le_trans (below_size (by exact below_y HB.out)) hk_.2.1), (Kd.freshB (g := gb641) (o := .cells #[.slice A0_0 l0_0.length c0_0, .int .i64 a0_1, .slice A0_2 l0_2.length c0_2, .int .i64 a0_3, .slice A0_4 l0_4.length c0_4] 26 (0, 0)) (blk_x BK641.out) k_ hk_.2.1)⟩)) (below_size (by exact below_y HB.out))); replace BK641 := Aside0.mk (blk_below (blk_x BK641.out) hb); replace HB := bl_x HB hb; (try clear hb); (try clear hk); (try clear hi); (try clear ho0)))
 go_loopg [3, 5] k (fun kq v3 v5 w' => ∃ (x3_1 : List (List Bool)) (x5_1 : Int), v5 = .int .i64 x5_1 ∧ Aside0 (swarfref04_Truths.l0 kq x3_1 t642 x5_1 l0_0 a0_1 l0_2 a0_3 l0_4 = some r) ∧ Aside0 (kq ≤ k) ∧ Aside0 (Kd.N (Kd.slice 4 Kd.bool) 31 w' w.heap.size (fun k_ => (w.heap.size ≤ k_) ∧ some k_ ≠ (v643 : Value).ownBlock ∧ k_ ≠ gb641) v3 x3_1) ∧ Aside0 (Kd.N (Kd.slice 4 Kd.bool) 31 w' w.heap.size (fun k_ => (w.heap.size ≤ k_) ∧ some k_ ≠ (v3 : Value).ownBlock ∧ k_ ≠ gb641) v643 t642) ∧ Aside0 (w'.heap[gb641]? = some (.cells #[(.slice A0_0 l0_0.length c0_0), .int .i64 a0_1, (.slice A0_2 l0_2.length c0_2), .int .i64 a0_3, (.slice A0_4 l0_4.length c0_4)] 26 (0, 0))) ∧ Aside0 (Below w.heap.size w w'))
 case atStart => exact ⟨(([] : List (List Bool))), (0), (by first | rfl | (simp; done) | (simp [*]; done)), H', ⟨Nat.le_refl _⟩, ⟨by first | exact Kd.S_nil _ _ _ _ _ | exact Kd.N_nil _ _ _ _ _ | exact Kd.V_nil _ _ _ _ _ | exact Kd.Q_nil _ _ _ _ _ | exact Kd.R_nil _ _ _ _ _⟩, ⟨by (with_reducible repeat (first | apply Kd.N_alloc | apply Kd.N_drewN | apply Kd.N_drew)); exact Kd.N_mono HO644.out (fun _ hk => ⟨hk.1, ⟨(by simp [Value.ownBlock]), hk.2⟩⟩)⟩, ⟨blk_x BK641.out⟩, ⟨by exact below_y HB.out⟩⟩
 case round =>
  clear H'
  try clear HO_3
  try clear HO_4
  try clear BK641
  try clear HB
  obtain ⟨x3_1, x5_1, rfl, HA, HK1, HO_3, HO_4, BK641, HB⟩ := hrel
  cases gk with
  | zero => exact absurd HA.out (by simp [swarfref04_Truths.l0])
  | succ k1 =>
   have H := HA.out
   clear HA
   simp only [swarfref04_Truths.l0] at H
   by_cases c6 : x5_1 < (t642.length : Int)
   ·
    rw [if_pos c6] at H
    have c6b0 : decide (x5_1 < (t642.length : Int)) = true := decide_eq_true c6
    clear c6
    by_cases c7 : 0 ≤ x5_1
    ·
     rw [if_pos c7] at H
     have c7b0 : decide (0 ≤ x5_1) = true := decide_eq_true c7
     clear c7
     replace H := Option.bind_eq_some_iff.mp H
     obtain ⟨t646, A80, H⟩ := H
     try dsimp only at H
     have A8 := Aside0.mk A80
     clear A80
     by_cases c9 : t646 ≤ a0_3
     ·
      rw [if_pos c9] at H
      have c9b0 : decide (t646 ≤ a0_3) = true := decide_eq_true c9
      clear c9
      by_cases c10 : x3_1.length < 5864062014805
      ·
       rw [if_pos c10] at H
       have LMc10 := Aside0.mk c10
       clear c10
       obtain ⟨y648, hy648⟩ : ∃ y_ : List (List Bool), y_ = (x3_1 ++ [rd_L5 t642 x5_1]) := ⟨_, rfl⟩
       replace H : (swarfref04_Truths.l0 k1 y648 t642 (wrap64 (x5_1 + 1)) l0_0 a0_1 l0_2 a0_3 l0_4) = some r := by first | (rw [hy648]; with_reducible exact H) | (have H2_ := (Option.bind_some _ _).symm.trans H; rw [hy648]; with_reducible exact H2_) | (have H2_ := (Option.bind_some _ _).symm.trans H; with_reducible exact H2_) | with_reducible exact H | (rw [hy648]; exact H) | exact H
       have Ny648 := Aside0.mk hy648
       clear hy648
       have H' := Aside0.mk H
       clear H
       obtain ⟨Ao11, co11, eo11⟩ := Kd.N_slice HO_4.out
       subst eo11
       try go_wp2
       replace HO_3 := Aside0.mk (Kd.N_drew HO_3.out)
       replace HO_4 := Aside0.mk (Kd.N_drew HO_4.out)
       replace BK641 := Aside0.mk (blk_drew BK641.out)
       replace HB := Aside0.mk (below_drew1 HB.out)
       have p645 : 0 ≤ (x5_1 : Int) := of_x
       have q645 : x5_1 < (t642.length : Int) := of_x
       obtain ⟨ad645, A645_0, c645_0, e645, hx645_0, hl645_0, hi645_0⟩ := at_L5 (Kd.N_reads' HO_4.out).2.2 x5_1 p645 q645
       cases e645
       obtain ⟨ce645, hce645, hMe645, hcc645⟩ := Kd.N_get HO_4.out [] x5_1 p645 (by first | exact q645 | exact of_x | (have e_ := (Kd.N_reads' HO_4.out).1; omega))
       obtain ⟨ua645_0, uc645_0, rfl, ul645_0, ge645_0⟩ := Kd.FK_slice_open hMe645
       have hv645_0 := hcc645 0 _ rfl
       rw [Nat.add_zero, show ((Kd.slice 4 Kd.bool)).sz = 1 from rfl, Nat.mul_one] at hv645_0
       replace hv645_0 := Option.some.inj (hv645_0.symm.trans hx645_0)
       injection hv645_0 with hva_ hvn_ hvc_
       rw [hva_] at ge645_0
       rw [hvc_] at ul645_0
       have HL645_0 := Aside0.mk (show Kd.V Kd.bool 4 _ w.heap.size _ _ (rd_L5 t642 x5_1) from Kd.V_mk ul645_0 ge645_0)
       clear hva_ hvn_ hvc_ ge645_0 ul645_0 hcc645 hce645
       have HR645_0 := Aside0.mk hi645_0
       have HC645_0 := Aside0.mk hl645_0
       clear hi645_0 hl645_0
       replace p645 := eq_true p645
       replace q645 := eq_true q645
       refine start_ (n := 9) (S := fun w' => w'.cell? ⟨gb641, 0, none⟩ = some (.slice A0_0 l0_0.length c0_0) ∧ w'.cell? ⟨gb641, 1, none⟩ = some (.int .i64 a0_1) ∧ w'.cell? ⟨gb641, 2, none⟩ = some (.slice A0_2 l0_2.length c0_2) ∧ w'.cell? ⟨gb641, 3, none⟩ = some (.int .i64 a0_3) ∧ w'.cell? ⟨gb641, 4, none⟩ = some (.slice A0_4 l0_4.length c0_4) ∧ w'.cell? (ad645.add (x5_1).toNat) = some (.slice A645_0 (rd_L5 t642 x5_1).length c645_0)) (ds := []) #[false, false, false, false, false, false, false, false, false] (by kernel_rfl) rfl rfl ⟨(blk_cell BK641.out 0).trans rfl, (blk_cell BK641.out 1).trans rfl, (blk_cell BK641.out 2).trans rfl, (blk_cell BK641.out 3).trans rfl, (blk_cell BK641.out 4).trans rfl, hx645_0⟩ (fun hHeld => ?_); refine with_tabW swarfref04_Truths.tab6 swarfref04_Truths.bits6 (fun HT_ HW_ => ?_)
       generalize wr.drew = w12 at HO_3 HO_4 BK641 HB HL645_0 HR645_0 hx645_0 hHeld ⊢
       refine pure_ (i := 1) (N := some 15) (v := ?_) (a' := ?_) (bz 9 2) rfl rfl (any_of HT_.out (by kernel_rfl)) (fun _ _ _ h => h) (Or.inl ⟨by rfl, ?_⟩) ?_ ?_
       rotate_left
       ·
        intro w'
        go_simp
        with_reducible rfl
       rotate_left
       ·
        simp only [Act.put, put_x, i64_w, i32_w]
        rfl
       refine pure_ (i := 2) (N := some 16) (v := ?_) (a' := ?_) (bz 9 6) rfl rfl (any_of HT_.out (by kernel_rfl)) (fun _ _ _ h => h) (Or.inl ⟨by rfl, ?_⟩) ?_ ?_
       rotate_left
       ·
        intro w'
        go_simp
        with_reducible rfl
       rotate_left
       ·
        simp only [Act.put, put_x, i64_w, i32_w]
        rfl
       refine pure_ (i := 3) (N := some 17) (v := ?_) (a' := ?_) (bz 9 14) rfl rfl (any_of HT_.out (by kernel_rfl)) (fun _ _ _ h => h) (Or.inl ⟨by rfl, ?_⟩) ?_ ?_
       rotate_left
       ·
        intro w'
        go_simp
        with_reducible rfl
       rotate_left
       ·
        simp only [Act.put, put_x, i64_w, i32_w]
        rfl
       refine pure_ (i := 6) (N := some 20) (v := ?_) (a' := ?_) (bz 9 78) rfl rfl (any_of HT_.out (by kernel_rfl)) (fun _ _ _ h => h) (Or.inl ⟨by rfl, ?_⟩) ?_ ?_
       rotate_left
       ·
        intro w'
        go_simp
        with_reducible rfl
       rotate_left
       ·
        simp only [Act.put, put_x, i64_w, i32_w]
        rfl
       refine take_ (i := 0) (N := some 14) (v := ?_) (a' := ?_) (bz 9 79) rfl rfl (take_ofW HT_.out HW_.out (by kernel_rfl)) (fun _ _ _ h => h) (Or.inl ⟨by rfl, ?_⟩) hHeld ?_ ?_
       rotate_left
       ·
        rintro w' ⟨s0, s1, s2, s3, s4, s5⟩
        go_simp
        with_reducible rfl
       rotate_left
       ·
        simp only [Act.put, put_x, i64_w, i32_w]
        rfl
       refine take_ (i := 4) (N := some 18) (v := ?_) (a' := ?_) (bz 9 95) rfl rfl (take_ofW HT_.out HW_.out (by kernel_rfl)) (fun _ _ _ h => h) (Or.inl ⟨by rfl, ?_⟩) hHeld ?_ ?_
       rotate_left
       ·
        rintro w' ⟨s0, s1, s2, s3, s4, s5⟩
        go_simp
        with_reducible rfl
       rotate_left
       ·
        simp only [Act.put, put_x, i64_w, i32_w]
        rfl
       refine take_ (i := 7) (N := some 21) (v := ?_) (a' := ?_) (bz 9 223) rfl rfl (take_ofW HT_.out HW_.out (by kernel_rfl)) (fun _ _ _ h => h) (Or.inl ⟨by rfl, ?_⟩) hHeld ?_ ?_
       rotate_left
       ·
        rintro w' ⟨s0, s1, s2, s3, s4, s5⟩
        go_simp
        with_reducible rfl
       rotate_left
       ·
        simp only [Act.put, put_x, i64_w, i32_w]
        rfl
       refine one_ (i := 5) (N := some 19) (bz 9 255) rfl rfl (one_of HT_.out (by kernel_rfl)) (by decide) (fun K hK => ?_)
       refine goes_ Try.func28 (by kernel_rfl) rfl #[.agg #[.slice A0_0 l0_0.length c0_0, .int .i64 a0_1, .slice A0_2 l0_2.length c0_2, .int .i64 a0_3, .slice A0_4 l0_4.length c0_4], .slice A645_0 (rd_L5 t642 x5_1).length c645_0] (by rfl) rfl rfl (by (try simp only [List.map_toArray, List.map_cons, List.map_nil]); first | done | rfl | (simp only [List.length_drop, List.length_take]; rfl)) ?_
       with_reducible refine (swarfref04_Wrongs.calls k1 _ _ l0_0 a0_1 _ _ l0_2 a0_3 _ _ l0_4 _ _ (rd_L5 t642 x5_1) t646 _ ?side1 ?side2 ?side3 ?side4 ?side5 ?side6 ?side7 ?side8 A8.out).mono ?_
       (case side1 => exact Kd.C_x HR0_0.out HB.out)
       (case side2 => exact HC0_0.out)
       (case side3 => exact Kd.C_x HR0_2.out HB.out)
       (case side4 => exact HC0_2.out)
       (case side5 => exact Kd.C_x HR0_4.out HB.out)
       (case side6 => exact HC0_4.out)
       (case side7 => repeat (first | exact (by repeat (first | (with_reducible exact HR645_0.out) | (with_reducible refine Kd.C_alloc ?_ _) | (with_reducible refine Kd.C_drewN ?_ _) | (with_reducible refine Kd.C_drew ?_) | exact HR645_0.out)) | (with_reducible refine Kd.C_alloc ?_ _) | (with_reducible refine Kd.C_drewN ?_ _) | (with_reducible refine Kd.C_drew ?_)))
       (case side8 => exact HC645_0.out)
       rintro e w13 ⟨rfl, hb⟩
       have HS5_ := (hb.cell (World.block_lt_of_cell? _ _ (hHeld.2.2.2.2.2))).trans (hHeld.2.2.2.2.2)
       refine ⟨_, rfl, ?_⟩
       replace HO_3 := Aside0.mk (Kd.N_below (Kd.N_x HO_3.out) hb)
       replace HO_4 := Aside0.mk (Kd.N_below (Kd.N_x HO_4.out) hb)
       replace HL645_0 := Aside0.mk (Kd.V_below (Kd.V_x HL645_0.out) hb)
       replace BK641 := Aside0.mk (blk_below (blk_x BK641.out) hb)
       replace HR645_0 := Aside0.mk (Kd.C_below (by repeat (first | (with_reducible exact HR645_0.out) | (with_reducible refine Kd.C_alloc ?_ _) | (with_reducible refine Kd.C_drewN ?_ _) | (with_reducible refine Kd.C_drew ?_) | exact HR645_0.out)) hb)
       replace HB := bl_x HB hb
       (try clear hb)
       (try clear hb2)
       (try clear hk)
       (try clear hi)
       refine hK.out _ _ ⟨(blk_cell BK641.out 0).trans rfl, (blk_cell BK641.out 1).trans rfl, (blk_cell BK641.out 2).trans rfl, (blk_cell BK641.out 3).trans rfl, (blk_cell BK641.out 4).trans rfl, HS5_⟩ (fun hHeld => ?_)
       clear hK K
       refine norm_ (a' := ?_) ?_ ?_
       rotate_left
       ·
        show Act.put _ (some 19) _ = _
        simp only [Act.put, put_x, i64_w, i32_w]
        rfl
       refine pure_ (i := 8) (N := some 22) (v := ?_) (a' := ?_) (bz 9 511) rfl rfl (any_of HT_.out (by kernel_rfl)) (fun _ _ _ h => h) (Or.inl ⟨by rfl, ?_⟩) ?_ ?_
       rotate_left
       ·
        intro w'
        go_simp
        with_reducible rfl
       rotate_left
       ·
        simp only [Act.put, put_x, i64_w, i32_w]
        rfl
       refine done_ (done_of HT_.out (by kernel_rfl)) ?_
       have p647 : 0 ≤ (x5_1 : Int) := of_x
       have q647 : x5_1 < (t642.length : Int) := of_x
       obtain ⟨ad647, A647_0, c647_0, e647, hx647_0, hl647_0, hi647_0⟩ := at_L5 (Kd.N_reads' HO_4.out).2.2 x5_1 p647 q647
       obtain rfl : ad645 = ad647 := (by injection e647)
       try (obtain ⟨rfl, rfl⟩ : A647_0 = A645_0 ∧ c647_0 = c645_0 := by have h_ := Option.some.inj (hx647_0.symm.trans (show _ = some (Value.slice A645_0 _ c645_0) by assumption)); injection h_ with h1_ _ h3_; exact ⟨h1_, h3_⟩)
       obtain ⟨ce647, hce647, hMe647, hcc647⟩ := Kd.N_get HO_4.out [] x5_1 p647 (by first | exact q647 | exact of_x | (have e_ := (Kd.N_reads' HO_4.out).1; omega))
       obtain ⟨ua647_0, uc647_0, rfl, ul647_0, ge647_0⟩ := Kd.FK_slice_open hMe647
       have hv647_0 := hcc647 0 _ rfl
       rw [Nat.add_zero, show ((Kd.slice 4 Kd.bool)).sz = 1 from rfl, Nat.mul_one] at hv647_0
       replace hv647_0 := Option.some.inj (hv647_0.symm.trans hx647_0)
       injection hv647_0 with hva_ hvn_ hvc_
       rw [hva_] at ge647_0
       rw [hvc_] at ul647_0
       have HL647_0 := Aside0.mk (show Kd.V Kd.bool 4 _ w.heap.size _ _ (rd_L5 t642 x5_1) from Kd.V_mk ul647_0 ge647_0)
       clear hva_ hvn_ hvc_ ge647_0 ul647_0 hcc647 hce647
       have HR647_0 := Aside0.mk hi647_0
       have HC647_0 := Aside0.mk hl647_0
       clear hi647_0 hl647_0
       replace p647 := eq_true p647
       replace q647 := eq_true q647
       try go_wp2_with (first | ((with_reducible refine gate_builtin (b := .append) (xs := #[.tmp 23, .tmp 28]) rfl ?_); at_builtin; refine Kd.N_append (Kd.slice 4 Kd.bool) (w0 := w) w.heap.size rfl (.tmp 23) (.tmp 28) 70 31 (.slice none 0 0) 24 rfl Try.underlying70 info31 rfl (by decide) (by omega) u3 x3_1 (rd_L5 t642 x5_1) [.slice A647_0 (rd_L5 t642 x5_1).length c647_0] (fun k_ => (w.heap.size ≤ k_) ∧ some k_ ≠ (.slice (some ad645) t642.length co11 : Value).ownBlock ∧ k_ ≠ gb641) (fun k_ => ((fun k_ => (w.heap.size ≤ k_) ∧ some k_ ≠ (.slice (some ad645) t642.length co11 : Value).ownBlock ∧ k_ ≠ gb641)) k_ ∧ some k_ ≠ (u3 : Value).ownBlock) rfl rfl ?aP (fun _ hk => hk) ?aF ?aO ?aB ?aS ?aL ?_; (case aP => exact (Kd.FK_slice_mk (Kd.V_reads' (Kd.V_mono (ok' := (fun k_ => ((fun k_ => (w.heap.size ≤ k_) ∧ some k_ ≠ (.slice (some ad645) t642.length co11 : Value).ownBlock ∧ k_ ≠ gb641)) k_ ∧ some k_ ≠ (u3 : Value).ownBlock)) (HL647_0.out) (fun k_ hk => ⟨⟨hk.1.1, ⟨hk.2, hk.1.2.2⟩⟩, hk.1.2.1⟩))).2.1 (Kd.V_F (Kd.V_mono (ok' := (fun k_ => ((fun k_ => (w.heap.size ≤ k_) ∧ some k_ ≠ (.slice (some ad645) t642.length co11 : Value).ownBlock ∧ k_ ≠ gb641)) k_ ∧ some k_ ≠ (u3 : Value).ownBlock)) (HL647_0.out) (fun k_ hk => ⟨⟨hk.1.1, ⟨hk.2, hk.1.2.2⟩⟩, hk.1.2.1⟩))))); (case aB => exact (by exact below_y HB.out)); (case aF => exact (fun k_ hk => ⟨(Nat.le_trans (below_size (by exact below_y HB.out)) hk), Kd.fresh' (Kd.N_lt (Kd.N_x HO_4.out)) k_ hk, Kd.freshB (g := gb641) (o := .cells #[.slice A0_0 l0_0.length c0_0, .int .i64 a0_1, .slice A0_2 l0_2.length c0_2, .int .i64 a0_3, .slice A0_4 l0_4.length c0_4] 26 (0, 0)) (blk_x BK641.out) k_ hk⟩)); (case aO => exact (Kd.N_x HO_3.out)); (case aS => exact (below_size (by exact below_y HB.out))); (case aL => have := LMc10.out; omega); intro v649 w14 ho hb hg hat; rw [← Ny648.out] at ho; replace HO_4 := Aside0.mk (Kd.N_afterv (ok := (fun k_ => (w.heap.size ≤ k_) ∧ k_ ≠ gb641)) (by (with_reducible repeat (first | apply Kd.N_alloc | apply Kd.N_drewN | apply Kd.N_drew)); exact Kd.N_mono HO_4.out (fun _ hk => ⟨⟨hk.1, hk.2.2⟩, hk.2.1⟩)) hg hat); replace BK641 := Aside0.mk (blk_grown (blk_x BK641.out) hg (Kd.N_ne HO_3.out BK641.out (by decide))); replace HL645_0 := Aside0.mk (Kd.V_afterv (ok := (fun k_ => (w.heap.size ≤ k_) ∧ some k_ ≠ (.slice (some ad645) t642.length co11 : Value).ownBlock ∧ k_ ≠ gb641)) (by (with_reducible repeat (first | apply Kd.V_alloc | apply Kd.V_drewN | apply Kd.V_drew)); exact Kd.V_mono HL645_0.out (fun _ hk => ⟨⟨hk.1.1, ⟨hk.2, hk.1.2.2⟩⟩, hk.1.2.1⟩)) hg hat); replace HL647_0 := Aside0.mk (Kd.V_afterv (ok := (fun k_ => (w.heap.size ≤ k_) ∧ some k_ ≠ (.slice (some ad645) t642.length co11 : Value).ownBlock ∧ k_ ≠ gb641)) (by (with_reducible repeat (first | apply Kd.V_alloc | apply Kd.V_drewN | apply Kd.V_drew)); exact Kd.V_mono HL647_0.out (fun _ hk => ⟨⟨hk.1.1, ⟨hk.2, hk.1.2.2⟩⟩, hk.1.2.1⟩)) hg hat); replace HB := Aside0.mk (hb); have HO650 := Aside0.mk (ho); clear HO_3; clear ho hb hg hat))
       go_roundg k1
       case measure => have := HK1.out; omega
       case rel => exact ⟨(y648), (wrap64 (x5_1 + 1)), (by first | rfl | (simp; done) | (simp [*]; done)), H', ⟨by have := HK1.out; omega⟩, ⟨by (with_reducible repeat (first | apply Kd.N_alloc | apply Kd.N_drewN | apply Kd.N_drew)); exact HO650.out⟩, ⟨by (with_reducible repeat (first | apply Kd.N_alloc | apply Kd.N_drewN | apply Kd.N_drew)); exact Kd.N_mono HO_4.out (fun _ hk => ⟨hk.1.1, ⟨hk.2, hk.1.2⟩⟩)⟩, ⟨blk_x BK641.out⟩, ⟨by exact below_y HB.out⟩⟩
      ·
       rw [if_neg c10] at H
       exact absurd H (by simp)
     ·
      rw [if_neg c9] at H
      have c9b0 : decide (t646 ≤ a0_3) = false := decide_eq_false c9
      clear c9
      have H' := Aside0.mk H
      clear H
      obtain ⟨Ao15, co15, eo15⟩ := Kd.N_slice HO_4.out
      subst eo15
      try go_wp2
      replace HO_3 := Aside0.mk (Kd.N_drew HO_3.out)
      replace HO_4 := Aside0.mk (Kd.N_drew HO_4.out)
      replace BK641 := Aside0.mk (blk_drew BK641.out)
      replace HB := Aside0.mk (below_drew1 HB.out)
      have p645 : 0 ≤ (x5_1 : Int) := of_x
      have q645 : x5_1 < (t642.length : Int) := of_x
      obtain ⟨ad645, A645_0, c645_0, e645, hx645_0, hl645_0, hi645_0⟩ := at_L5 (Kd.N_reads' HO_4.out).2.2 x5_1 p645 q645
      cases e645
      obtain ⟨ce645, hce645, hMe645, hcc645⟩ := Kd.N_get HO_4.out [] x5_1 p645 (by first | exact q645 | exact of_x | (have e_ := (Kd.N_reads' HO_4.out).1; omega))
      obtain ⟨ua645_0, uc645_0, rfl, ul645_0, ge645_0⟩ := Kd.FK_slice_open hMe645
      have hv645_0 := hcc645 0 _ rfl
      rw [Nat.add_zero, show ((Kd.slice 4 Kd.bool)).sz = 1 from rfl, Nat.mul_one] at hv645_0
      replace hv645_0 := Option.some.inj (hv645_0.symm.trans hx645_0)
      injection hv645_0 with hva_ hvn_ hvc_
      rw [hva_] at ge645_0
      rw [hvc_] at ul645_0
      have HL645_0 := Aside0.mk (show Kd.V Kd.bool 4 _ w.heap.size _ _ (rd_L5 t642 x5_1) from Kd.V_mk ul645_0 ge645_0)
      clear hva_ hvn_ hvc_ ge645_0 ul645_0 hcc645 hce645
      have HR645_0 := Aside0.mk hi645_0
      have HC645_0 := Aside0.mk hl645_0
      clear hi645_0 hl645_0
      replace p645 := eq_true p645
      replace q645 := eq_true q645
      refine start_ (n := 9) (S := fun w' => w'.cell? ⟨gb641, 0, none⟩ = some (.slice A0_0 l0_0.length c0_0) ∧ w'.cell? ⟨gb641, 1, none⟩ = some (.int .i64 a0_1) ∧ w'.cell? ⟨gb641, 2, none⟩ = some (.slice A0_2 l0_2.length c0_2) ∧ w'.cell? ⟨gb641, 3, none⟩ = some (.int .i64 a0_3) ∧ w'.cell? ⟨gb641, 4, none⟩ = some (.slice A0_4 l0_4.length c0_4) ∧ w'.cell? (ad645.add (x5_1).toNat) = some (.slice A645_0 (rd_L5 t642 x5_1).length c645_0)) (ds := []) #[false, false, false, false, false, false, false, false, false] (by kernel_rfl) rfl rfl ⟨(blk_cell BK641.out 0).trans rfl, (blk_cell BK641.out 1).trans rfl, (blk_cell BK641.out 2).trans rfl, (blk_cell BK641.out 3).trans rfl, (blk_cell BK641.out 4).trans rfl, hx645_0⟩ (fun hHeld => ?_); refine with_tabW swarfref04_Truths.tab6 swarfref04_Truths.bits6 (fun HT_ HW_ => ?_)
      generalize wr.drew = w16 at HO_3 HO_4 BK641 HB HL645_0 HR645_0 hx645_0 hHeld ⊢
      refine pure_ (i := 1) (N := some 15) (v := ?_) (a' := ?_) (bz 9 2) rfl rfl (any_of HT_.out (by kernel_rfl)) (fun _ _ _ h => h) (Or.inl ⟨by rfl, ?_⟩) ?_ ?_
      rotate_left
      ·
       intro w'
       go_simp
       with_reducible rfl
      rotate_left
      ·
       simp only [Act.put, put_x, i64_w, i32_w]
       rfl
      refine pure_ (i := 2) (N := some 16) (v := ?_) (a' := ?_) (bz 9 6) rfl rfl (any_of HT_.out (by kernel_rfl)) (fun _ _ _ h => h) (Or.inl ⟨by rfl, ?_⟩) ?_ ?_
      rotate_left
      ·
       intro w'
       go_simp
       with_reducible rfl
      rotate_left
      ·
       simp only [Act.put, put_x, i64_w, i32_w]
       rfl
      refine pure_ (i := 3) (N := some 17) (v := ?_) (a' := ?_) (bz 9 14) rfl rfl (any_of HT_.out (by kernel_rfl)) (fun _ _ _ h => h) (Or.inl ⟨by rfl, ?_⟩) ?_ ?_
      rotate_left
      ·
       intro w'
       go_simp
       with_reducible rfl
      rotate_left
      ·
       simp only [Act.put, put_x, i64_w, i32_w]
       rfl
      refine pure_ (i := 6) (N := some 20) (v := ?_) (a' := ?_) (bz 9 78) rfl rfl (any_of HT_.out (by kernel_rfl)) (fun _ _ _ h => h) (Or.inl ⟨by rfl, ?_⟩) ?_ ?_
      rotate_left
      ·
       intro w'
       go_simp
       with_reducible rfl
      rotate_left
      ·
       simp only [Act.put, put_x, i64_w, i32_w]
       rfl
      refine take_ (i := 0) (N := some 14) (v := ?_) (a' := ?_) (bz 9 79) rfl rfl (take_ofW HT_.out HW_.out (by kernel_rfl)) (fun _ _ _ h => h) (Or.inl ⟨by rfl, ?_⟩) hHeld ?_ ?_
      rotate_left
      ·
       rintro w' ⟨s0, s1, s2, s3, s4, s5⟩
       go_simp
       with_reducible rfl
      rotate_left
      ·
       simp only [Act.put, put_x, i64_w, i32_w]
       rfl
      refine take_ (i := 4) (N := some 18) (v := ?_) (a' := ?_) (bz 9 95) rfl rfl (take_ofW HT_.out HW_.out (by kernel_rfl)) (fun _ _ _ h => h) (Or.inl ⟨by rfl, ?_⟩) hHeld ?_ ?_
      rotate_left
      ·
       rintro w' ⟨s0, s1, s2, s3, s4, s5⟩
       go_simp
       with_reducible rfl
      rotate_left
      ·
       simp only [Act.put, put_x, i64_w, i32_w]
       rfl
      refine take_ (i := 7) (N := some 21) (v := ?_) (a' := ?_) (bz 9 223) rfl rfl (take_ofW HT_.out HW_.out (by kernel_rfl)) (fun _ _ _ h => h) (Or.inl ⟨by rfl, ?_⟩) hHeld ?_ ?_
      rotate_left
      ·
       rintro w' ⟨s0, s1, s2, s3, s4, s5⟩
       go_simp
       with_reducible rfl
      rotate_left
      ·
       simp only [Act.put, put_x, i64_w, i32_w]
       rfl
      refine one_ (i := 5) (N := some 19) (bz 9 255) rfl rfl (one_of HT_.out (by kernel_rfl)) (by decide) (fun K hK => ?_)
      refine goes_ Try.func28 (by kernel_rfl) rfl #[.agg #[.slice A0_0 l0_0.length c0_0, .int .i64 a0_1, .slice A0_2 l0_2.length c0_2, .int .i64 a0_3, .slice A0_4 l0_4.length c0_4], .slice A645_0 (rd_L5 t642 x5_1).length c645_0] (by rfl) rfl rfl (by (try simp only [List.map_toArray, List.map_cons, List.map_nil]); first | done | rfl | (simp only [List.length_drop, List.length_take]; rfl)) ?_
      with_reducible refine (swarfref04_Wrongs.calls k1 _ _ l0_0 a0_1 _ _ l0_2 a0_3 _ _ l0_4 _ _ (rd_L5 t642 x5_1) t646 _ ?side1 ?side2 ?side3 ?side4 ?side5 ?side6 ?side7 ?side8 A8.out).mono ?_
      (case side1 => exact Kd.C_x HR0_0.out HB.out)
      (case side2 => exact HC0_0.out)
      (case side3 => exact Kd.C_x HR0_2.out HB.out)
      (case side4 => exact HC0_2.out)
      (case side5 => exact Kd.C_x HR0_4.out HB.out)
      (case side6 => exact HC0_4.out)
      (case side7 => repeat (first | exact (by repeat (first | (with_reducible exact HR645_0.out) | (with_reducible refine Kd.C_alloc ?_ _) | (with_reducible refine Kd.C_drewN ?_ _) | (with_reducible refine Kd.C_drew ?_) | exact HR645_0.out)) | (with_reducible refine Kd.C_alloc ?_ _) | (with_reducible refine Kd.C_drewN ?_ _) | (with_reducible refine Kd.C_drew ?_)))
      (case side8 => exact HC645_0.out)
      rintro e w17 ⟨rfl, hb⟩
      have HS5_ := (hb.cell (World.block_lt_of_cell? _ _ (hHeld.2.2.2.2.2))).trans (hHeld.2.2.2.2.2)
      refine ⟨_, rfl, ?_⟩
      replace HO_3 := Aside0.mk (Kd.N_below (Kd.N_x HO_3.out) hb)
      replace HO_4 := Aside0.mk (Kd.N_below (Kd.N_x HO_4.out) hb)
      replace HL645_0 := Aside0.mk (Kd.V_below (Kd.V_x HL645_0.out) hb)
      replace BK641 := Aside0.mk (blk_below (blk_x BK641.out) hb)
      replace HR645_0 := Aside0.mk (Kd.C_below (by repeat (first | (with_reducible exact HR645_0.out) | (with_reducible refine Kd.C_alloc ?_ _) | (with_reducible refine Kd.C_drewN ?_ _) | (with_reducible refine Kd.C_drew ?_) | exact HR645_0.out)) hb)
      replace HB := bl_x HB hb
      (try clear hb)
      (try clear hb2)
      (try clear hk)
      (try clear hi)
      refine hK.out _ _ ⟨(blk_cell BK641.out 0).trans rfl, (blk_cell BK641.out 1).trans rfl, (blk_cell BK641.out 2).trans rfl, (blk_cell BK641.out 3).trans rfl, (blk_cell BK641.out 4).trans rfl, HS5_⟩ (fun hHeld => ?_)
      clear hK K
      refine norm_ (a' := ?_) ?_ ?_
      rotate_left
      ·
       show Act.put _ (some 19) _ = _
       simp only [Act.put, put_x, i64_w, i32_w]
       rfl
      refine pure_ (i := 8) (N := some 22) (v := ?_) (a' := ?_) (bz 9 511) rfl rfl (any_of HT_.out (by kernel_rfl)) (fun _ _ _ h => h) (Or.inl ⟨by rfl, ?_⟩) ?_ ?_
      rotate_left
      ·
       intro w'
       go_simp
       with_reducible rfl
      rotate_left
      ·
       simp only [Act.put, put_x, i64_w, i32_w]
       rfl
      refine done_ (done_of HT_.out (by kernel_rfl)) ?_
      try go_wp2
      go_roundg k1
      case measure => have := HK1.out; omega
      case rel => exact ⟨(x3_1), (wrap64 (x5_1 + 1)), (by first | rfl | (simp; done) | (simp [*]; done)), H', ⟨by have := HK1.out; omega⟩, ⟨by (with_reducible repeat (first | apply Kd.N_alloc | apply Kd.N_drewN | apply Kd.N_drew)); exact HO_3.out⟩, ⟨by (with_reducible repeat (first | apply Kd.N_alloc | apply Kd.N_drewN | apply Kd.N_drew)); exact HO_4.out⟩, ⟨blk_x BK641.out⟩, ⟨by exact below_y HB.out⟩⟩
    ·
     rw [if_neg c7] at H
     exact absurd H (by simp)
   ·
    rw [if_neg c6] at H
    have c6b0 : decide (x5_1 < (t642.length : Int)) = false := decide_eq_false c6
    clear c6
    obtain rfl := Option.some.inj H
    obtain ⟨Ao18, co18, eo18⟩ := Kd.N_slice HO_4.out
    subst eo18
    go_wp2
    go_ret
    exact ⟨_, by first | rfl | (simp [errW_none, errW_some] <;> rfl) | (simp [*, errW_none, errW_some] <;> rfl), by (with_reducible repeat (first | apply Kd.N_alloc | apply Kd.N_drewN | apply Kd.N_drew)); exact Kd.N_mono HO_3.out (fun _ hk => hk.1), by exact below_y HB.out⟩
def swarfref04_known.f (k : Nat) (l0_0 : List (S50)) (a0_1 : Int) (l0_2 : List (S61)) (a0_3 : Int) (l0_4 : List Int) : Option ((List (List Bool)) × Int) := (swarfref04_Check.f k l0_0 a0_1 l0_2 a0_3 l0_4).bind fun t787 => (if t787 = 0 then ((swarfref04_Truths.f k l0_0 a0_1 l0_2 a0_3 l0_4).bind fun t788 => (if (t788.length : Int) = 0 then (some (([] : List (List Bool)), 9)) else (some (t788, 0)))) else (some (([] : List (List Bool)), t787)))
theorem swarfref04_known.mono : ∀ a0 a1 a2 a3 a4 k, LeO (swarfref04_known.f k a0 a1 a2 a3 a4) (swarfref04_known.f (k + 1) a0 a1 a2 a3 a4) := by
 intro a0 a1 a2 a3 a4 k
 unfold swarfref04_known.f
 repeat' first
   | (with_reducible exact swarfref04_Check.mono _ _ _ _ _ _)
   | (with_reducible exact swarfref04_Truths.mono _ _ _ _ _ _)
   | (with_reducible exact LeO.refl _)
   | (with_reducible exact LeO.none _)
   | (with_reducible refine LeO.ite ?_ ?_)
   | (with_reducible refine LeO.bind ?_ (fun _ => ?_))
   | exact swarfref04_Check.mono _ _ _ _ _ _
   | exact swarfref04_Truths.mono _ _ _ _ _ _
   | exact LeO.none _
   | refine LeO.ite ?_ ?_
   | refine LeO.bind ?_ (fun _ => ?_)
set_option maxHeartbeats 8000000 in
set_option maxRecDepth 100000 in
theorem swarfref04_known.calls (k : Nat) (A0_0 : Option Addr) (c0_0 : Nat) (l0_0 : List (S50)) (a0_1 : Int) (A0_2 : Option Addr) (c0_2 : Nat) (l0_2 : List (S61)) (a0_3 : Int) (A0_4 : Option Addr) (c0_4 : Nat) (l0_4 : List Int) (r1 : List (List Bool)) (r2 : Int) (w : World) (hr0_0 : Kd.C k50 w A0_0 l0_0.length l0_0) (hc0_0 : l0_0.length ≤ c0_0) (hr0_2 : Kd.C k61 w A0_2 l0_2.length l0_2) (hc0_2 : l0_2.length ≤ c0_2) (hr0_4 : Kd.C (Kd.int .i64) w A0_4 l0_4.length l0_4) (hc0_4 : l0_4.length ≤ c0_4) (h : swarfref04_known.f k l0_0 a0_1 l0_2 a0_3 l0_4 = some (r1, r2)) :
  Calls Try.prog 68 #[.agg #[.slice A0_0 l0_0.length c0_0, .int .i64 a0_1, .slice A0_2 l0_2.length c0_2, .int .i64 a0_3, .slice A0_4 l0_4.length c0_4]] w fun e w' => ∃ v0_ : Value, e = .returned (.tuple #[v0_, .int .i64 r2]) ∧ Kd.N (Kd.slice 4 Kd.bool) 31 w' w.heap.size (fun k_ => (w.heap.size ≤ k_)) v0_ r1 ∧ Below w.heap.size w w' := by
 have hu26 := Try.underlying26
 have HR0_0 := Aside0.mk hr0_0
 have HC0_0 := Aside0.mk hc0_0
 clear hr0_0 hc0_0
 have HR0_2 := Aside0.mk hr0_2
 have HC0_2 := Aside0.mk hc0_2
 clear hr0_2 hc0_2
 have HR0_4 := Aside0.mk hr0_4
 have HC0_4 := Aside0.mk hc0_4
 clear hr0_4 hc0_4
 have HB := Aside0.mk (Below.refl w.heap.size w)
 have H : ((swarfref04_Check.f k l0_0 a0_1 l0_2 a0_3 l0_4).bind fun t787 => (if t787 = 0 then ((swarfref04_Truths.f k l0_0 a0_1 l0_2 a0_3 l0_4).bind fun t788 => (if (t788.length : Int) = 0 then (some (([] : List (List Bool)), 9)) else (some (t788, 0)))) else (some (([] : List (List Bool)), t787)))) = some (r1, r2) := h
 clear h
 replace H := Option.bind_eq_some_iff.mp H
 obtain ⟨t787, A20, H⟩ := H
 try dsimp only at H
 have A2 := Aside0.mk A20
 clear A20
 by_cases c3 : t787 = 0
 ·
  rw [if_pos c3] at H
  have c3b0 : (t787 == 0) = true := beq_iff_eq.mpr c3
  have c3b1 : (t787 != 0) = false := bne_eq_false_iff_eq.mpr c3
  clear c3
  replace H := Option.bind_eq_some_iff.mp H
  obtain ⟨t788, A40, H⟩ := H
  try dsimp only at H
  have A4 := Aside0.mk A40
  clear A40
  by_cases c5 : (t788.length : Int) = 0
  ·
   rw [if_pos c5] at H
   have c5b0 : ((t788.length : Int) == 0) = true := beq_iff_eq.mpr c5
   have c5b1 : ((t788.length : Int) != 0) = false := bne_eq_false_iff_eq.mpr c5
   clear c5
   simp only [Option.some.injEq, Prod.mk.injEq] at H
   obtain ⟨rfl, rfl⟩ := H
   go_enter Try.func68, Try.ntmps68
   go_wp2_with (first | ((with_reducible refine gate_dst (N := 1) rfl ?_); refine box_event ?hg (N := 1) ?hd (cs := #[.slice A0_0 l0_0.length c0_0, .int .i64 a0_1, .slice A0_2 l0_2.length c0_2, .int .i64 a0_3, .slice A0_4 l0_4.length c0_4]) (t := 26) ?hr ?_; (case hd => rfl); (case hg => rfl); (case hr => first | (go_simp; done) | (go_simp; rfl)); intro gb786 hg w6 hbox hb; have BK786 := Aside0.mk (hbox); have GW786 := Aside0.mk ((by rw [hg]; exact (below_size (below_x HB.out)) : w.heap.size ≤ gb786)); have GE786 := Aside0.mk ((by rw [hg]; exact (below_size (below_x HB.out)) : w.heap.size ≤ gb786)); replace HB := Aside0.mk (below_step (below_x HB.out) hb); clear hb hbox hg; obtain ⟨_, _, _, _, _⟩ := cz5 BK786; have hfz7_0 := blk_frozen BK786.out) | ((with_reducible refine gate_callee (f := 15) rfl ?_); refine goesL_ (some 7) rfl rfl Try.func15 (by kernel_rfl) rfl #[.agg #[.slice A0_0 l0_0.length c0_0, .int .i64 a0_1, .slice A0_2 l0_2.length c0_2, .int .i64 a0_3, .slice A0_4 l0_4.length c0_4]] rfl (by (try simp only [List.map_toArray, List.map_cons, List.map_nil]); first | done | rfl | (simp only [List.length_drop, List.length_take]; rfl)) ?_; (with_reducible refine (swarfref04_Check.calls k _ _ l0_0 a0_1 _ _ l0_2 a0_3 _ _ l0_4 t787 _ ?side1 ?side2 ?side3 ?side4 ?side5 ?side6 A2.out).mono ?_); (case side1 => exact Kd.C_x HR0_0.out HB.out); (case side2 => exact HC0_0.out); (case side3 => exact Kd.C_x HR0_2.out HB.out); (case side4 => exact HC0_2.out); (case side5 => exact Kd.C_x HR0_4.out HB.out); (case side6 => exact HC0_4.out); rintro e w8 ⟨rfl, hb⟩; refine ⟨_, rfl, ?_⟩; replace BK786 := Aside0.mk (blk_below (blk_x BK786.out) hb); replace HB := bl_x HB hb; (try clear hb); (try clear hk); (try clear hi); obtain ⟨_, _, _, _, _⟩ := cz5 BK786; have hfz9_0 := blk_frozen BK786.out) | ((with_reducible refine gate_callee (f := 48) rfl ?_); refine goesL_ (some 12) rfl rfl Try.func48 (by kernel_rfl) rfl #[.agg #[.slice A0_0 l0_0.length c0_0, .int .i64 a0_1, .slice A0_2 l0_2.length c0_2, .int .i64 a0_3, .slice A0_4 l0_4.length c0_4]] rfl (by (try simp only [List.map_toArray, List.map_cons, List.map_nil]); first | done | rfl | (simp only [List.length_drop, List.length_take]; rfl)) ?_; (with_reducible refine (swarfref04_Truths.calls k _ _ l0_0 a0_1 _ _ l0_2 a0_3 _ _ l0_4 t788 _ ?side1 ?side2 ?side3 ?side4 ?side5 ?side6 A4.out).mono ?_); (case side1 => exact Kd.C_x HR0_0.out HB.out); (case side2 => exact HC0_0.out); (case side3 => exact Kd.C_x HR0_2.out HB.out); (case side4 => exact HC0_2.out); (case side5 => exact Kd.C_x HR0_4.out HB.out); (case side6 => exact HC0_4.out); rintro e w10 ⟨v789, rfl, ho0, hb⟩; refine ⟨_, rfl, ?_⟩; have HO790 := Aside0.mk (Kd.N_lower (Kd.N_mono (ok' := fun k_ => (w.heap.size ≤ k_) ∧ k_ ≠ gb786) ho0 (fun k_ hk_ => ⟨(Nat.le_trans (below_size (by exact below_y HB.out)) hk_), (Kd.freshB (g := gb786) (o := .cells #[.slice A0_0 l0_0.length c0_0, .int .i64 a0_1, .slice A0_2 l0_2.length c0_2, .int .i64 a0_3, .slice A0_4 l0_4.length c0_4] 26 (0, 0)) (blk_x BK786.out) k_ hk_)⟩)) (below_size (by exact below_y HB.out))); replace BK786 := Aside0.mk (blk_below (blk_x BK786.out) hb); replace HB := bl_x HB hb; (try clear hb); (try clear hk); (try clear hi); (try clear ho0); obtain ⟨Ao11, co11, eo11⟩ := Kd.N_slice HO790.out; subst eo11))
   go_ret2
   exact ⟨_, by first | rfl | (simp [errW_none, errW_some] <;> rfl) | (simp [*, errW_none, errW_some] <;> rfl), by first | exact Kd.S_nil _ _ _ _ _ | exact Kd.N_nil _ _ _ _ _ | exact Kd.V_nil _ _ _ _ _ | exact Kd.Q_nil _ _ _ _ _ | exact Kd.R_nil _ _ _ _ _, by exact below_y HB.out⟩
  ·
   rw [if_neg c5] at H
   have c5b0 : ((t788.length : Int) == 0) = false := beq_eq_false_iff_ne.mpr c5
   have c5b1 : ((t788.length : Int) != 0) = true := bne_iff_ne.mpr c5
   have c5b2 : ¬ (t788 = []) := fun h_ => c5 (by rw [h_]; rfl)
   simp only [Option.some.injEq, Prod.mk.injEq] at H
   obtain ⟨rfl, rfl⟩ := H
   go_enter Try.func68, Try.ntmps68
   go_wp2_with (first | ((with_reducible refine gate_dst (N := 1) rfl ?_); refine box_event ?hg (N := 1) ?hd (cs := #[.slice A0_0 l0_0.length c0_0, .int .i64 a0_1, .slice A0_2 l0_2.length c0_2, .int .i64 a0_3, .slice A0_4 l0_4.length c0_4]) (t := 26) ?hr ?_; (case hd => rfl); (case hg => rfl); (case hr => first | (go_simp; done) | (go_simp; rfl)); intro gb786 hg w12 hbox hb; have BK786 := Aside0.mk (hbox); have GW786 := Aside0.mk ((by rw [hg]; exact (below_size (below_x HB.out)) : w.heap.size ≤ gb786)); have GE786 := Aside0.mk ((by rw [hg]; exact (below_size (below_x HB.out)) : w.heap.size ≤ gb786)); replace HB := Aside0.mk (below_step (below_x HB.out) hb); clear hb hbox hg; obtain ⟨_, _, _, _, _⟩ := cz5 BK786; have hfz13_0 := blk_frozen BK786.out) | ((with_reducible refine gate_callee (f := 15) rfl ?_); refine goesL_ (some 7) rfl rfl Try.func15 (by kernel_rfl) rfl #[.agg #[.slice A0_0 l0_0.length c0_0, .int .i64 a0_1, .slice A0_2 l0_2.length c0_2, .int .i64 a0_3, .slice A0_4 l0_4.length c0_4]] rfl (by (try simp only [List.map_toArray, List.map_cons, List.map_nil]); first | done | rfl | (simp only [List.length_drop, List.length_take]; rfl)) ?_; (with_reducible refine (swarfref04_Check.calls k _ _ l0_0 a0_1 _ _ l0_2 a0_3 _ _ l0_4 t787 _ ?side1 ?side2 ?side3 ?side4 ?side5 ?side6 A2.out).mono ?_); (case side1 => exact Kd.C_x HR0_0.out HB.out); (case side2 => exact HC0_0.out); (case side3 => exact Kd.C_x HR0_2.out HB.out); (case side4 => exact HC0_2.out); (case side5 => exact Kd.C_x HR0_4.out HB.out); (case side6 => exact HC0_4.out); rintro e w14 ⟨rfl, hb⟩; refine ⟨_, rfl, ?_⟩; replace BK786 := Aside0.mk (blk_below (blk_x BK786.out) hb); replace HB := bl_x HB hb; (try clear hb); (try clear hk); (try clear hi); obtain ⟨_, _, _, _, _⟩ := cz5 BK786; have hfz15_0 := blk_frozen BK786.out) | ((with_reducible refine gate_callee (f := 48) rfl ?_); refine goesL_ (some 12) rfl rfl Try.func48 (by kernel_rfl) rfl #[.agg #[.slice A0_0 l0_0.length c0_0, .int .i64 a0_1, .slice A0_2 l0_2.length c0_2, .int .i64 a0_3, .slice A0_4 l0_4.length c0_4]] rfl (by (try simp only [List.map_toArray, List.map_cons, List.map_nil]); first | done | rfl | (simp only [List.length_drop, List.length_take]; rfl)) ?_; (with_reducible refine (swarfref04_Truths.calls k _ _ l0_0 a0_1 _ _ l0_2 a0_3 _ _ l0_4 t788 _ ?side1 ?side2 ?side3 ?side4 ?side5 ?side6 A4.out).mono ?_); (case side1 => exact Kd.C_x HR0_0.out HB.out); (case side2 => exact HC0_0.out); (case side3 => exact Kd.C_x HR0_2.out HB.out); (case side4 => exact HC0_2.out); (case side5 => exact Kd.C_x HR0_4.out HB.out); (case side6 => exact HC0_4.out); rintro e w16 ⟨v789, rfl, ho0, hb⟩; refine ⟨_, rfl, ?_⟩; have HO790 := Aside0.mk (Kd.N_lower (Kd.N_mono (ok' := fun k_ => (w.heap.size ≤ k_) ∧ k_ ≠ gb786) ho0 (fun k_ hk_ => ⟨(Nat.le_trans (below_size (by exact below_y HB.out)) hk_), (Kd.freshB (g := gb786) (o := .cells #[.slice A0_0 l0_0.length c0_0, .int .i64 a0_1, .slice A0_2 l0_2.length c0_2, .int .i64 a0_3, .slice A0_4 l0_4.length c0_4] 26 (0, 0)) (blk_x BK786.out) k_ hk_)⟩)) (below_size (by exact below_y HB.out))); replace BK786 := Aside0.mk (blk_below (blk_x BK786.out) hb); replace HB := bl_x HB hb; (try clear hb); (try clear hk); (try clear hi); (try clear ho0); obtain ⟨Ao17, co17, eo17⟩ := Kd.N_slice HO790.out; subst eo17))
   go_ret2
   exact ⟨_, by first | rfl | (simp [errW_none, errW_some] <;> rfl) | (simp [*, errW_none, errW_some] <;> rfl), by (with_reducible repeat (first | apply Kd.N_alloc | apply Kd.N_drewN | apply Kd.N_drew)); exact Kd.N_mono HO790.out (fun _ hk => hk.1), by exact below_y HB.out⟩
 ·
  rw [if_neg c3] at H
  have c3b0 : (t787 == 0) = false := beq_eq_false_iff_ne.mpr c3
  have c3b1 : (t787 != 0) = true := bne_iff_ne.mpr c3
  simp only [Option.some.injEq, Prod.mk.injEq] at H
  obtain ⟨rfl, rfl⟩ := H
  go_enter Try.func68, Try.ntmps68
  go_wp2_with (first | ((with_reducible refine gate_dst (N := 1) rfl ?_); refine box_event ?hg (N := 1) ?hd (cs := #[.slice A0_0 l0_0.length c0_0, .int .i64 a0_1, .slice A0_2 l0_2.length c0_2, .int .i64 a0_3, .slice A0_4 l0_4.length c0_4]) (t := 26) ?hr ?_; (case hd => rfl); (case hg => rfl); (case hr => first | (go_simp; done) | (go_simp; rfl)); intro gb786 hg w18 hbox hb; have BK786 := Aside0.mk (hbox); have GW786 := Aside0.mk ((by rw [hg]; exact (below_size (below_x HB.out)) : w.heap.size ≤ gb786)); have GE786 := Aside0.mk ((by rw [hg]; exact (below_size (below_x HB.out)) : w.heap.size ≤ gb786)); replace HB := Aside0.mk (below_step (below_x HB.out) hb); clear hb hbox hg; obtain ⟨_, _, _, _, _⟩ := cz5 BK786; have hfz19_0 := blk_frozen BK786.out) | ((with_reducible refine gate_callee (f := 15) rfl ?_); refine goesL_ (some 7) rfl rfl Try.func15 (by kernel_rfl) rfl #[.agg #[.slice A0_0 l0_0.length c0_0, .int .i64 a0_1, .slice A0_2 l0_2.length c0_2, .int .i64 a0_3, .slice A0_4 l0_4.length c0_4]] rfl (by (try simp only [List.map_toArray, List.map_cons, List.map_nil]); first | done | rfl | (simp only [List.length_drop, List.length_take]; rfl)) ?_; (with_reducible refine (swarfref04_Check.calls k _ _ l0_0 a0_1 _ _ l0_2 a0_3 _ _ l0_4 t787 _ ?side1 ?side2 ?side3 ?side4 ?side5 ?side6 A2.out).mono ?_); (case side1 => exact Kd.C_x HR0_0.out HB.out); (case side2 => exact HC0_0.out); (case side3 => exact Kd.C_x HR0_2.out HB.out); (case side4 => exact HC0_2.out); (case side5 => exact Kd.C_x HR0_4.out HB.out); (case side6 => exact HC0_4.out); rintro e w20 ⟨rfl, hb⟩; refine ⟨_, rfl, ?_⟩; replace BK786 := Aside0.mk (blk_below (blk_x BK786.out) hb); replace HB := bl_x HB hb; (try clear hb); (try clear hk); (try clear hi)))
  go_ret2
  exact ⟨_, by first | rfl | (simp [errW_none, errW_some] <;> rfl) | (simp [*, errW_none, errW_some] <;> rfl), by first | exact Kd.S_nil _ _ _ _ _ | exact Kd.N_nil _ _ _ _ _ | exact Kd.V_nil _ _ _ _ _ | exact Kd.Q_nil _ _ _ _ _ | exact Kd.R_nil _ _ _ _ _, by exact below_y HB.out⟩
def swarfref04_verdict.f (a0 : Int) (a1 : Int) : Option (Int) := if a0 = a1 then (some 1) else (if a0 = 0 then (some 2) else (some 3))
set_option maxHeartbeats 8000000 in
set_option maxRecDepth 100000 in
theorem swarfref04_verdict.calls (a0 : Int) (a1 : Int) (r : Int) (w : World) (h : swarfref04_verdict.f a0 a1 = some r) :
  Calls Try.prog 69 #[.int .i64 a0, .int .i64 a1] w fun e w' => e = .returned (.int .i64 r) ∧ Drawn0 w w' := by
 have H : (if a0 = a1 then (some 1) else (if a0 = 0 then (some 2) else (some 3))) = some r := h
 clear h
 by_cases c3 : a0 = a1
 ·
  rw [if_pos c3] at H
  have c3b0 : (a0 == a1) = true := beq_iff_eq.mpr c3
  have c3b1 : (a0 != a1) = false := bne_eq_false_iff_eq.mpr c3
  clear c3
  obtain rfl := Option.some.inj H
  go_enter Try.func69, Try.ntmps69
  go_wp2
  go_ret
  exact ⟨by first | rfl | (simp; done) | (simp [*]; done), by repeat (first | exact Drawn0.refl _ | apply Drawn0.step)⟩
 ·
  rw [if_neg c3] at H
  have c3b0 : (a0 == a1) = false := beq_eq_false_iff_ne.mpr c3
  have c3b1 : (a0 != a1) = true := bne_iff_ne.mpr c3
  by_cases c4 : a0 = 0
  ·
   rw [if_pos c4] at H
   have c4b0 : (a0 == 0) = true := beq_iff_eq.mpr c4
   have c4b1 : (a0 != 0) = false := bne_eq_false_iff_eq.mpr c4
   clear c4
   obtain rfl := Option.some.inj H
   go_enter Try.func69, Try.ntmps69
   go_wp2
   go_ret
   exact ⟨by first | rfl | (simp; done) | (simp [*]; done), by repeat (first | exact Drawn0.refl _ | apply Drawn0.step)⟩
  ·
   rw [if_neg c4] at H
   have c4b0 : (a0 == 0) = false := beq_eq_false_iff_ne.mpr c4
   have c4b1 : (a0 != 0) = true := bne_iff_ne.mpr c4
   obtain rfl := Option.some.inj H
   go_enter Try.func69, Try.ntmps69
   go_wp2
   go_ret
   exact ⟨by first | rfl | (simp; done) | (simp [*]; done), by repeat (first | exact Drawn0.refl _ | apply Drawn0.step)⟩
mutual
def swarfref04_Out.l0 : Nat → List (List Bool) → List Int → Int → List (S50) → Int → List (S61) → Int → List Int → Option (List Int × Int)
 | 0, _, _, _, _, _, _, _, _ => none
 | k + 1, x4, x6, x7, x792000, x792001, x792002, x792003, x792004 => if x7 < (x792000.length : Int) then (swarfref04_Out.l1 k x4 x6 x7 0 0 x792000 x792001 x792002 x792003 x792004) else (some (x6, 0))
def swarfref04_Out.l1 : Nat → List (List Bool) → List Int → Int → Int → Int → List (S50) → Int → List (S61) → Int → List Int → Option (List Int × Int)
 | 0, _, _, _, _, _, _, _, _, _, _ => none
 | k + 1, x4, x6, x7, x8, x9, x792000, x792001, x792002, x792003, x792004 => if x9 < (x4.length : Int) then (if 0 ≤ x9 then (if 0 ≤ x7 then (if x7 < ((rd_L5 x4 x9).length : Int) then (if rdOf false (rd_L5 x4 x9) x7 = true then (swarfref04_Out.l1 k x4 x6 x7 (wrap64 (x8 + 1)) (wrap64 (x9 + 1)) x792000 x792001 x792002 x792003 x792004) else (swarfref04_Out.l1 k x4 x6 x7 x8 (wrap64 (x9 + 1)) x792000 x792001 x792002 x792003 x792004)) else (none)) else (none)) else (none)) else ((swarfref04_verdict.f x8 (x4.length : Int)).bind fun t798 => (if x6.length < 17592186044416 then (swarfref04_Out.l0 k x4 (x6 ++ [t798]) (wrap64 (x7 + 1)) x792000 x792001 x792002 x792003 x792004) else (none)))
end
def swarfref04_Out.f (k : Nat) (l0_0 : List (S50)) (a0_1 : Int) (l0_2 : List (S61)) (a0_3 : Int) (l0_4 : List Int) : Option (List Int × Int) := (swarfref04_known.f k l0_0 a0_1 l0_2 a0_3 l0_4).bind fun bt792 => (if bt792.2 = 0 then (swarfref04_Out.l0 k bt792.1 ([] : List Int) 0 l0_0 a0_1 l0_2 a0_3 l0_4) else (some (([] : List Int), bt792.2)))
theorem swarfref04_Out.mono_l : ∀ k, (∀ y0 y1 y2 y3 y4 y5 y6 y7, LeO (swarfref04_Out.l0 k y0 y1 y2 y3 y4 y5 y6 y7) (swarfref04_Out.l0 (k + 1) y0 y1 y2 y3 y4 y5 y6 y7)) ∧ (∀ y0 y1 y2 y3 y4 y5 y6 y7 y8 y9, LeO (swarfref04_Out.l1 k y0 y1 y2 y3 y4 y5 y6 y7 y8 y9) (swarfref04_Out.l1 (k + 1) y0 y1 y2 y3 y4 y5 y6 y7 y8 y9))
 | 0 => ⟨fun _ _ _ _ _ _ _ _ r h => by simp [swarfref04_Out.l0] at h, fun _ _ _ _ _ _ _ _ _ _ r h => by simp [swarfref04_Out.l1] at h⟩
 | k + 1 => by
  obtain ⟨ih0, ih1⟩ := swarfref04_Out.mono_l k
  refine ⟨?_, ?_⟩
  ·
   intro y0 y1 y2 y3 y4 y5 y6 y7
   unfold swarfref04_Out.l0
   repeat' first
   | (with_reducible exact ih0 _ _ _ _ _ _ _ _)
   | (with_reducible exact ih1 _ _ _ _ _ _ _ _ _ _)
   | (with_reducible exact swarfref04_known.mono _ _ _ _ _ _)
   | (with_reducible exact LeO.refl _)
   | (with_reducible exact LeO.none _)
   | (with_reducible refine LeO.ite ?_ ?_)
   | (with_reducible refine LeO.bind ?_ (fun _ => ?_))
   | exact ih0 _ _ _ _ _ _ _ _
   | exact ih1 _ _ _ _ _ _ _ _ _ _
   | exact swarfref04_known.mono _ _ _ _ _ _
   | exact LeO.none _
   | refine LeO.ite ?_ ?_
   | refine LeO.bind ?_ (fun _ => ?_)
  ·
   intro y0 y1 y2 y3 y4 y5 y6 y7 y8 y9
   unfold swarfref04_Out.l1
   repeat' first
   | (with_reducible exact ih0 _ _ _ _ _ _ _ _)
   | (with_reducible exact ih1 _ _ _ _ _ _ _ _ _ _)
   | (with_reducible exact swarfref04_known.mono _ _ _ _ _ _)
   | (with_reducible exact LeO.refl _)
   | (with_reducible exact LeO.none _)
   | (with_reducible refine LeO.ite ?_ ?_)
   | (with_reducible refine LeO.bind ?_ (fun _ => ?_))
   | exact ih0 _ _ _ _ _ _ _ _
   | exact ih1 _ _ _ _ _ _ _ _ _ _
   | exact swarfref04_known.mono _ _ _ _ _ _
   | exact LeO.none _
   | refine LeO.ite ?_ ?_
   | refine LeO.bind ?_ (fun _ => ?_)
theorem swarfref04_Out.mono : ∀ a0 a1 a2 a3 a4 k, LeO (swarfref04_Out.f k a0 a1 a2 a3 a4) (swarfref04_Out.f (k + 1) a0 a1 a2 a3 a4) := by
 intro a0 a1 a2 a3 a4 k
 obtain ⟨ih0, ih1⟩ := swarfref04_Out.mono_l k
 unfold swarfref04_Out.f
 repeat' first
   | (with_reducible exact ih0 _ _ _ _ _ _ _ _)
   | (with_reducible exact ih1 _ _ _ _ _ _ _ _ _ _)
   | (with_reducible exact swarfref04_known.mono _ _ _ _ _ _)
   | (with_reducible exact LeO.refl _)
   | (with_reducible exact LeO.none _)
   | (with_reducible refine LeO.ite ?_ ?_)
   | (with_reducible refine LeO.bind ?_ (fun _ => ?_))
   | exact ih0 _ _ _ _ _ _ _ _
   | exact ih1 _ _ _ _ _ _ _ _ _ _
   | exact swarfref04_known.mono _ _ _ _ _ _
   | exact LeO.none _
   | refine LeO.ite ?_ ?_
   | refine LeO.bind ?_ (fun _ => ?_)
set_option maxHeartbeats 8000000 in
set_option maxRecDepth 100000 in
theorem swarfref04_Out.calls (k : Nat) (A0_0 : Option Addr) (c0_0 : Nat) (l0_0 : List (S50)) (a0_1 : Int) (A0_2 : Option Addr) (c0_2 : Nat) (l0_2 : List (S61)) (a0_3 : Int) (A0_4 : Option Addr) (c0_4 : Nat) (l0_4 : List Int) (r1 : List Int) (r2 : Int) (w : World) (hr0_0 : Kd.C k50 w A0_0 l0_0.length l0_0) (hc0_0 : l0_0.length ≤ c0_0) (hr0_2 : Kd.C k61 w A0_2 l0_2.length l0_2) (hc0_2 : l0_2.length ≤ c0_2) (hr0_4 : Kd.C (Kd.int .i64) w A0_4 l0_4.length l0_4) (hc0_4 : l0_4.length ≤ c0_4) (h : swarfref04_Out.f k l0_0 a0_1 l0_2 a0_3 l0_4 = some (r1, r2)) :
  Calls Try.prog 36 #[.agg #[.slice A0_0 l0_0.length c0_0, .int .i64 a0_1, .slice A0_2 l0_2.length c0_2, .int .i64 a0_3, .slice A0_4 l0_4.length c0_4]] w fun e w' => ∃ v0_ : Value, e = .returned (.tuple #[v0_, .int .i64 r2]) ∧ Kd.R (Kd.int .i64) 3 w' w.heap.size (fun _ => True) v0_ r1 ∧ Below w.heap.size w w' := by
 have hu26 := Try.underlying26
 have HR0_0 := Aside0.mk hr0_0
 have HC0_0 := Aside0.mk hc0_0
 clear hr0_0 hc0_0
 have HR0_2 := Aside0.mk hr0_2
 have HC0_2 := Aside0.mk hc0_2
 clear hr0_2 hc0_2
 have HR0_4 := Aside0.mk hr0_4
 have HC0_4 := Aside0.mk hc0_4
 clear hr0_4 hc0_4
 have HB := Aside0.mk (Below.refl w.heap.size w)
 have H : ((swarfref04_known.f k l0_0 a0_1 l0_2 a0_3 l0_4).bind fun bt792 => (if bt792.2 = 0 then (swarfref04_Out.l0 k bt792.1 ([] : List Int) 0 l0_0 a0_1 l0_2 a0_3 l0_4) else (some (([] : List Int), bt792.2)))) = some (r1, r2) := h
 clear h
 replace H := Option.bind_eq_some_iff.mp H
 obtain ⟨⟨t792, t795⟩, A20, H⟩ := H
 try dsimp only at H
 have A2 := Aside0.mk A20
 clear A20
 by_cases c3 : t795 = 0
 ·
  rw [if_pos c3] at H
  have c3b0 : (t795 == 0) = true := beq_iff_eq.mpr c3
  have c3b1 : (t795 != 0) = false := bne_eq_false_iff_eq.mpr c3
  clear c3
  have H' := Aside0.mk H
  clear H
  go_enter Try.func36, Try.ntmps36
  go_wp2_with (first | ((with_reducible refine gate_dst (N := 1) rfl ?_); refine box_event ?hg (N := 1) ?hd (cs := #[.slice A0_0 l0_0.length c0_0, .int .i64 a0_1, .slice A0_2 l0_2.length c0_2, .int .i64 a0_3, .slice A0_4 l0_4.length c0_4]) (t := 26) ?hr ?_; (case hd => rfl); (case hg => rfl); (case hr => first | (go_simp; done) | (go_simp; rfl)); intro gb791 hg w4 hbox hb; have BK791 := Aside0.mk (hbox); have GW791 := Aside0.mk ((by rw [hg]; exact (below_size (below_x HB.out)) : w.heap.size ≤ gb791)); have GE791 := Aside0.mk ((by rw [hg]; exact (below_size (below_x HB.out)) : w.heap.size ≤ gb791)); replace HB := Aside0.mk (below_step (below_x HB.out) hb); clear hb hbox hg; obtain ⟨_, _, _, _, _⟩ := cz5 BK791; have hfz5_0 := blk_frozen BK791.out) | ((with_reducible refine gate_callee (f := 68) rfl ?_); refine goesL_ (some 12) rfl rfl Try.func68 (by kernel_rfl) rfl #[.agg #[.slice A0_0 l0_0.length c0_0, .int .i64 a0_1, .slice A0_2 l0_2.length c0_2, .int .i64 a0_3, .slice A0_4 l0_4.length c0_4]] rfl (by (try simp only [List.map_toArray, List.map_cons, List.map_nil]); first | done | rfl | (simp only [List.length_drop, List.length_take]; rfl)) ?_; (with_reducible refine (swarfref04_known.calls k _ _ l0_0 a0_1 _ _ l0_2 a0_3 _ _ l0_4 t792 t795 _ ?side1 ?side2 ?side3 ?side4 ?side5 ?side6 A2.out).mono ?_); (case side1 => exact Kd.C_x HR0_0.out HB.out); (case side2 => exact HC0_0.out); (case side3 => exact Kd.C_x HR0_2.out HB.out); (case side4 => exact HC0_2.out); (case side5 => exact Kd.C_x HR0_4.out HB.out); (case side6 => exact HC0_4.out); rintro e w6 ⟨v793, rfl, ho0, hb⟩; refine ⟨_, rfl, ?_⟩; have HO794 := Aside0.mk (Kd.N_lower (Kd.N_mono (ok' := fun k_ => k_ ≠ gb791) ho0 (fun k_ hk_ => (Kd.freshB (g := gb791) (o := .cells #[.slice A0_0 l0_0.length c0_0, .int .i64 a0_1, .slice A0_2 l0_2.length c0_2, .int .i64 a0_3, .slice A0_4 l0_4.length c0_4] 26 (0, 0)) (blk_x BK791.out) k_ hk_))) (below_size (by exact below_y HB.out))); replace BK791 := Aside0.mk (blk_below (blk_x BK791.out) hb); replace HB := bl_x HB hb; (try clear hb); (try clear hk); (try clear hi); (try clear ho0)))
  go_loopg [6, 7] k (fun kq v6 v7 w' => ∃ (x6_1 : List Int) (x7_1 : Int), v7 = .int .i64 x7_1 ∧ Aside0 (swarfref04_Out.l0 kq t792 x6_1 x7_1 l0_0 a0_1 l0_2 a0_3 l0_4 = some (r1, r2)) ∧ Aside0 (kq ≤ k) ∧ Aside0 (Kd.N (Kd.slice 4 Kd.bool) 31 w' w.heap.size (fun k_ => some k_ ≠ (v6 : Value).ownBlock ∧ k_ ≠ gb791) v793 t792) ∧ Aside0 (Kd.R (Kd.int .i64) 3 w' w.heap.size (fun _ => True) v6 x6_1) ∧ Aside0 (w'.heap[gb791]? = some (.cells #[(.slice A0_0 l0_0.length c0_0), .int .i64 a0_1, (.slice A0_2 l0_2.length c0_2), .int .i64 a0_3, (.slice A0_4 l0_4.length c0_4)] 26 (0, 0))) ∧ Aside0 (Below w.heap.size w w'))
  case atStart => exact ⟨(([] : List Int)), (0), (by first | rfl | (simp; done) | (simp [*]; done)), H', ⟨Nat.le_refl _⟩, ⟨by (with_reducible repeat (first | apply Kd.N_alloc | apply Kd.N_drewN | apply Kd.N_drew)); exact Kd.N_mono HO794.out (fun _ hk => ⟨(by simp [Value.ownBlock]), hk⟩)⟩, ⟨by first | exact Kd.R_nil _ _ _ _ _ | exact Kd.N_nil _ _ _ _ _ | exact Kd.V_nil _ _ _ _ _ | exact Kd.Q_nil _ _ _ _ _ | exact Kd.S_nil _ _ _ _ _⟩, ⟨blk_x BK791.out⟩, ⟨by exact below_y HB.out⟩⟩
  case round =>
   clear H'
   obtain ⟨x6_1, x7_1, rfl, HA, HK1, HO_4, HO_6, BK791, HB⟩ := hrel
   cases gk with
   | zero => exact absurd HA.out (by simp [swarfref04_Out.l0])
   | succ k1 =>
    have H := HA.out
    clear HA
    simp only [swarfref04_Out.l0] at H
    by_cases c7 : x7_1 < (l0_0.length : Int)
    ·
     rw [if_pos c7] at H
     have c7b0 : decide (x7_1 < (l0_0.length : Int)) = true := decide_eq_true c7
     clear c7
     have H' := Aside0.mk H
     clear H
     obtain ⟨_, _, _, _, _⟩ := cz5 BK791
     have hfz8_0 := blk_frozen BK791.out
     go_wp2
     go_loopg [8, 9] k1 (fun kq v8 v9 w' => ∃ (x8_2 : Int) (x9_2 : Int), v8 = .int .i64 x8_2 ∧ v9 = .int .i64 x9_2 ∧ Aside0 (swarfref04_Out.l1 kq t792 x6_1 x7_1 x8_2 x9_2 l0_0 a0_1 l0_2 a0_3 l0_4 = some (r1, r2)) ∧ Aside0 (kq ≤ k1) ∧ Aside0 (Kd.N (Kd.slice 4 Kd.bool) 31 w' w.heap.size (fun k_ => some k_ ≠ (u6 : Value).ownBlock ∧ k_ ≠ gb791) v793 t792) ∧ Aside0 (Kd.R (Kd.int .i64) 3 w' w.heap.size (fun _ => True) u6 x6_1) ∧ Aside0 (w'.heap[gb791]? = some (.cells #[(.slice A0_0 l0_0.length c0_0), .int .i64 a0_1, (.slice A0_2 l0_2.length c0_2), .int .i64 a0_3, (.slice A0_4 l0_4.length c0_4)] 26 (0, 0))) ∧ Aside0 (Below w.heap.size w w'))
     case atStart => exact ⟨(0), (0), (by first | rfl | (simp; done) | (simp [*]; done)), (by first | rfl | (simp; done) | (simp [*]; done)), H', ⟨Nat.le_refl _⟩, ⟨by (with_reducible repeat (first | apply Kd.N_alloc | apply Kd.N_drewN | apply Kd.N_drew)); exact HO_4.out⟩, ⟨by (with_reducible repeat (first | apply Kd.R_alloc | apply Kd.R_drewN | apply Kd.R_drew)); exact HO_6.out⟩, ⟨blk_x BK791.out⟩, ⟨by exact below_y HB.out⟩⟩
     case round =>
      clear H'
      obtain ⟨x8_2, x9_2, rfl, rfl, HA, HK2, HO_4, HO_6, BK791, HB⟩ := hrel
      cases gk with
      | zero => exact absurd HA.out (by simp [swarfref04_Out.l1])
      | succ k2 =>
       have H := HA.out
       clear HA
       simp only [swarfref04_Out.l1] at H
       by_cases c9 : x9_2 < (t792.length : Int)
       ·
        rw [if_pos c9] at H
        have c9b0 : decide (x9_2 < (t792.length : Int)) = true := decide_eq_true c9
        clear c9
        by_cases c10 : 0 ≤ x9_2
        ·
         rw [if_pos c10] at H
         have c10b0 : decide (0 ≤ x9_2) = true := decide_eq_true c10
         clear c10
         by_cases c11 : 0 ≤ x7_1
         ·
          rw [if_pos c11] at H
          have c11b0 : decide (0 ≤ x7_1) = true := decide_eq_true c11
          clear c11
          by_cases c12 : x7_1 < ((rd_L5 t792 x9_2).length : Int)
          ·
           rw [if_pos c12] at H
           have c12b0 : decide (x7_1 < ((rd_L5 t792 x9_2).length : Int)) = true := decide_eq_true c12
           clear c12
           obtain ⟨bq13, hbq13⟩ : ∃ b_ : Bool, b_ = (rdOf false (rd_L5 t792 x9_2) x7_1) := ⟨_, rfl⟩
           replace H : (if bq13 = true then (swarfref04_Out.l1 k2 t792 x6_1 x7_1 (wrap64 (x8_2 + 1)) (wrap64 (x9_2 + 1)) l0_0 a0_1 l0_2 a0_3 l0_4) else (swarfref04_Out.l1 k2 t792 x6_1 x7_1 x8_2 (wrap64 (x9_2 + 1)) l0_0 a0_1 l0_2 a0_3 l0_4)) = some (r1, r2) := by rw [← hbq13] at H; exact H
           have Nbq13 := Aside0.mk hbq13
           clear hbq13
           by_cases c14 : bq13 = true
           ·
            subst c14
            have H1 : (swarfref04_Out.l1 k2 t792 x6_1 x7_1 (wrap64 (x8_2 + 1)) (wrap64 (x9_2 + 1)) l0_0 a0_1 l0_2 a0_3 l0_4) = some (r1, r2) := by rw [if_pos rfl] at H; exact H
            clear H
            have H := H1
            clear H1
            have H' := Aside0.mk H
            clear H
            obtain ⟨Ao15, co15, eo15⟩ := Kd.N_slice HO_4.out
            subst eo15
            have p796 : 0 ≤ (x9_2 : Int) := of_x
            have q796 : x9_2 < (t792.length : Int) := of_x
            obtain ⟨ad796, A796_0, c796_0, e796, hx796_0, hl796_0, hi796_0⟩ := at_L5 (Kd.N_reads' HO_4.out).2.2 x9_2 p796 q796
            cases e796
            obtain ⟨ce796, hce796, hMe796, hcc796⟩ := Kd.N_get HO_4.out [] x9_2 p796 (by first | exact q796 | exact of_x | (have e_ := (Kd.N_reads' HO_4.out).1; omega))
            obtain ⟨ua796_0, uc796_0, rfl, ul796_0, ge796_0⟩ := Kd.FK_slice_open hMe796
            have hv796_0 := hcc796 0 _ rfl
            rw [Nat.add_zero, show ((Kd.slice 4 Kd.bool)).sz = 1 from rfl, Nat.mul_one] at hv796_0
            replace hv796_0 := Option.some.inj (hv796_0.symm.trans hx796_0)
            injection hv796_0 with hva_ hvn_ hvc_
            rw [hva_] at ge796_0
            rw [hvc_] at ul796_0
            have HL796_0 := Aside0.mk (show Kd.V Kd.bool 4 _ w.heap.size _ _ (rd_L5 t792 x9_2) from Kd.V_mk ul796_0 ge796_0)
            clear hva_ hvn_ hvc_ ge796_0 ul796_0 hcc796 hce796
            have HR796_0 := Aside0.mk hi796_0
            have HC796_0 := Aside0.mk hl796_0
            clear hi796_0 hl796_0
            replace p796 := eq_true p796
            replace q796 := eq_true q796
            have p797 : 0 ≤ (x7_1 : Int) := of_x
            have q797 : x7_1 < ((rd_L5 t792 x9_2).length : Int) := of_x
            obtain ⟨ad797, e797, hx797_0⟩ := Kd.at_bool (by repeat (first | (with_reducible exact HR796_0.out) | (with_reducible refine Kd.C_alloc ?_ _) | (with_reducible refine Kd.C_drewN ?_ _) | (with_reducible refine Kd.C_drew ?_) | exact HR796_0.out)) x7_1 p797 q797
            (try rw [← Nbq13.out] at hx797_0)
            cases e797
            replace p797 := eq_true p797
            replace q797 := eq_true q797
            go_wp2
            go_roundg k2
            case measure => have := HK1.out; have := HK2.out; omega
            case rel => exact ⟨(wrap64 (x8_2 + 1)), (wrap64 (x9_2 + 1)), (by first | rfl | (simp; done) | (simp [*]; done)), (by first | rfl | (simp; done) | (simp [*]; done)), H', ⟨by have := HK1.out; have := HK2.out; omega⟩, ⟨by (with_reducible repeat (first | apply Kd.N_alloc | apply Kd.N_drewN | apply Kd.N_drew)); exact HO_4.out⟩, ⟨by (with_reducible repeat (first | apply Kd.R_alloc | apply Kd.R_drewN | apply Kd.R_drew)); exact HO_6.out⟩, ⟨blk_x BK791.out⟩, ⟨by exact below_y HB.out⟩⟩
           ·
            replace c14 := Bool.eq_false_iff.mpr c14
            subst c14
            have H1 : (swarfref04_Out.l1 k2 t792 x6_1 x7_1 x8_2 (wrap64 (x9_2 + 1)) l0_0 a0_1 l0_2 a0_3 l0_4) = some (r1, r2) := by rw [if_neg (show ¬ (false = true) by decide)] at H; exact H
            clear H
            have H := H1
            clear H1
            have H' := Aside0.mk H
            clear H
            obtain ⟨Ao16, co16, eo16⟩ := Kd.N_slice HO_4.out
            subst eo16
            have p796 : 0 ≤ (x9_2 : Int) := of_x
            have q796 : x9_2 < (t792.length : Int) := of_x
            obtain ⟨ad796, A796_0, c796_0, e796, hx796_0, hl796_0, hi796_0⟩ := at_L5 (Kd.N_reads' HO_4.out).2.2 x9_2 p796 q796
            cases e796
            obtain ⟨ce796, hce796, hMe796, hcc796⟩ := Kd.N_get HO_4.out [] x9_2 p796 (by first | exact q796 | exact of_x | (have e_ := (Kd.N_reads' HO_4.out).1; omega))
            obtain ⟨ua796_0, uc796_0, rfl, ul796_0, ge796_0⟩ := Kd.FK_slice_open hMe796
            have hv796_0 := hcc796 0 _ rfl
            rw [Nat.add_zero, show ((Kd.slice 4 Kd.bool)).sz = 1 from rfl, Nat.mul_one] at hv796_0
            replace hv796_0 := Option.some.inj (hv796_0.symm.trans hx796_0)
            injection hv796_0 with hva_ hvn_ hvc_
            rw [hva_] at ge796_0
            rw [hvc_] at ul796_0
            have HL796_0 := Aside0.mk (show Kd.V Kd.bool 4 _ w.heap.size _ _ (rd_L5 t792 x9_2) from Kd.V_mk ul796_0 ge796_0)
            clear hva_ hvn_ hvc_ ge796_0 ul796_0 hcc796 hce796
            have HR796_0 := Aside0.mk hi796_0
            have HC796_0 := Aside0.mk hl796_0
            clear hi796_0 hl796_0
            replace p796 := eq_true p796
            replace q796 := eq_true q796
            have p797 : 0 ≤ (x7_1 : Int) := of_x
            have q797 : x7_1 < ((rd_L5 t792 x9_2).length : Int) := of_x
            obtain ⟨ad797, e797, hx797_0⟩ := Kd.at_bool (by repeat (first | (with_reducible exact HR796_0.out) | (with_reducible refine Kd.C_alloc ?_ _) | (with_reducible refine Kd.C_drewN ?_ _) | (with_reducible refine Kd.C_drew ?_) | exact HR796_0.out)) x7_1 p797 q797
            (try rw [← Nbq13.out] at hx797_0)
            cases e797
            replace p797 := eq_true p797
            replace q797 := eq_true q797
            go_wp2
            go_roundg k2
            case measure => have := HK1.out; have := HK2.out; omega
            case rel => exact ⟨(x8_2), (wrap64 (x9_2 + 1)), (by first | rfl | (simp; done) | (simp [*]; done)), (by first | rfl | (simp; done) | (simp [*]; done)), H', ⟨by have := HK1.out; have := HK2.out; omega⟩, ⟨by (with_reducible repeat (first | apply Kd.N_alloc | apply Kd.N_drewN | apply Kd.N_drew)); exact HO_4.out⟩, ⟨by (with_reducible repeat (first | apply Kd.R_alloc | apply Kd.R_drewN | apply Kd.R_drew)); exact HO_6.out⟩, ⟨blk_x BK791.out⟩, ⟨by exact below_y HB.out⟩⟩
          ·
           rw [if_neg c12] at H
           exact absurd H (by simp)
         ·
          rw [if_neg c11] at H
          exact absurd H (by simp)
        ·
         rw [if_neg c10] at H
         exact absurd H (by simp)
       ·
        rw [if_neg c9] at H
        have c9b0 : decide (x9_2 < (t792.length : Int)) = false := decide_eq_false c9
        clear c9
        replace H := Option.bind_eq_some_iff.mp H
        obtain ⟨t798, A170, H⟩ := H
        try dsimp only at H
        have A17 := Aside0.mk A170
        clear A170
        by_cases c18 : x6_1.length < 17592186044416
        ·
         rw [if_pos c18] at H
         have LMc18 := Aside0.mk c18
         clear c18
         obtain ⟨y799, hy799⟩ : ∃ y_ : List Int, y_ = (x6_1 ++ [t798]) := ⟨_, rfl⟩
         replace H : (swarfref04_Out.l0 k2 t792 y799 (wrap64 (x7_1 + 1)) l0_0 a0_1 l0_2 a0_3 l0_4) = some (r1, r2) := by first | (rw [hy799]; with_reducible exact H) | (have H2_ := (Option.bind_some _ _).symm.trans H; rw [hy799]; with_reducible exact H2_) | (have H2_ := (Option.bind_some _ _).symm.trans H; with_reducible exact H2_) | with_reducible exact H | (rw [hy799]; exact H) | exact H
         have Ny799 := Aside0.mk hy799
         clear hy799
         have H' := Aside0.mk H
         clear H
         obtain ⟨Ao19, co19, eo19⟩ := Kd.N_slice HO_4.out
         subst eo19
         go_wp2_with (first | ((with_reducible refine gate_callee (f := 69) rfl ?_); refine goesL_ (some 44) rfl rfl Try.func69 (by kernel_rfl) rfl #[.int .i64 x8_2, .int .i64 (t792.length : Int)] rfl (by (try simp only [List.map_toArray, List.map_cons, List.map_nil]); first | done | rfl | (simp only [List.length_drop, List.length_take]; rfl)) ?_; (with_reducible refine (swarfref04_verdict.calls x8_2 (t792.length : Int) t798 _ A17.out).mono ?_); rintro e w' ⟨rfl, ⟨nd, rfl⟩⟩; refine ⟨_, rfl, ?_⟩) | ((with_reducible refine gate_builtin (b := .append) (xs := #[.tmp 40, .tmp 45]) rfl ?_); at_builtin; refine Kd.R_append (Kd.int .i64) (w0 := w) w.heap.size rfl (.tmp 40) (.tmp 45) 24 3 (.int .i64 0) 8 rfl Try.underlying24 info3 rfl (by decide) (by omega) u6 x6_1 t798 [.int .i64 t798] (fun _ => True) (fun _ => False) rfl rfl ?aP (fun _ hk => hk.elim) ?aF ?aO ?aB ?aS ?aL ?_; (case aP => exact rfl); (case aB => exact (by exact below_y HB.out)); (case aF => exact (fun _ _ => trivial)); (case aO => exact (Kd.R_x HO_6.out)); (case aS => exact (below_size (by exact below_y HB.out))); (case aL => have := LMc18.out; omega); intro v800 w20 ho hb hg hat; rw [← Ny799.out] at ho; replace HO_4 := Aside0.mk (Kd.N_afterv (ok := (fun k_ => k_ ≠ gb791)) (by (with_reducible repeat (first | apply Kd.N_alloc | apply Kd.N_drewN | apply Kd.N_drew)); exact Kd.N_mono HO_4.out (fun _ hk => ⟨hk.2, hk.1⟩)) hg hat); replace BK791 := Aside0.mk (blk_grown (blk_x BK791.out) hg (Kd.R_ne HO_6.out BK791.out (by decide))); replace HB := Aside0.mk (hb); have HO801 := Aside0.mk (ho); clear HO_6; clear ho hb hg hat))
         go_roundg k2
         case measure => have := HK1.out; have := HK2.out; omega
         case rel => exact ⟨(y799), (wrap64 (x7_1 + 1)), (by first | rfl | (simp; done) | (simp [*]; done)), H', ⟨by have := HK1.out; have := HK2.out; omega⟩, ⟨by (with_reducible repeat (first | apply Kd.N_alloc | apply Kd.N_drewN | apply Kd.N_drew)); exact Kd.N_mono HO_4.out (fun _ hk => ⟨hk.2, hk.1⟩)⟩, ⟨by (with_reducible repeat (first | apply Kd.R_alloc | apply Kd.R_drewN | apply Kd.R_drew)); exact HO801.out⟩, ⟨blk_x BK791.out⟩, ⟨by exact below_y HB.out⟩⟩
        ·
         rw [if_neg c18] at H
         exact absurd H (by simp)
    ·
     rw [if_neg c7] at H
     have c7b0 : decide (x7_1 < (l0_0.length : Int)) = false := decide_eq_false c7
     clear c7
     simp only [Option.some.injEq, Prod.mk.injEq] at H
     obtain ⟨rfl, rfl⟩ := H
     obtain ⟨_, _, _, _, _⟩ := cz5 BK791
     have hfz21_0 := blk_frozen BK791.out
     go_wp2
     go_ret2
     exact ⟨_, by first | rfl | (simp [errW_none, errW_some] <;> rfl) | (simp [*, errW_none, errW_some] <;> rfl), by (with_reducible repeat (first | apply Kd.R_alloc | apply Kd.R_drewN | apply Kd.R_drew)); exact HO_6.out, by exact below_y HB.out⟩
 ·
  rw [if_neg c3] at H
  have c3b0 : (t795 == 0) = false := beq_eq_false_iff_ne.mpr c3
  have c3b1 : (t795 != 0) = true := bne_iff_ne.mpr c3
  simp only [Option.some.injEq, Prod.mk.injEq] at H
  obtain ⟨rfl, rfl⟩ := H
  go_enter Try.func36, Try.ntmps36
  go_wp2_with (first | ((with_reducible refine gate_dst (N := 1) rfl ?_); refine box_event ?hg (N := 1) ?hd (cs := #[.slice A0_0 l0_0.length c0_0, .int .i64 a0_1, .slice A0_2 l0_2.length c0_2, .int .i64 a0_3, .slice A0_4 l0_4.length c0_4]) (t := 26) ?hr ?_; (case hd => rfl); (case hg => rfl); (case hr => first | (go_simp; done) | (go_simp; rfl)); intro gb791 hg w22 hbox hb; have BK791 := Aside0.mk (hbox); have GW791 := Aside0.mk ((by rw [hg]; exact (below_size (below_x HB.out)) : w.heap.size ≤ gb791)); have GE791 := Aside0.mk ((by rw [hg]; exact (below_size (below_x HB.out)) : w.heap.size ≤ gb791)); replace HB := Aside0.mk (below_step (below_x HB.out) hb); clear hb hbox hg; obtain ⟨_, _, _, _, _⟩ := cz5 BK791; have hfz23_0 := blk_frozen BK791.out) | ((with_reducible refine gate_callee (f := 68) rfl ?_); refine goesL_ (some 12) rfl rfl Try.func68 (by kernel_rfl) rfl #[.agg #[.slice A0_0 l0_0.length c0_0, .int .i64 a0_1, .slice A0_2 l0_2.length c0_2, .int .i64 a0_3, .slice A0_4 l0_4.length c0_4]] rfl (by (try simp only [List.map_toArray, List.map_cons, List.map_nil]); first | done | rfl | (simp only [List.length_drop, List.length_take]; rfl)) ?_; (with_reducible refine (swarfref04_known.calls k _ _ l0_0 a0_1 _ _ l0_2 a0_3 _ _ l0_4 t792 t795 _ ?side1 ?side2 ?side3 ?side4 ?side5 ?side6 A2.out).mono ?_); (case side1 => exact Kd.C_x HR0_0.out HB.out); (case side2 => exact HC0_0.out); (case side3 => exact Kd.C_x HR0_2.out HB.out); (case side4 => exact HC0_2.out); (case side5 => exact Kd.C_x HR0_4.out HB.out); (case side6 => exact HC0_4.out); rintro e w24 ⟨v793, rfl, ho0, hb⟩; refine ⟨_, rfl, ?_⟩; have HO794 := Aside0.mk (Kd.N_lower (Kd.N_mono (ok' := fun k_ => k_ ≠ gb791) ho0 (fun k_ hk_ => (Kd.freshB (g := gb791) (o := .cells #[.slice A0_0 l0_0.length c0_0, .int .i64 a0_1, .slice A0_2 l0_2.length c0_2, .int .i64 a0_3, .slice A0_4 l0_4.length c0_4] 26 (0, 0)) (blk_x BK791.out) k_ hk_))) (below_size (by exact below_y HB.out))); replace BK791 := Aside0.mk (blk_below (blk_x BK791.out) hb); replace HB := bl_x HB hb; (try clear hb); (try clear hk); (try clear hi); (try clear ho0)))
  go_ret2
  exact ⟨_, by first | rfl | (simp [errW_none, errW_some] <;> rfl) | (simp [*, errW_none, errW_some] <;> rfl), by first | exact Kd.R_nil _ _ _ _ _ | exact Kd.N_nil _ _ _ _ _ | exact Kd.V_nil _ _ _ _ _ | exact Kd.Q_nil _ _ _ _ _ | exact Kd.S_nil _ _ _ _ _, by exact below_y HB.out⟩
def swarfref04_Work.l0 : Nat → List (List Int) → List Int → Int → List (S50) → Int → List (S61) → Int → List Int → Option (List Int × Int × Int)
 | 0, _, _, _, _, _, _, _, _ => none
 | k + 1, x7, x8, x9, x803000, x803001, x803002, x803003, x803004 => if x9 < (x7.length : Int) then (if 0 ≤ x9 then ((swarfref04_Time.f k x803000 x803001 x803002 x803003 x803004 (rd_L1 x7 x9)).bind fun t816 => ((swarfref04_Time.f k x803000 x803001 x803002 x803003 x803004 x8).bind fun t817 => (if t816 < t817 then (swarfref04_Work.l0 k x7 (rd_L1 x7 x9) (wrap64 (x9 + 1)) x803000 x803001 x803002 x803003 x803004) else (swarfref04_Work.l0 k x7 x8 (wrap64 (x9 + 1)) x803000 x803001 x803002 x803003 x803004)))) else (none)) else ((swarfref04_Time.f k x803000 x803001 x803002 x803003 x803004 x8).bind fun t814 => (some (x8, t814, 0)))
def swarfref04_Work.f (k : Nat) (l0_0 : List (S50)) (a0_1 : Int) (l0_2 : List (S61)) (a0_3 : Int) (l0_4 : List Int) : Option (List Int × Int × Int) := (swarfref04_Out.f k l0_0 a0_1 l0_2 a0_3 l0_4).bind fun bt803 => (if bt803.2 = 0 then ((swarfref04_ToDo.f k l0_0 a0_1 l0_2 a0_3 l0_4 bt803.1).bind fun t807 => ((swarfref04_Orders.f k l0_0 a0_1 l0_2 a0_3 l0_4 t807 ([] : List Int)).bind fun t810 => (if 0 < (t810.length : Int) then (swarfref04_Work.l0 k t810 (rd_L1 t810 0) 0 l0_0 a0_1 l0_2 a0_3 l0_4) else (none)))) else (some (([] : List Int), 0, bt803.2)))
theorem swarfref04_Work.mono_l : ∀ k, (∀ y0 y1 y2 y3 y4 y5 y6 y7, LeO (swarfref04_Work.l0 k y0 y1 y2 y3 y4 y5 y6 y7) (swarfref04_Work.l0 (k + 1) y0 y1 y2 y3 y4 y5 y6 y7))
 | 0 => fun _ _ _ _ _ _ _ _ r h => by simp [swarfref04_Work.l0] at h
 | k + 1 => by
  have ih0 := swarfref04_Work.mono_l k
  ·
   intro y0 y1 y2 y3 y4 y5 y6 y7
   unfold swarfref04_Work.l0
   repeat' first
   | (with_reducible exact ih0 _ _ _ _ _ _ _ _)
   | (with_reducible exact swarfref04_Orders.mono _ _ _ _ _ _ _ _)
   | (with_reducible exact swarfref04_Out.mono _ _ _ _ _ _)
   | (with_reducible exact swarfref04_Time.mono _ _ _ _ _ _ _)
   | (with_reducible exact swarfref04_ToDo.mono _ _ _ _ _ _ _)
   | (with_reducible exact LeO.refl _)
   | (with_reducible exact LeO.none _)
   | (with_reducible refine LeO.ite ?_ ?_)
   | (with_reducible refine LeO.bind ?_ (fun _ => ?_))
   | exact ih0 _ _ _ _ _ _ _ _
   | exact swarfref04_Orders.mono _ _ _ _ _ _ _ _
   | exact swarfref04_Out.mono _ _ _ _ _ _
   | exact swarfref04_Time.mono _ _ _ _ _ _ _
   | exact swarfref04_ToDo.mono _ _ _ _ _ _ _
   | exact LeO.none _
   | refine LeO.ite ?_ ?_
   | refine LeO.bind ?_ (fun _ => ?_)
theorem swarfref04_Work.mono : ∀ a0 a1 a2 a3 a4 k, LeO (swarfref04_Work.f k a0 a1 a2 a3 a4) (swarfref04_Work.f (k + 1) a0 a1 a2 a3 a4) := by
 intro a0 a1 a2 a3 a4 k
 have ih0 := swarfref04_Work.mono_l k
 unfold swarfref04_Work.f
 repeat' first
   | (with_reducible exact ih0 _ _ _ _ _ _ _ _)
   | (with_reducible exact swarfref04_Orders.mono _ _ _ _ _ _ _ _)
   | (with_reducible exact swarfref04_Out.mono _ _ _ _ _ _)
   | (with_reducible exact swarfref04_Time.mono _ _ _ _ _ _ _)
   | (with_reducible exact swarfref04_ToDo.mono _ _ _ _ _ _ _)
   | (with_reducible exact LeO.refl _)
   | (with_reducible exact LeO.none _)
   | (with_reducible refine LeO.ite ?_ ?_)
   | (with_reducible refine LeO.bind ?_ (fun _ => ?_))
   | exact ih0 _ _ _ _ _ _ _ _
   | exact swarfref04_Orders.mono _ _ _ _ _ _ _ _
   | exact swarfref04_Out.mono _ _ _ _ _ _
   | exact swarfref04_Time.mono _ _ _ _ _ _ _
   | exact swarfref04_ToDo.mono _ _ _ _ _ _ _
   | exact LeO.none _
   | refine LeO.ite ?_ ?_
   | refine LeO.bind ?_ (fun _ => ?_)
def swarfref04_Work.T9 : Bool × List (List Nat × List Nat) := (true, [([], []), ([], []), ([], []), ([1, 2], [1, 2]), ([3], [3]), ([0, 4], [0, 4]), ([], []), ([], []), ([6, 7, 5], [6, 7]), ([5, 8], [5, 8])])
def swarfref04_Work.B9 : List Nat := [0, 0, 0, 6, 14, 31, 0, 0, 255, 511]
theorem swarfref04_Work.tab9 : rtab .any (opsOf Try.f21 9) = swarfref04_Work.T9 := by kernel_rfl
theorem swarfref04_Work.bits9 : waitsOk swarfref04_Work.T9.2 swarfref04_Work.B9 = true := by kernel_rfl
set_option maxHeartbeats 8000000 in
set_option maxRecDepth 100000 in
theorem swarfref04_Work.calls (k : Nat) (A0_0 : Option Addr) (c0_0 : Nat) (l0_0 : List (S50)) (a0_1 : Int) (A0_2 : Option Addr) (c0_2 : Nat) (l0_2 : List (S61)) (a0_3 : Int) (A0_4 : Option Addr) (c0_4 : Nat) (l0_4 : List Int) (r1 : List Int) (r2 : Int) (r3 : Int) (w : World) (hr0_0 : Kd.C k50 w A0_0 l0_0.length l0_0) (hc0_0 : l0_0.length ≤ c0_0) (hr0_2 : Kd.C k61 w A0_2 l0_2.length l0_2) (hc0_2 : l0_2.length ≤ c0_2) (hr0_4 : Kd.C (Kd.int .i64) w A0_4 l0_4.length l0_4) (hc0_4 : l0_4.length ≤ c0_4) (h : swarfref04_Work.f k l0_0 a0_1 l0_2 a0_3 l0_4 = some (r1, r2, r3)) :
  Calls Try.prog 21 #[.agg #[.slice A0_0 l0_0.length c0_0, .int .i64 a0_1, .slice A0_2 l0_2.length c0_2, .int .i64 a0_3, .slice A0_4 l0_4.length c0_4]] w fun e w' => ∃ v0_ : Value, e = .returned (.tuple #[v0_, .int .i64 r2, .int .i64 r3]) ∧ Kd.V (Kd.int .i64) 3 w' w.heap.size (fun k_ => (w.heap.size ≤ k_)) v0_ r1 ∧ Below w.heap.size w w' := by
 have hu26 := Try.underlying26
 have HR0_0 := Aside0.mk hr0_0
 have HC0_0 := Aside0.mk hc0_0
 clear hr0_0 hc0_0
 have HR0_2 := Aside0.mk hr0_2
 have HC0_2 := Aside0.mk hc0_2
 clear hr0_2 hc0_2
 have HR0_4 := Aside0.mk hr0_4
 have HC0_4 := Aside0.mk hc0_4
 clear hr0_4 hc0_4
 have HB := Aside0.mk (Below.refl w.heap.size w)
 have H : ((swarfref04_Out.f k l0_0 a0_1 l0_2 a0_3 l0_4).bind fun bt803 => (if bt803.2 = 0 then ((swarfref04_ToDo.f k l0_0 a0_1 l0_2 a0_3 l0_4 bt803.1).bind fun t807 => ((swarfref04_Orders.f k l0_0 a0_1 l0_2 a0_3 l0_4 t807 ([] : List Int)).bind fun t810 => (if 0 < (t810.length : Int) then (swarfref04_Work.l0 k t810 (rd_L1 t810 0) 0 l0_0 a0_1 l0_2 a0_3 l0_4) else (none)))) else (some (([] : List Int), 0, bt803.2)))) = some (r1, r2, r3) := h
 clear h
 replace H := Option.bind_eq_some_iff.mp H
 obtain ⟨⟨t803, t806⟩, A20, H⟩ := H
 try dsimp only at H
 have A2 := Aside0.mk A20
 clear A20
 by_cases c3 : t806 = 0
 ·
  rw [if_pos c3] at H
  have c3b0 : (t806 == 0) = true := beq_iff_eq.mpr c3
  have c3b1 : (t806 != 0) = false := bne_eq_false_iff_eq.mpr c3
  clear c3
  replace H := Option.bind_eq_some_iff.mp H
  obtain ⟨t807, A40, H⟩ := H
  try dsimp only at H
  have A4 := Aside0.mk A40
  clear A40
  replace H := Option.bind_eq_some_iff.mp H
  obtain ⟨t810, A50, H⟩ := H
  try dsimp only at H
  have A5 := Aside0.mk A50
  clear A50
  by_cases c6 : 0 < (t810.length : Int)
  ·
   rw [if_pos c6] at H
   have c6b0 : decide (0 < (t810.length : Int)) = true := decide_eq_true c6
   have c6b1 : decide (0 < t810.length) = true := decide_eq_true (by omega)
   clear c6
   have H' := Aside0.mk H
   clear H
   go_enter Try.func21, Try.ntmps21
   try go_wp2_with (first | ((with_reducible refine gate_dst (N := 1) rfl ?_); refine box_event ?hg (N := 1) ?hd (cs := #[.slice A0_0 l0_0.length c0_0, .int .i64 a0_1, .slice A0_2 l0_2.length c0_2, .int .i64 a0_3, .slice A0_4 l0_4.length c0_4]) (t := 26) ?hr ?_; (case hd => rfl); (case hg => rfl); (case hr => first | (go_simp; done) | (go_simp; rfl)); intro gb802 hg w7 hbox hb; have BK802 := Aside0.mk (hbox); have GW802 := Aside0.mk ((by rw [hg]; exact (below_size (below_x HB.out)) : w.heap.size ≤ gb802)); have GE802 := Aside0.mk ((by rw [hg]; exact (below_size (below_x HB.out)) : w.heap.size ≤ gb802)); replace HB := Aside0.mk (below_step (below_x HB.out) hb); clear hb hbox hg; obtain ⟨_, _, _, _, _⟩ := cz5 BK802; have hfz8_0 := blk_frozen BK802.out) | ((with_reducible refine gate_callee (f := 36) rfl ?_); refine goesL_ (some 12) rfl rfl Try.func36 (by kernel_rfl) rfl #[.agg #[.slice A0_0 l0_0.length c0_0, .int .i64 a0_1, .slice A0_2 l0_2.length c0_2, .int .i64 a0_3, .slice A0_4 l0_4.length c0_4]] rfl (by (try simp only [List.map_toArray, List.map_cons, List.map_nil]); first | done | rfl | (simp only [List.length_drop, List.length_take]; rfl)) ?_; (with_reducible refine (swarfref04_Out.calls k _ _ l0_0 a0_1 _ _ l0_2 a0_3 _ _ l0_4 t803 t806 _ ?side1 ?side2 ?side3 ?side4 ?side5 ?side6 A2.out).mono ?_); (case side1 => exact Kd.C_x HR0_0.out HB.out); (case side2 => exact HC0_0.out); (case side3 => exact Kd.C_x HR0_2.out HB.out); (case side4 => exact HC0_2.out); (case side5 => exact Kd.C_x HR0_4.out HB.out); (case side6 => exact HC0_4.out); rintro e w9 ⟨v804, rfl, ho0, hb⟩; refine ⟨_, rfl, ?_⟩; have HO805 := Aside0.mk (Kd.R_lower (Kd.R_newM (M := fun k_ => (w.heap.size ≤ k_)) ho0 (below_size (by exact below_y HB.out)) (fun k_ h_ => h_)) (below_size (by exact below_y HB.out))); replace BK802 := Aside0.mk (blk_below (blk_x BK802.out) hb); replace HB := bl_x HB hb; (try clear hb); (try clear hk); (try clear hi); (try clear ho0)))
   replace HO805 := Aside0.mk (Kd.R_drew HO805.out)
   replace BK802 := Aside0.mk (blk_drew BK802.out)
   replace HB := Aside0.mk (below_drew1 HB.out)
   obtain ⟨Ao11, co11, eo11⟩ := Kd.R_slice HO805.out
   (first | subst eo11 | (injection eo11 with f1_ f2_ f3_; have f4_ := f1_.symm; have f5_ := f3_.symm; clear f1_ f2_ f3_; subst f4_; subst f5_))
   refine start_ (n := 6) (S := fun w' => w'.cell? ⟨gb802, 0, none⟩ = some (.slice A0_0 l0_0.length c0_0) ∧ w'.cell? ⟨gb802, 1, none⟩ = some (.int .i64 a0_1) ∧ w'.cell? ⟨gb802, 2, none⟩ = some (.slice A0_2 l0_2.length c0_2) ∧ w'.cell? ⟨gb802, 3, none⟩ = some (.int .i64 a0_3) ∧ w'.cell? ⟨gb802, 4, none⟩ = some (.slice A0_4 l0_4.length c0_4)) (ds := []) #[false, false, false, false, false, false] (by kernel_rfl) rfl rfl ⟨(blk_cell BK802.out 0).trans rfl, (blk_cell BK802.out 1).trans rfl, (blk_cell BK802.out 2).trans rfl, (blk_cell BK802.out 3).trans rfl, (blk_cell BK802.out 4).trans rfl⟩ (fun hHeld => ?_)
   generalize w9.drew = w10 at HO805 BK802 HB hHeld ⊢
   refine pure_ (i := 2) (N := some 20) (v := ?_) (a' := ?_) #[false, false, true, false, false, false] rfl rfl (by kernel_rfl) (fun _ _ _ h => h) (Or.inl ⟨by rfl, ?_⟩) ?_ ?_
   rotate_left
   ·
    intro w'
    go_simp
    with_reducible rfl
   rotate_left
   ·
    simp only [Act.put, put_x, i64_w, i32_w]
    rfl
   refine take_ (i := 0) (N := some 18) (v := ?_) (a' := ?_) #[true, false, true, false, false, false] rfl rfl (by kernel_rfl) (fun _ _ _ h => h) (Or.inl ⟨by rfl, ?_⟩) hHeld ?_ ?_
   rotate_left
   ·
    rintro w' ⟨s0, s1, s2, s3, s4⟩
    go_simp
    with_reducible rfl
   rotate_left
   ·
    simp only [Act.put, put_x, i64_w, i32_w]
    rfl
   refine take_ (i := 1) (N := some 19) (v := ?_) (a' := ?_) #[true, true, true, false, false, false] rfl rfl (by kernel_rfl) (fun _ _ _ h => h) (Or.inl ⟨by rfl, ?_⟩) hHeld ?_ ?_
   rotate_left
   ·
    rintro w' ⟨s0, s1, s2, s3, s4⟩
    go_simp
    with_reducible rfl
   rotate_left
   ·
    simp only [Act.put, put_x, i64_w, i32_w]
    rfl
   refine one_ (i := 3) (N := some 21) #[true, true, true, true, false, false] rfl rfl (by kernel_rfl) (by decide) (fun K hK => ?_)
   refine goes_ Try.func34 (by kernel_rfl) rfl #[.agg #[.slice A0_0 l0_0.length c0_0, .int .i64 a0_1, .slice A0_2 l0_2.length c0_2, .int .i64 a0_3, .slice A0_4 l0_4.length c0_4], .slice Ao11 t803.length co11] (by rfl) rfl rfl (by (try simp only [List.map_toArray, List.map_cons, List.map_nil]); first | done | rfl | (simp only [List.length_drop, List.length_take]; rfl)) ?_
   with_reducible refine (swarfref04_ToDo.calls k _ _ l0_0 a0_1 _ _ l0_2 a0_3 _ _ l0_4 _ _ t803 t807 _ ?side1 ?side2 ?side3 ?side4 ?side5 ?side6 ?side7 ?side8 A4.out).mono ?_
   (case side1 => exact Kd.C_x HR0_0.out HB.out)
   (case side2 => exact HC0_0.out)
   (case side3 => exact Kd.C_x HR0_2.out HB.out)
   (case side4 => exact HC0_2.out)
   (case side5 => exact Kd.C_x HR0_4.out HB.out)
   (case side6 => exact HC0_4.out)
   (case side7 => exact Kd.C_y (Kd.R_reads' HO805.out).2.2)
   (case side8 => exact (Kd.R_reads' HO805.out).2.1)
   rintro e w12 ⟨v808, rfl, ho0, hb⟩
   refine ⟨_, rfl, ?_⟩
   replace HO805 := Aside0.mk (Kd.R_below (Kd.R_x HO805.out) hb)
   have HO809 := Aside0.mk (Kd.R_lower (Kd.R_newM (M := fun k_ => (w.heap.size ≤ k_)) ho0 (below_size (by exact below_y HB.out)) (fun k_ h_ => h_)) (below_size (by exact below_y HB.out)))
   replace BK802 := Aside0.mk (blk_below (blk_x BK802.out) hb)
   replace HB := bl_x HB hb
   (try clear hb)
   (try clear hb2)
   (try clear hk)
   (try clear hi)
   (try clear ho0)
   obtain ⟨Ao13, co13, eo13⟩ := Kd.R_slice HO809.out
   (first | subst eo13 | (injection eo13 with f1_ f2_ f3_; have f4_ := f1_.symm; have f5_ := f3_.symm; clear f1_ f2_ f3_; subst f4_; subst f5_))
   refine hK.out _ _ ⟨(blk_cell BK802.out 0).trans rfl, (blk_cell BK802.out 1).trans rfl, (blk_cell BK802.out 2).trans rfl, (blk_cell BK802.out 3).trans rfl, (blk_cell BK802.out 4).trans rfl⟩ (fun hHeld => ?_)
   clear hK K
   refine norm_ (a' := ?_) ?_ ?_
   rotate_left
   ·
    show Act.put _ (some 21) _ = _
    simp only [Act.put, put_x, i64_w, i32_w]
    rfl
   refine one_ (i := 4) (N := some 22) #[true, true, true, true, true, false] rfl rfl (by kernel_rfl) (by decide) (fun K hK => ?_)
   refine goes_ Try.func33 (by kernel_rfl) rfl #[.agg #[.slice A0_0 l0_0.length c0_0, .int .i64 a0_1, .slice A0_2 l0_2.length c0_2, .int .i64 a0_3, .slice A0_4 l0_4.length c0_4], .slice Ao13 t807.length co13, .slice none 0 0] (by rfl) rfl rfl (by (try simp only [List.map_toArray, List.map_cons, List.map_nil]); first | done | rfl | (simp only [List.length_drop, List.length_take]; rfl)) ?_
   refine (swarfref04_Orders.calls k _ _ l0_0 a0_1 _ _ l0_2 a0_3 _ _ l0_4 _ _ t807 (fun k_ => False) _ _ ([] : List Int) t810 _ ?side1 ?side2 ?side3 ?side4 ?side5 ?side6 ?side7 ?side8 ?side9 A5.out).mono ?_
   (case side1 => exact Kd.C_x HR0_0.out HB.out)
   (case side2 => exact HC0_0.out)
   (case side3 => exact Kd.C_x HR0_2.out HB.out)
   (case side4 => exact HC0_2.out)
   (case side5 => exact Kd.C_x HR0_4.out HB.out)
   (case side6 => exact HC0_4.out)
   (case side7 => exact Kd.C_y (Kd.R_reads' HO809.out).2.2)
   (case side8 => exact (Kd.R_reads' HO809.out).2.1)
   (case side9 => exact Kd.V_nil _ _ _ _ _)
   rintro e w14 ⟨v811, rfl, ho0, hb⟩
   refine ⟨_, rfl, ?_⟩
   have HO812 := Aside0.mk (Kd.N_lower (Kd.N_mono (ok' := fun k_ => (w.heap.size ≤ k_) ∧ some k_ ≠ (.slice Ao11 t803.length co11 : Value).ownBlock ∧ some k_ ≠ (.slice Ao13 t807.length co13 : Value).ownBlock ∧ k_ ≠ gb802) ho0 (fun k_ hk_ => ⟨Or.elim hk_ (fun hs_ => (hs_).elim) (fun hn_ => (Nat.le_trans (below_size (by exact below_y HB.out)) hn_)), Or.elim hk_ (fun hs_ => (hs_).elim) (fun hn_ => (Kd.fresh' (Kd.R_lt (Kd.R_x HO805.out)) k_ hn_)), Or.elim hk_ (fun hs_ => (hs_).elim) (fun hn_ => (Kd.fresh' (Kd.R_lt (Kd.R_x HO809.out)) k_ hn_)), Or.elim hk_ (fun hs_ => (hs_).elim) (fun hn_ => (Kd.freshB (g := gb802) (o := .cells #[.slice A0_0 l0_0.length c0_0, .int .i64 a0_1, .slice A0_2 l0_2.length c0_2, .int .i64 a0_3, .slice A0_4 l0_4.length c0_4] 26 (0, 0)) (blk_x BK802.out) k_ hn_))⟩)) (below_size (by exact below_y HB.out)))
   replace HO805 := Aside0.mk (Kd.R_below (Kd.R_x HO805.out) hb)
   replace HO809 := Aside0.mk (Kd.R_below (Kd.R_x HO809.out) hb)
   replace BK802 := Aside0.mk (blk_below (blk_x BK802.out) hb)
   replace HB := bl_x HB hb
   (try clear hb)
   (try clear hb2)
   (try clear hk)
   (try clear hi)
   (try clear ho0)
   refine hK.out _ _ ⟨(blk_cell BK802.out 0).trans rfl, (blk_cell BK802.out 1).trans rfl, (blk_cell BK802.out 2).trans rfl, (blk_cell BK802.out 3).trans rfl, (blk_cell BK802.out 4).trans rfl⟩ (fun hHeld => ?_)
   clear hK K
   refine norm_ (a' := ?_) ?_ ?_
   rotate_left
   ·
    show Act.put _ (some 22) _ = _
    simp only [Act.put, put_x, i64_w, i32_w]
    rfl
   refine pure_ (i := 5) (N := some 7) (v := ?_) (a' := ?_) #[true, true, true, true, true, true] rfl rfl (by kernel_rfl) (fun _ _ _ h => h) (Or.inl ⟨by rfl, ?_⟩) ?_ ?_
   rotate_left
   ·
    intro w'
    go_simp
    with_reducible rfl
   rotate_left
   ·
    simp only [Act.put, put_x, i64_w, i32_w]
    rfl
   refine done_ (by kernel_rfl) ?_
   obtain ⟨Ao15, co15, eo15⟩ := Kd.N_slice HO812.out
   subst eo15
   have p813 : 0 ≤ (0 : Int) := (by omega)
   have q813 : 0 < (t810.length : Int) := of_x
   obtain ⟨ad813, A813_0, c813_0, e813, hx813_0, hl813_0, hi813_0⟩ := at_L1 (Kd.N_reads' HO812.out).2.2 0 p813 q813
   cases e813
   obtain ⟨ce813, hce813, hMe813, hcc813⟩ := Kd.N_get HO812.out [] 0 p813 (by first | exact q813 | exact of_x | (have e_ := (Kd.N_reads' HO812.out).1; omega))
   obtain ⟨ua813_0, uc813_0, rfl, ul813_0, ge813_0⟩ := Kd.FK_slice_open hMe813
   have hv813_0 := hcc813 0 _ rfl
   rw [Nat.add_zero, show ((Kd.slice 3 (Kd.int .i64))).sz = 1 from rfl, Nat.mul_one] at hv813_0
   replace hv813_0 := Option.some.inj (hv813_0.symm.trans hx813_0)
   injection hv813_0 with hva_ hvn_ hvc_
   rw [hva_] at ge813_0
   rw [hvc_] at ul813_0
   have HL813_0 := Aside0.mk (show Kd.V (Kd.int .i64) 3 _ w.heap.size _ _ (rd_L1 t810 0) from Kd.V_mk ul813_0 ge813_0)
   clear hva_ hvn_ hvc_ ge813_0 ul813_0 hcc813 hce813
   have qi813 : (0 < t810.length) = True := eq_true (by omega)
   (try rw [show ((0 : Int)).toNat = 0 from rfl] at hx813_0)
   (try rw [Addr.add_zero'] at hx813_0)
   have HR813_0 := Aside0.mk hi813_0
   have HC813_0 := Aside0.mk hl813_0
   clear hi813_0 hl813_0
   replace p813 := eq_true p813
   replace q813 := eq_true q813
   try go_wp2
   go_loopg [8, 9] k (fun kq v8 v9 w' => ∃ (x8_1 : List Int) (x9_1 : Int), v9 = .int .i64 x9_1 ∧ Aside0 (swarfref04_Work.l0 kq t810 x8_1 x9_1 l0_0 a0_1 l0_2 a0_3 l0_4 = some (r1, r2, r3)) ∧ Aside0 (kq ≤ k) ∧ Aside0 (Kd.N (Kd.slice 3 (Kd.int .i64)) 24 w' w.heap.size (fun k_ => (w.heap.size ≤ k_) ∧ k_ ≠ gb802) (.slice (some ad813) t810.length co15) t810) ∧ Aside0 (Kd.V (Kd.int .i64) 3 w' w.heap.size (fun k_ => (w.heap.size ≤ k_) ∧ some k_ ≠ ((.slice (some ad813) t810.length co15) : Value).ownBlock ∧ k_ ≠ gb802) v8 x8_1) ∧ Aside0 (w'.heap[gb802]? = some (.cells #[(.slice A0_0 l0_0.length c0_0), .int .i64 a0_1, (.slice A0_2 l0_2.length c0_2), .int .i64 a0_3, (.slice A0_4 l0_4.length c0_4)] 26 (0, 0))) ∧ Aside0 (Kd.C (Kd.int .i64) w' A813_0 (rd_L1 t810 0).length (rd_L1 t810 0)) ∧ Aside0 (Below w.heap.size w w'))
   case atStart => exact ⟨(rd_L1 t810 0), (0), (by first | rfl | (simp; done) | (simp [*]; done)), H', ⟨Nat.le_refl _⟩, ⟨by (with_reducible repeat (first | apply Kd.N_alloc | apply Kd.N_drewN | apply Kd.N_drew)); exact Kd.N_mono HO812.out (fun _ hk => ⟨hk.1, hk.2.2.2⟩)⟩, ⟨by (with_reducible repeat (first | apply Kd.V_alloc | apply Kd.V_drewN | apply Kd.V_drew)); exact Kd.V_mono HL813_0.out (fun _ hk => ⟨hk.1.1, ⟨hk.2, hk.1.2.2.2⟩⟩)⟩, ⟨blk_x BK802.out⟩, ⟨by repeat (first | (with_reducible exact HR813_0.out) | (with_reducible refine Kd.C_alloc ?_ _) | (with_reducible refine Kd.C_drewN ?_ _) | (with_reducible refine Kd.C_drew ?_) | exact HR813_0.out)⟩, ⟨by exact below_y HB.out⟩⟩
   case round =>
    clear H'
    obtain ⟨x8_1, x9_1, rfl, HA, HK1, HO_7, HO_8, BK802, HR813_0, HB⟩ := hrel
    cases gk with
    | zero => exact absurd HA.out (by simp [swarfref04_Work.l0])
    | succ k1 =>
     have H := HA.out
     clear HA
     simp only [swarfref04_Work.l0] at H
     by_cases c16 : x9_1 < (t810.length : Int)
     ·
      rw [if_pos c16] at H
      have c16b0 : decide (x9_1 < (t810.length : Int)) = true := decide_eq_true c16
      clear c16
      by_cases c17 : 0 ≤ x9_1
      ·
       rw [if_pos c17] at H
       have c17b0 : decide (0 ≤ x9_1) = true := decide_eq_true c17
       clear c17
       replace H := Option.bind_eq_some_iff.mp H
       obtain ⟨t816, A180, H⟩ := H
       try dsimp only at H
       have A18 := Aside0.mk A180
       clear A180
       replace H := Option.bind_eq_some_iff.mp H
       obtain ⟨t817, A190, H⟩ := H
       try dsimp only at H
       have A19 := Aside0.mk A190
       clear A190
       by_cases c20 : t816 < t817
       ·
        rw [if_pos c20] at H
        have c20b0 : decide (t816 < t817) = true := decide_eq_true c20
        clear c20
        have H' := Aside0.mk H
        clear H
        try go_wp2
        replace HO_7 := Aside0.mk (Kd.N_drew HO_7.out)
        replace HO_8 := Aside0.mk (Kd.V_drew HO_8.out)
        replace BK802 := Aside0.mk (blk_drew BK802.out)
        replace HR813_0 := Aside0.mk (Kd.C_drew HR813_0.out)
        replace HB := Aside0.mk (below_drew1 HB.out)
        have p815 : 0 ≤ (x9_1 : Int) := of_x
        have q815 : x9_1 < (t810.length : Int) := of_x
        obtain ⟨ad815, A815_0, c815_0, e815, hx815_0, hl815_0, hi815_0⟩ := at_L1 (Kd.N_reads' HO_7.out).2.2 x9_1 p815 q815
        obtain rfl : ad813 = ad815 := (by injection e815)
        obtain ⟨ce815, hce815, hMe815, hcc815⟩ := Kd.N_get HO_7.out [] x9_1 p815 (by first | exact q815 | exact of_x | (have e_ := (Kd.N_reads' HO_7.out).1; omega))
        obtain ⟨ua815_0, uc815_0, rfl, ul815_0, ge815_0⟩ := Kd.FK_slice_open hMe815
        have hv815_0 := hcc815 0 _ rfl
        rw [Nat.add_zero, show ((Kd.slice 3 (Kd.int .i64))).sz = 1 from rfl, Nat.mul_one] at hv815_0
        replace hv815_0 := Option.some.inj (hv815_0.symm.trans hx815_0)
        injection hv815_0 with hva_ hvn_ hvc_
        rw [hva_] at ge815_0
        rw [hvc_] at ul815_0
        have HL815_0 := Aside0.mk (show Kd.V (Kd.int .i64) 3 _ w.heap.size _ _ (rd_L1 t810 x9_1) from Kd.V_mk ul815_0 ge815_0)
        clear hva_ hvn_ hvc_ ge815_0 ul815_0 hcc815 hce815
        have HR815_0 := Aside0.mk hi815_0
        have HC815_0 := Aside0.mk hl815_0
        clear hi815_0 hl815_0
        replace p815 := eq_true p815
        replace q815 := eq_true q815
        refine start_ (n := 10) (S := fun w' => w'.cell? ⟨gb802, 0, none⟩ = some (.slice A0_0 l0_0.length c0_0) ∧ w'.cell? ⟨gb802, 1, none⟩ = some (.int .i64 a0_1) ∧ w'.cell? ⟨gb802, 2, none⟩ = some (.slice A0_2 l0_2.length c0_2) ∧ w'.cell? ⟨gb802, 3, none⟩ = some (.int .i64 a0_3) ∧ w'.cell? ⟨gb802, 4, none⟩ = some (.slice A0_4 l0_4.length c0_4) ∧ w'.cell? (ad813.add (x9_1).toNat) = some (.slice A815_0 (rd_L1 t810 x9_1).length c815_0)) (ds := []) #[false, false, false, false, false, false, false, false, false, false] (by kernel_rfl) rfl rfl ⟨(blk_cell BK802.out 0).trans rfl, (blk_cell BK802.out 1).trans rfl, (blk_cell BK802.out 2).trans rfl, (blk_cell BK802.out 3).trans rfl, (blk_cell BK802.out 4).trans rfl, hx815_0⟩ (fun hHeld => ?_); refine with_tabW swarfref04_Work.tab9 swarfref04_Work.bits9 (fun HT_ HW_ => ?_)
        generalize wr.drew = w21 at HO_7 HO_8 BK802 HR813_0 HB HL815_0 HR815_0 hx815_0 hHeld ⊢
        refine pure_ (i := 1) (N := some 33) (v := ?_) (a' := ?_) (bz 10 2) rfl rfl (any_of HT_.out (by kernel_rfl)) (fun _ _ _ h => h) (Or.inl ⟨by rfl, ?_⟩) ?_ ?_
        rotate_left
        ·
         intro w'
         go_simp
         with_reducible rfl
        rotate_left
        ·
         simp only [Act.put, put_x, i64_w, i32_w]
         rfl
        refine pure_ (i := 2) (N := some 34) (v := ?_) (a' := ?_) (bz 10 6) rfl rfl (any_of HT_.out (by kernel_rfl)) (fun _ _ _ h => h) (Or.inl ⟨by rfl, ?_⟩) ?_ ?_
        rotate_left
        ·
         intro w'
         go_simp
         with_reducible rfl
        rotate_left
        ·
         simp only [Act.put, put_x, i64_w, i32_w]
         rfl
        refine pure_ (i := 3) (N := some 35) (v := ?_) (a' := ?_) (bz 10 14) rfl rfl (any_of HT_.out (by kernel_rfl)) (fun _ _ _ h => h) (Or.inl ⟨by rfl, ?_⟩) ?_ ?_
        rotate_left
        ·
         intro w'
         go_simp
         with_reducible rfl
        rotate_left
        ·
         simp only [Act.put, put_x, i64_w, i32_w]
         rfl
        refine pure_ (i := 7) (N := some 39) (v := ?_) (a' := ?_) (bz 10 142) rfl rfl (any_of HT_.out (by kernel_rfl)) (fun _ _ _ h => h) (Or.inl ⟨by rfl, ?_⟩) ?_ ?_
        rotate_left
        ·
         intro w'
         go_simp
         with_reducible rfl
        rotate_left
        ·
         simp only [Act.put, put_x, i64_w, i32_w]
         rfl
        refine take_ (i := 0) (N := some 32) (v := ?_) (a' := ?_) (bz 10 143) rfl rfl (take_ofW HT_.out HW_.out (by kernel_rfl)) (fun _ _ _ h => h) (Or.inl ⟨by rfl, ?_⟩) hHeld ?_ ?_
        rotate_left
        ·
         rintro w' ⟨s0, s1, s2, s3, s4, s5⟩
         go_simp
         with_reducible rfl
        rotate_left
        ·
         simp only [Act.put, put_x, i64_w, i32_w]
         rfl
        refine take_ (i := 4) (N := some 36) (v := ?_) (a' := ?_) (bz 10 159) rfl rfl (take_ofW HT_.out HW_.out (by kernel_rfl)) (fun _ _ _ h => h) (Or.inl ⟨by rfl, ?_⟩) hHeld ?_ ?_
        rotate_left
        ·
         rintro w' ⟨s0, s1, s2, s3, s4, s5⟩
         go_simp
         with_reducible rfl
        rotate_left
        ·
         simp only [Act.put, put_x, i64_w, i32_w]
         rfl
        refine take_ (i := 6) (N := some 38) (v := ?_) (a' := ?_) (bz 10 223) rfl rfl (take_ofW HT_.out HW_.out (by kernel_rfl)) (fun _ _ _ h => h) (Or.inl ⟨by rfl, ?_⟩) hHeld ?_ ?_
        rotate_left
        ·
         rintro w' ⟨s0, s1, s2, s3, s4, s5⟩
         go_simp
         with_reducible rfl
        rotate_left
        ·
         simp only [Act.put, put_x, i64_w, i32_w]
         rfl
        refine one_ (i := 5) (N := some 37) (bz 10 255) rfl rfl (one_of HT_.out (by kernel_rfl)) (by decide) (fun K hK => ?_)
        refine goes_ Try.func31 (by kernel_rfl) rfl #[.agg #[.slice A0_0 l0_0.length c0_0, .int .i64 a0_1, .slice A0_2 l0_2.length c0_2, .int .i64 a0_3, .slice A0_4 l0_4.length c0_4], .slice A815_0 (rd_L1 t810 x9_1).length c815_0] (by rfl) rfl rfl (by (try simp only [List.map_toArray, List.map_cons, List.map_nil]); first | done | rfl | (simp only [List.length_drop, List.length_take]; rfl)) ?_
        with_reducible refine (swarfref04_Time.calls k1 _ _ l0_0 a0_1 _ _ l0_2 a0_3 _ _ l0_4 _ _ (rd_L1 t810 x9_1) t816 _ ?side1 ?side2 ?side3 ?side4 ?side5 ?side6 ?side7 ?side8 A18.out).mono ?_
        (case side1 => exact Kd.C_x HR0_0.out HB.out)
        (case side2 => exact HC0_0.out)
        (case side3 => exact Kd.C_x HR0_2.out HB.out)
        (case side4 => exact HC0_2.out)
        (case side5 => exact Kd.C_x HR0_4.out HB.out)
        (case side6 => exact HC0_4.out)
        (case side7 => repeat (first | exact (by repeat (first | (with_reducible exact HR815_0.out) | (with_reducible refine Kd.C_alloc ?_ _) | (with_reducible refine Kd.C_drewN ?_ _) | (with_reducible refine Kd.C_drew ?_) | exact HR815_0.out)) | (with_reducible refine Kd.C_alloc ?_ _) | (with_reducible refine Kd.C_drewN ?_ _) | (with_reducible refine Kd.C_drew ?_)))
        (case side8 => exact HC815_0.out)
        rintro e w22 ⟨rfl, hb⟩
        have HS5_ := (hb.cell (World.block_lt_of_cell? _ _ (hHeld.2.2.2.2.2))).trans (hHeld.2.2.2.2.2)
        refine ⟨_, rfl, ?_⟩
        replace HO_7 := Aside0.mk (Kd.N_below (Kd.N_x HO_7.out) hb)
        replace HO_8 := Aside0.mk (Kd.V_below (Kd.V_x HO_8.out) hb)
        replace HL815_0 := Aside0.mk (Kd.V_below (Kd.V_x HL815_0.out) hb)
        replace BK802 := Aside0.mk (blk_below (blk_x BK802.out) hb)
        replace HR813_0 := Aside0.mk (Kd.C_below (by repeat (first | (with_reducible exact HR813_0.out) | (with_reducible refine Kd.C_alloc ?_ _) | (with_reducible refine Kd.C_drewN ?_ _) | (with_reducible refine Kd.C_drew ?_) | exact HR813_0.out)) hb)
        replace HR815_0 := Aside0.mk (Kd.C_below (by repeat (first | (with_reducible exact HR815_0.out) | (with_reducible refine Kd.C_alloc ?_ _) | (with_reducible refine Kd.C_drewN ?_ _) | (with_reducible refine Kd.C_drew ?_) | exact HR815_0.out)) hb)
        replace HB := bl_x HB hb
        (try clear hb)
        (try clear hb2)
        (try clear hk)
        (try clear hi)
        obtain ⟨Ao23, co23, eo23⟩ := Kd.V_slice HO_8.out
        (first | subst eo23 | (injection eo23 with f1_ f2_ f3_; have f4_ := f1_.symm; have f5_ := f3_.symm; clear f1_ f2_ f3_; subst f4_; subst f5_))
        refine hK.out _ _ ⟨(blk_cell BK802.out 0).trans rfl, (blk_cell BK802.out 1).trans rfl, (blk_cell BK802.out 2).trans rfl, (blk_cell BK802.out 3).trans rfl, (blk_cell BK802.out 4).trans rfl, HS5_⟩ (fun hHeld => ?_)
        clear hK K
        refine norm_ (a' := ?_) ?_ ?_
        rotate_left
        ·
         show Act.put _ (some 37) _ = _
         simp only [Act.put, put_x, i64_w, i32_w]
         rfl
        refine one_ (i := 8) (N := some 40) (bz 10 511) rfl rfl (one_of HT_.out (by kernel_rfl)) (by decide) (fun K hK => ?_)
        refine goes_ Try.func31 (by kernel_rfl) rfl #[.agg #[.slice A0_0 l0_0.length c0_0, .int .i64 a0_1, .slice A0_2 l0_2.length c0_2, .int .i64 a0_3, .slice A0_4 l0_4.length c0_4], .slice Ao23 x8_1.length co23] (by rfl) rfl rfl (by (try simp only [List.map_toArray, List.map_cons, List.map_nil]); first | done | rfl | (simp only [List.length_drop, List.length_take]; rfl)) ?_
        with_reducible refine (swarfref04_Time.calls k1 _ _ l0_0 a0_1 _ _ l0_2 a0_3 _ _ l0_4 _ _ x8_1 t817 _ ?side1 ?side2 ?side3 ?side4 ?side5 ?side6 ?side7 ?side8 A19.out).mono ?_
        (case side1 => exact Kd.C_x HR0_0.out HB.out)
        (case side2 => exact HC0_0.out)
        (case side3 => exact Kd.C_x HR0_2.out HB.out)
        (case side4 => exact HC0_2.out)
        (case side5 => exact Kd.C_x HR0_4.out HB.out)
        (case side6 => exact HC0_4.out)
        (case side7 => exact Kd.C_y (Kd.V_reads' HO_8.out).2.2)
        (case side8 => exact (Kd.V_reads' HO_8.out).2.1)
        rintro e w24 ⟨rfl, hb⟩
        have HS5_ := (hb.cell (World.block_lt_of_cell? _ _ (hHeld.2.2.2.2.2))).trans (hHeld.2.2.2.2.2)
        refine ⟨_, rfl, ?_⟩
        replace HO_7 := Aside0.mk (Kd.N_below (Kd.N_x HO_7.out) hb)
        replace HO_8 := Aside0.mk (Kd.V_below (Kd.V_x HO_8.out) hb)
        replace HL815_0 := Aside0.mk (Kd.V_below (Kd.V_x HL815_0.out) hb)
        replace BK802 := Aside0.mk (blk_below (blk_x BK802.out) hb)
        replace HR813_0 := Aside0.mk (Kd.C_below (by repeat (first | (with_reducible exact HR813_0.out) | (with_reducible refine Kd.C_alloc ?_ _) | (with_reducible refine Kd.C_drewN ?_ _) | (with_reducible refine Kd.C_drew ?_) | exact HR813_0.out)) hb)
        replace HR815_0 := Aside0.mk (Kd.C_below (by repeat (first | (with_reducible exact HR815_0.out) | (with_reducible refine Kd.C_alloc ?_ _) | (with_reducible refine Kd.C_drewN ?_ _) | (with_reducible refine Kd.C_drew ?_) | exact HR815_0.out)) hb)
        replace HB := bl_x HB hb
        (try clear hb)
        (try clear hb2)
        (try clear hk)
        (try clear hi)
        refine hK.out _ _ ⟨(blk_cell BK802.out 0).trans rfl, (blk_cell BK802.out 1).trans rfl, (blk_cell BK802.out 2).trans rfl, (blk_cell BK802.out 3).trans rfl, (blk_cell BK802.out 4).trans rfl, HS5_⟩ (fun hHeld => ?_)
        clear hK K
        refine norm_ (a' := ?_) ?_ ?_
        rotate_left
        ·
         show Act.put _ (some 40) _ = _
         simp only [Act.put, put_x, i64_w, i32_w]
         rfl
        refine pure_ (i := 9) (N := some 41) (v := ?_) (a' := ?_) (bz 10 1023) rfl rfl (any_of HT_.out (by kernel_rfl)) (fun _ _ _ h => h) (Or.inl ⟨by rfl, ?_⟩) ?_ ?_
        rotate_left
        ·
         intro w'
         go_simp
         with_reducible rfl
        rotate_left
        ·
         simp only [Act.put, put_x, i64_w, i32_w]
         rfl
        refine done_ (done_of HT_.out (by kernel_rfl)) ?_
        have p818 : 0 ≤ (x9_1 : Int) := of_x
        have q818 : x9_1 < (t810.length : Int) := of_x
        obtain ⟨ad818, A818_0, c818_0, e818, hx818_0, hl818_0, hi818_0⟩ := at_L1 (Kd.N_reads' HO_7.out).2.2 x9_1 p818 q818
        obtain rfl : ad813 = ad818 := (by injection e818)
        obtain ⟨rfl, rfl⟩ : A818_0 = A815_0 ∧ c818_0 = c815_0 := by have h_ := Option.some.inj (hx818_0.symm.trans (show _ = some (Value.slice A815_0 _ c815_0) by assumption)); injection h_ with h1_ _ h3_; exact ⟨h1_, h3_⟩
        obtain ⟨ce818, hce818, hMe818, hcc818⟩ := Kd.N_get HO_7.out [] x9_1 p818 (by first | exact q818 | exact of_x | (have e_ := (Kd.N_reads' HO_7.out).1; omega))
        obtain ⟨ua818_0, uc818_0, rfl, ul818_0, ge818_0⟩ := Kd.FK_slice_open hMe818
        have hv818_0 := hcc818 0 _ rfl
        rw [Nat.add_zero, show ((Kd.slice 3 (Kd.int .i64))).sz = 1 from rfl, Nat.mul_one] at hv818_0
        replace hv818_0 := Option.some.inj (hv818_0.symm.trans hx818_0)
        injection hv818_0 with hva_ hvn_ hvc_
        rw [hva_] at ge818_0
        rw [hvc_] at ul818_0
        have HL818_0 := Aside0.mk (show Kd.V (Kd.int .i64) 3 _ w.heap.size _ _ (rd_L1 t810 x9_1) from Kd.V_mk ul818_0 ge818_0)
        clear hva_ hvn_ hvc_ ge818_0 ul818_0 hcc818 hce818
        have HR818_0 := Aside0.mk hi818_0
        have HC818_0 := Aside0.mk hl818_0
        clear hi818_0 hl818_0
        replace p818 := eq_true p818
        replace q818 := eq_true q818
        try go_wp2
        go_roundg k1
        case measure => have := HK1.out; omega
        case rel => exact ⟨(rd_L1 t810 x9_1), (wrap64 (x9_1 + 1)), (by first | rfl | (simp; done) | (simp [*]; done)), H', ⟨by have := HK1.out; omega⟩, ⟨by (with_reducible repeat (first | apply Kd.N_alloc | apply Kd.N_drewN | apply Kd.N_drew)); exact HO_7.out⟩, ⟨by (with_reducible repeat (first | apply Kd.V_alloc | apply Kd.V_drewN | apply Kd.V_drew)); exact Kd.V_mono HL818_0.out (fun _ hk => ⟨hk.1.1, ⟨hk.2, hk.1.2⟩⟩)⟩, ⟨blk_x BK802.out⟩, ⟨by repeat (first | (with_reducible exact HR813_0.out) | (with_reducible refine Kd.C_alloc ?_ _) | (with_reducible refine Kd.C_drewN ?_ _) | (with_reducible refine Kd.C_drew ?_) | exact HR813_0.out)⟩, ⟨by exact below_y HB.out⟩⟩
       ·
        rw [if_neg c20] at H
        have c20b0 : decide (t816 < t817) = false := decide_eq_false c20
        clear c20
        have H' := Aside0.mk H
        clear H
        try go_wp2
        replace HO_7 := Aside0.mk (Kd.N_drew HO_7.out)
        replace HO_8 := Aside0.mk (Kd.V_drew HO_8.out)
        replace BK802 := Aside0.mk (blk_drew BK802.out)
        replace HR813_0 := Aside0.mk (Kd.C_drew HR813_0.out)
        replace HB := Aside0.mk (below_drew1 HB.out)
        have p815 : 0 ≤ (x9_1 : Int) := of_x
        have q815 : x9_1 < (t810.length : Int) := of_x
        obtain ⟨ad815, A815_0, c815_0, e815, hx815_0, hl815_0, hi815_0⟩ := at_L1 (Kd.N_reads' HO_7.out).2.2 x9_1 p815 q815
        obtain rfl : ad813 = ad815 := (by injection e815)
        obtain ⟨ce815, hce815, hMe815, hcc815⟩ := Kd.N_get HO_7.out [] x9_1 p815 (by first | exact q815 | exact of_x | (have e_ := (Kd.N_reads' HO_7.out).1; omega))
        obtain ⟨ua815_0, uc815_0, rfl, ul815_0, ge815_0⟩ := Kd.FK_slice_open hMe815
        have hv815_0 := hcc815 0 _ rfl
        rw [Nat.add_zero, show ((Kd.slice 3 (Kd.int .i64))).sz = 1 from rfl, Nat.mul_one] at hv815_0
        replace hv815_0 := Option.some.inj (hv815_0.symm.trans hx815_0)
        injection hv815_0 with hva_ hvn_ hvc_
        rw [hva_] at ge815_0
        rw [hvc_] at ul815_0
        have HL815_0 := Aside0.mk (show Kd.V (Kd.int .i64) 3 _ w.heap.size _ _ (rd_L1 t810 x9_1) from Kd.V_mk ul815_0 ge815_0)
        clear hva_ hvn_ hvc_ ge815_0 ul815_0 hcc815 hce815
        have HR815_0 := Aside0.mk hi815_0
        have HC815_0 := Aside0.mk hl815_0
        clear hi815_0 hl815_0
        replace p815 := eq_true p815
        replace q815 := eq_true q815
        refine start_ (n := 10) (S := fun w' => w'.cell? ⟨gb802, 0, none⟩ = some (.slice A0_0 l0_0.length c0_0) ∧ w'.cell? ⟨gb802, 1, none⟩ = some (.int .i64 a0_1) ∧ w'.cell? ⟨gb802, 2, none⟩ = some (.slice A0_2 l0_2.length c0_2) ∧ w'.cell? ⟨gb802, 3, none⟩ = some (.int .i64 a0_3) ∧ w'.cell? ⟨gb802, 4, none⟩ = some (.slice A0_4 l0_4.length c0_4) ∧ w'.cell? (ad813.add (x9_1).toNat) = some (.slice A815_0 (rd_L1 t810 x9_1).length c815_0)) (ds := []) #[false, false, false, false, false, false, false, false, false, false] (by kernel_rfl) rfl rfl ⟨(blk_cell BK802.out 0).trans rfl, (blk_cell BK802.out 1).trans rfl, (blk_cell BK802.out 2).trans rfl, (blk_cell BK802.out 3).trans rfl, (blk_cell BK802.out 4).trans rfl, hx815_0⟩ (fun hHeld => ?_); refine with_tabW swarfref04_Work.tab9 swarfref04_Work.bits9 (fun HT_ HW_ => ?_)
        generalize wr.drew = w25 at HO_7 HO_8 BK802 HR813_0 HB HL815_0 HR815_0 hx815_0 hHeld ⊢
        refine pure_ (i := 1) (N := some 33) (v := ?_) (a' := ?_) (bz 10 2) rfl rfl (any_of HT_.out (by kernel_rfl)) (fun _ _ _ h => h) (Or.inl ⟨by rfl, ?_⟩) ?_ ?_
        rotate_left
        ·
         intro w'
         go_simp
         with_reducible rfl
        rotate_left
        ·
         simp only [Act.put, put_x, i64_w, i32_w]
         rfl
        refine pure_ (i := 2) (N := some 34) (v := ?_) (a' := ?_) (bz 10 6) rfl rfl (any_of HT_.out (by kernel_rfl)) (fun _ _ _ h => h) (Or.inl ⟨by rfl, ?_⟩) ?_ ?_
        rotate_left
        ·
         intro w'
         go_simp
         with_reducible rfl
        rotate_left
        ·
         simp only [Act.put, put_x, i64_w, i32_w]
         rfl
        refine pure_ (i := 3) (N := some 35) (v := ?_) (a' := ?_) (bz 10 14) rfl rfl (any_of HT_.out (by kernel_rfl)) (fun _ _ _ h => h) (Or.inl ⟨by rfl, ?_⟩) ?_ ?_
        rotate_left
        ·
         intro w'
         go_simp
         with_reducible rfl
        rotate_left
        ·
         simp only [Act.put, put_x, i64_w, i32_w]
         rfl
        refine pure_ (i := 7) (N := some 39) (v := ?_) (a' := ?_) (bz 10 142) rfl rfl (any_of HT_.out (by kernel_rfl)) (fun _ _ _ h => h) (Or.inl ⟨by rfl, ?_⟩) ?_ ?_
        rotate_left
        ·
         intro w'
         go_simp
         with_reducible rfl
        rotate_left
        ·
         simp only [Act.put, put_x, i64_w, i32_w]
         rfl
        refine take_ (i := 0) (N := some 32) (v := ?_) (a' := ?_) (bz 10 143) rfl rfl (take_ofW HT_.out HW_.out (by kernel_rfl)) (fun _ _ _ h => h) (Or.inl ⟨by rfl, ?_⟩) hHeld ?_ ?_
        rotate_left
        ·
         rintro w' ⟨s0, s1, s2, s3, s4, s5⟩
         go_simp
         with_reducible rfl
        rotate_left
        ·
         simp only [Act.put, put_x, i64_w, i32_w]
         rfl
        refine take_ (i := 4) (N := some 36) (v := ?_) (a' := ?_) (bz 10 159) rfl rfl (take_ofW HT_.out HW_.out (by kernel_rfl)) (fun _ _ _ h => h) (Or.inl ⟨by rfl, ?_⟩) hHeld ?_ ?_
        rotate_left
        ·
         rintro w' ⟨s0, s1, s2, s3, s4, s5⟩
         go_simp
         with_reducible rfl
        rotate_left
        ·
         simp only [Act.put, put_x, i64_w, i32_w]
         rfl
        refine take_ (i := 6) (N := some 38) (v := ?_) (a' := ?_) (bz 10 223) rfl rfl (take_ofW HT_.out HW_.out (by kernel_rfl)) (fun _ _ _ h => h) (Or.inl ⟨by rfl, ?_⟩) hHeld ?_ ?_
        rotate_left
        ·
         rintro w' ⟨s0, s1, s2, s3, s4, s5⟩
         go_simp
         with_reducible rfl
        rotate_left
        ·
         simp only [Act.put, put_x, i64_w, i32_w]
         rfl
        refine one_ (i := 5) (N := some 37) (bz 10 255) rfl rfl (one_of HT_.out (by kernel_rfl)) (by decide) (fun K hK => ?_)
        refine goes_ Try.func31 (by kernel_rfl) rfl #[.agg #[.slice A0_0 l0_0.length c0_0, .int .i64 a0_1, .slice A0_2 l0_2.length c0_2, .int .i64 a0_3, .slice A0_4 l0_4.length c0_4], .slice A815_0 (rd_L1 t810 x9_1).length c815_0] (by rfl) rfl rfl (by (try simp only [List.map_toArray, List.map_cons, List.map_nil]); first | done | rfl | (simp only [List.length_drop, List.length_take]; rfl)) ?_
        with_reducible refine (swarfref04_Time.calls k1 _ _ l0_0 a0_1 _ _ l0_2 a0_3 _ _ l0_4 _ _ (rd_L1 t810 x9_1) t816 _ ?side1 ?side2 ?side3 ?side4 ?side5 ?side6 ?side7 ?side8 A18.out).mono ?_
        (case side1 => exact Kd.C_x HR0_0.out HB.out)
        (case side2 => exact HC0_0.out)
        (case side3 => exact Kd.C_x HR0_2.out HB.out)
        (case side4 => exact HC0_2.out)
        (case side5 => exact Kd.C_x HR0_4.out HB.out)
        (case side6 => exact HC0_4.out)
        (case side7 => repeat (first | exact (by repeat (first | (with_reducible exact HR815_0.out) | (with_reducible refine Kd.C_alloc ?_ _) | (with_reducible refine Kd.C_drewN ?_ _) | (with_reducible refine Kd.C_drew ?_) | exact HR815_0.out)) | (with_reducible refine Kd.C_alloc ?_ _) | (with_reducible refine Kd.C_drewN ?_ _) | (with_reducible refine Kd.C_drew ?_)))
        (case side8 => exact HC815_0.out)
        rintro e w26 ⟨rfl, hb⟩
        have HS5_ := (hb.cell (World.block_lt_of_cell? _ _ (hHeld.2.2.2.2.2))).trans (hHeld.2.2.2.2.2)
        refine ⟨_, rfl, ?_⟩
        replace HO_7 := Aside0.mk (Kd.N_below (Kd.N_x HO_7.out) hb)
        replace HO_8 := Aside0.mk (Kd.V_below (Kd.V_x HO_8.out) hb)
        replace HL815_0 := Aside0.mk (Kd.V_below (Kd.V_x HL815_0.out) hb)
        replace BK802 := Aside0.mk (blk_below (blk_x BK802.out) hb)
        replace HR813_0 := Aside0.mk (Kd.C_below (by repeat (first | (with_reducible exact HR813_0.out) | (with_reducible refine Kd.C_alloc ?_ _) | (with_reducible refine Kd.C_drewN ?_ _) | (with_reducible refine Kd.C_drew ?_) | exact HR813_0.out)) hb)
        replace HR815_0 := Aside0.mk (Kd.C_below (by repeat (first | (with_reducible exact HR815_0.out) | (with_reducible refine Kd.C_alloc ?_ _) | (with_reducible refine Kd.C_drewN ?_ _) | (with_reducible refine Kd.C_drew ?_) | exact HR815_0.out)) hb)
        replace HB := bl_x HB hb
        (try clear hb)
        (try clear hb2)
        (try clear hk)
        (try clear hi)
        obtain ⟨Ao27, co27, eo27⟩ := Kd.V_slice HO_8.out
        (first | subst eo27 | (injection eo27 with f1_ f2_ f3_; have f4_ := f1_.symm; have f5_ := f3_.symm; clear f1_ f2_ f3_; subst f4_; subst f5_))
        refine hK.out _ _ ⟨(blk_cell BK802.out 0).trans rfl, (blk_cell BK802.out 1).trans rfl, (blk_cell BK802.out 2).trans rfl, (blk_cell BK802.out 3).trans rfl, (blk_cell BK802.out 4).trans rfl, HS5_⟩ (fun hHeld => ?_)
        clear hK K
        refine norm_ (a' := ?_) ?_ ?_
        rotate_left
        ·
         show Act.put _ (some 37) _ = _
         simp only [Act.put, put_x, i64_w, i32_w]
         rfl
        refine one_ (i := 8) (N := some 40) (bz 10 511) rfl rfl (one_of HT_.out (by kernel_rfl)) (by decide) (fun K hK => ?_)
        refine goes_ Try.func31 (by kernel_rfl) rfl #[.agg #[.slice A0_0 l0_0.length c0_0, .int .i64 a0_1, .slice A0_2 l0_2.length c0_2, .int .i64 a0_3, .slice A0_4 l0_4.length c0_4], .slice Ao27 x8_1.length co27] (by rfl) rfl rfl (by (try simp only [List.map_toArray, List.map_cons, List.map_nil]); first | done | rfl | (simp only [List.length_drop, List.length_take]; rfl)) ?_
        with_reducible refine (swarfref04_Time.calls k1 _ _ l0_0 a0_1 _ _ l0_2 a0_3 _ _ l0_4 _ _ x8_1 t817 _ ?side1 ?side2 ?side3 ?side4 ?side5 ?side6 ?side7 ?side8 A19.out).mono ?_
        (case side1 => exact Kd.C_x HR0_0.out HB.out)
        (case side2 => exact HC0_0.out)
        (case side3 => exact Kd.C_x HR0_2.out HB.out)
        (case side4 => exact HC0_2.out)
        (case side5 => exact Kd.C_x HR0_4.out HB.out)
        (case side6 => exact HC0_4.out)
        (case side7 => exact Kd.C_y (Kd.V_reads' HO_8.out).2.2)
        (case side8 => exact (Kd.V_reads' HO_8.out).2.1)
        rintro e w28 ⟨rfl, hb⟩
        have HS5_ := (hb.cell (World.block_lt_of_cell? _ _ (hHeld.2.2.2.2.2))).trans (hHeld.2.2.2.2.2)
        refine ⟨_, rfl, ?_⟩
        replace HO_7 := Aside0.mk (Kd.N_below (Kd.N_x HO_7.out) hb)
        replace HO_8 := Aside0.mk (Kd.V_below (Kd.V_x HO_8.out) hb)
        replace HL815_0 := Aside0.mk (Kd.V_below (Kd.V_x HL815_0.out) hb)
        replace BK802 := Aside0.mk (blk_below (blk_x BK802.out) hb)
        replace HR813_0 := Aside0.mk (Kd.C_below (by repeat (first | (with_reducible exact HR813_0.out) | (with_reducible refine Kd.C_alloc ?_ _) | (with_reducible refine Kd.C_drewN ?_ _) | (with_reducible refine Kd.C_drew ?_) | exact HR813_0.out)) hb)
        replace HR815_0 := Aside0.mk (Kd.C_below (by repeat (first | (with_reducible exact HR815_0.out) | (with_reducible refine Kd.C_alloc ?_ _) | (with_reducible refine Kd.C_drewN ?_ _) | (with_reducible refine Kd.C_drew ?_) | exact HR815_0.out)) hb)
        replace HB := bl_x HB hb
        (try clear hb)
        (try clear hb2)
        (try clear hk)
        (try clear hi)
        refine hK.out _ _ ⟨(blk_cell BK802.out 0).trans rfl, (blk_cell BK802.out 1).trans rfl, (blk_cell BK802.out 2).trans rfl, (blk_cell BK802.out 3).trans rfl, (blk_cell BK802.out 4).trans rfl, HS5_⟩ (fun hHeld => ?_)
        clear hK K
        refine norm_ (a' := ?_) ?_ ?_
        rotate_left
        ·
         show Act.put _ (some 40) _ = _
         simp only [Act.put, put_x, i64_w, i32_w]
         rfl
        refine pure_ (i := 9) (N := some 41) (v := ?_) (a' := ?_) (bz 10 1023) rfl rfl (any_of HT_.out (by kernel_rfl)) (fun _ _ _ h => h) (Or.inl ⟨by rfl, ?_⟩) ?_ ?_
        rotate_left
        ·
         intro w'
         go_simp
         with_reducible rfl
        rotate_left
        ·
         simp only [Act.put, put_x, i64_w, i32_w]
         rfl
        refine done_ (done_of HT_.out (by kernel_rfl)) ?_
        try go_wp2
        go_roundg k1
        case measure => have := HK1.out; omega
        case rel => exact ⟨(x8_1), (wrap64 (x9_1 + 1)), (by first | rfl | (simp; done) | (simp [*]; done)), H', ⟨by have := HK1.out; omega⟩, ⟨by (with_reducible repeat (first | apply Kd.N_alloc | apply Kd.N_drewN | apply Kd.N_drew)); exact HO_7.out⟩, ⟨by (with_reducible repeat (first | apply Kd.V_alloc | apply Kd.V_drewN | apply Kd.V_drew)); exact HO_8.out⟩, ⟨blk_x BK802.out⟩, ⟨by repeat (first | (with_reducible exact HR813_0.out) | (with_reducible refine Kd.C_alloc ?_ _) | (with_reducible refine Kd.C_drewN ?_ _) | (with_reducible refine Kd.C_drew ?_) | exact HR813_0.out)⟩, ⟨by exact below_y HB.out⟩⟩
      ·
       rw [if_neg c17] at H
       exact absurd H (by simp)
     ·
      rw [if_neg c16] at H
      have c16b0 : decide (x9_1 < (t810.length : Int)) = false := decide_eq_false c16
      clear c16
      replace H := Option.bind_eq_some_iff.mp H
      obtain ⟨t814, A290, H⟩ := H
      replace H : (some (x8_1, t814, 0)) = some (r1, r2, r3) := H
      have A29 := Aside0.mk A290
      clear A290
      simp only [Option.some.injEq, Prod.mk.injEq] at H
      obtain ⟨rfl, rfl, rfl⟩ := H
      obtain ⟨_, _, _, _, _⟩ := cz5 BK802
      have hfz30_0 := blk_frozen BK802.out
      obtain ⟨Ao31, co31, eo31⟩ := Kd.V_slice HO_8.out
      subst eo31
      go_wp2_with (first | ((with_reducible refine gate_callee (f := 31) rfl ?_); refine goesL_ (some 49) rfl rfl Try.func31 (by kernel_rfl) rfl #[.agg #[.slice A0_0 l0_0.length c0_0, .int .i64 a0_1, .slice A0_2 l0_2.length c0_2, .int .i64 a0_3, .slice A0_4 l0_4.length c0_4], .slice Ao31 x8_1.length co31] rfl (by (try simp only [List.map_toArray, List.map_cons, List.map_nil]); first | done | rfl | (simp only [List.length_drop, List.length_take]; rfl)) ?_; (with_reducible refine (swarfref04_Time.calls k1 _ _ l0_0 a0_1 _ _ l0_2 a0_3 _ _ l0_4 _ _ x8_1 t814 _ ?side1 ?side2 ?side3 ?side4 ?side5 ?side6 ?side7 ?side8 A29.out).mono ?_); (case side1 => exact Kd.C_x HR0_0.out HB.out); (case side2 => exact HC0_0.out); (case side3 => exact Kd.C_x HR0_2.out HB.out); (case side4 => exact HC0_2.out); (case side5 => exact Kd.C_x HR0_4.out HB.out); (case side6 => exact HC0_4.out); (case side7 => exact Kd.C_y (Kd.V_reads' HO_8.out).2.2); (case side8 => exact (Kd.V_reads' HO_8.out).2.1); rintro e w32 ⟨rfl, hb⟩; refine ⟨_, rfl, ?_⟩; replace HO_7 := Aside0.mk (Kd.N_below (Kd.N_x HO_7.out) hb); replace HO_8 := Aside0.mk (Kd.V_below (Kd.V_x HO_8.out) hb); replace BK802 := Aside0.mk (blk_below (blk_x BK802.out) hb); replace HR813_0 := Aside0.mk (Kd.C_below (by repeat (first | (with_reducible exact HR813_0.out) | (with_reducible refine Kd.C_alloc ?_ _) | (with_reducible refine Kd.C_drewN ?_ _) | (with_reducible refine Kd.C_drew ?_) | exact HR813_0.out)) hb); replace HB := bl_x HB hb; (try clear hb); (try clear hk); (try clear hi)))
      go_ret3
      exact ⟨_, by first | rfl | (simp [errW_none, errW_some] <;> rfl) | (simp [*, errW_none, errW_some] <;> rfl), by (with_reducible repeat (first | apply Kd.V_alloc | apply Kd.V_drewN | apply Kd.V_drew)); exact Kd.V_mono HO_8.out (fun _ hk => hk.1), by exact below_y HB.out⟩
  ·
   rw [if_neg c6] at H
   exact absurd H (by simp)
 ·
  rw [if_neg c3] at H
  have c3b0 : (t806 == 0) = false := beq_eq_false_iff_ne.mpr c3
  have c3b1 : (t806 != 0) = true := bne_iff_ne.mpr c3
  simp only [Option.some.injEq, Prod.mk.injEq] at H
  obtain ⟨rfl, rfl, rfl⟩ := H
  go_enter Try.func21, Try.ntmps21
  go_wp2_with (first | ((with_reducible refine gate_dst (N := 1) rfl ?_); refine box_event ?hg (N := 1) ?hd (cs := #[.slice A0_0 l0_0.length c0_0, .int .i64 a0_1, .slice A0_2 l0_2.length c0_2, .int .i64 a0_3, .slice A0_4 l0_4.length c0_4]) (t := 26) ?hr ?_; (case hd => rfl); (case hg => rfl); (case hr => first | (go_simp; done) | (go_simp; rfl)); intro gb802 hg w33 hbox hb; have BK802 := Aside0.mk (hbox); have GW802 := Aside0.mk ((by rw [hg]; exact (below_size (below_x HB.out)) : w.heap.size ≤ gb802)); have GE802 := Aside0.mk ((by rw [hg]; exact (below_size (below_x HB.out)) : w.heap.size ≤ gb802)); replace HB := Aside0.mk (below_step (below_x HB.out) hb); clear hb hbox hg; obtain ⟨_, _, _, _, _⟩ := cz5 BK802; have hfz34_0 := blk_frozen BK802.out) | ((with_reducible refine gate_callee (f := 36) rfl ?_); refine goesL_ (some 12) rfl rfl Try.func36 (by kernel_rfl) rfl #[.agg #[.slice A0_0 l0_0.length c0_0, .int .i64 a0_1, .slice A0_2 l0_2.length c0_2, .int .i64 a0_3, .slice A0_4 l0_4.length c0_4]] rfl (by (try simp only [List.map_toArray, List.map_cons, List.map_nil]); first | done | rfl | (simp only [List.length_drop, List.length_take]; rfl)) ?_; (with_reducible refine (swarfref04_Out.calls k _ _ l0_0 a0_1 _ _ l0_2 a0_3 _ _ l0_4 t803 t806 _ ?side1 ?side2 ?side3 ?side4 ?side5 ?side6 A2.out).mono ?_); (case side1 => exact Kd.C_x HR0_0.out HB.out); (case side2 => exact HC0_0.out); (case side3 => exact Kd.C_x HR0_2.out HB.out); (case side4 => exact HC0_2.out); (case side5 => exact Kd.C_x HR0_4.out HB.out); (case side6 => exact HC0_4.out); rintro e w35 ⟨v804, rfl, ho0, hb⟩; refine ⟨_, rfl, ?_⟩; have HO805 := Aside0.mk (Kd.R_lower (Kd.R_newM (M := fun k_ => (w.heap.size ≤ k_)) ho0 (below_size (by exact below_y HB.out)) (fun k_ h_ => h_)) (below_size (by exact below_y HB.out))); replace BK802 := Aside0.mk (blk_below (blk_x BK802.out) hb); replace HB := bl_x HB hb; (try clear hb); (try clear hk); (try clear hi); (try clear ho0)))
  go_ret3
  exact ⟨.slice none 0 0, by first | rfl | (simp [errW_none, errW_some] <;> rfl) | (simp [*, errW_none, errW_some] <;> rfl), Kd.V_nil _ _ _ _ _, by exact below_y HB.out⟩
end Go.Proofs.Ytkkmfcdikkiodaa.PC4
namespace Go.Proofs.Ytkkmfcdikkiodaa.PC4
set_option linter.unusedVariables false
set_option linter.unusedSimpArgs false
open Go.RowKit Go.Proofs.YtkkmfcdikkiodaaW.PrintWords Go.Proofs.YtkkmfcdikkiodaaW.PrintLast Go.Proofs.YtkkmfcdikkiodaaW.PrintMore
theorem alloc_keeps {w : World} {a : Addr} {v : Value} (h : w.cell? a = some v) : ∀ o, (w.alloc o).cell? a = some v := fun o => (World.cell?_alloc_lt _ _ _ (World.block_lt_of_cell? _ _ h)).trans h
set_option maxHeartbeats 8000000 in
set_option maxRecDepth 100000 in
theorem equalCars_same (A0 : Option Addr) (c0 : Nat) (parts : List S50) (swap : Int) (A2 : Option Addr) (c2 : Nat) (looks : List S61) (wrong : Int) (A4 : Option Addr) (c4 : Nat) (needs : List Int) (B0 : Option Addr) (d0 : Nat) (B2 : Option Addr) (d2 : Nat) (B4 : Option Addr) (d4 : Nat) (w : World)
    (ha0 : Kd.C k50 w A0 parts.length parts) (hac0 : parts.length ≤ c0) (ha2 : Kd.C k61 w A2 looks.length looks) (hac2 : looks.length ≤ c2) (ha4 : Kd.C (Kd.int .i64) w A4 needs.length needs) (hac4 : needs.length ≤ c4)
    (hb0 : Kd.C k50 w B0 parts.length parts) (hbc0 : parts.length ≤ d0) (hb2 : Kd.C k61 w B2 looks.length looks) (hbc2 : looks.length ≤ d2) (hb4 : Kd.C (Kd.int .i64) w B4 needs.length needs) (hbc4 : needs.length ≤ d4)
    (hpl : parts.length ≤ 1000000) (hll : looks.length ≤ 1000000) (hn : ∃ k, swarfkit_EqualInts.f k needs needs = some true) (hb : ∀ p, p ∈ parts → ∃ k, swarfkit_EqualInts.f k p.f0 p.f0 = some true) :
    Calls Try.prog 23 #[.agg #[.slice A0 parts.length c0, .int .i64 swap, .slice A2 looks.length c2, .int .i64 wrong, .slice A4 needs.length c4], .agg #[.slice B0 parts.length d0, .int .i64 swap, .slice B2 looks.length d2, .int .i64 wrong, .slice B4 needs.length d4]] w fun e w' => e = .returned (.bool true) ∧ Below w.heap.size w w' := by
  have hu26 := Try.underlying26
  have hu50 := Try.underlying50
  have hu61 := Try.underlying61
  obtain ⟨kn, hn⟩ := hn
  have HA0 := Aside0.mk ha0
  have HA2 := Aside0.mk ha2
  have HA4 := Aside0.mk ha4
  have HB0 := Aside0.mk hb0
  have HB2 := Aside0.mk hb2
  have HB4 := Aside0.mk hb4
  have HN := Aside0.mk hn
  have HBF := Aside0.mk hb
  clear ha0 ha2 ha4 hb0 hb2 hb4 hn hb
  go_enter Try.func23, Try.ntmps23
  go_wp2_with (first
    | ((with_reducible refine gate_dst (N := 2) rfl ?_); refine box_event ?hg (N := 2) ?hd (cs := #[.slice A0 parts.length c0, .int .i64 swap, .slice A2 looks.length c2, .int .i64 wrong, .slice A4 needs.length c4]) (t := 26) ?hr ?_; (case hd => rfl); (case hg => rfl); (case hr => first | (go_simp; done) | (go_simp; rfl)); intro ga hga w1 hbox hbw; have BA := Aside0.mk hbox; have HW := Aside0.mk hbw; clear hga hbox hbw)
    | ((with_reducible refine gate_dst (N := 3) rfl ?_); refine box_event ?hg (N := 3) ?hd (cs := #[.slice B0 parts.length d0, .int .i64 swap, .slice B2 looks.length d2, .int .i64 wrong, .slice B4 needs.length d4]) (t := 26) ?hr ?_; (case hd => rfl); (case hg => rfl); (case hr => first | (go_simp; done) | (go_simp; rfl)); intro gb hgb w2 hbox hbw; have BB := Aside0.mk hbox; have BA2 := Aside0.mk (blk_below BA.out hbw); have HW2 := Aside0.mk (below_step HW.out hbw); clear hgb hbox hbw BA HW; have hx0 := (blk_cell BA2.out 0).trans rfl; have hx1 := (blk_cell BA2.out 1).trans rfl; have hx2 := (blk_cell BA2.out 2).trans rfl; have hx3 := (blk_cell BA2.out 3).trans rfl; have hx4 := (blk_cell BA2.out 4).trans rfl; have hy0 := (blk_cell BB.out 0).trans rfl; have hy1 := (blk_cell BB.out 1).trans rfl; have hy2 := (blk_cell BB.out 2).trans rfl; have hy3 := (blk_cell BB.out 3).trans rfl; have hy4 := (blk_cell BB.out 4).trans rfl)
    | (go_at_call 22; refine (swarfkit_EqualInts.calls kn A4 c4 needs B4 d4 needs true w2 (Kd.C_below HA4.out HW2.out) hac4 (Kd.C_below HB4.out HW2.out) hbc4 HN.out).mono ?_; rintro e w3 ⟨rfl, ⟨m3, rfl⟩⟩))
  obtain ⟨w4, hw4⟩ : ∃ w4 : World, w4 = w2.drewN m3 := ⟨_, rfl⟩
  have BA4 := Aside0.mk (show w4.heap[ga]? = some (.cells #[.slice A0 parts.length c0, .int .i64 swap, .slice A2 looks.length c2, .int .i64 wrong, .slice A4 needs.length c4] 26 (0, 0)) by rw [hw4]; exact BA2.out)
  have BB4 := Aside0.mk (show w4.heap[gb]? = some (.cells #[.slice B0 parts.length d0, .int .i64 swap, .slice B2 looks.length d2, .int .i64 wrong, .slice B4 needs.length d4] 26 (0, 0)) by rw [hw4]; exact BB.out)
  have HW4 := Aside0.mk (show Below w.heap.size w w4 by rw [hw4]; exact pw_below_drewN HW2.out m3)
  rw [← hw4]
  clear hw4 BA2 BB HW2 hx0 hx1 hx2 hx3 hx4 hy0 hy1 hy2 hy3 hy4
  go_loopg [5, 6] parts.length (fun gk v5 v6 wr => ∃ k : Nat, k ≤ parts.length ∧ parts.length - k ≤ gk ∧ v5 = .bool true ∧ v6 = .int .i64 k ∧ Aside0 (wr.heap[ga]? = some (.cells #[.slice A0 parts.length c0, .int .i64 swap, .slice A2 looks.length c2, .int .i64 wrong, .slice A4 needs.length c4] 26 (0, 0))) ∧ Aside0 (wr.heap[gb]? = some (.cells #[.slice B0 parts.length d0, .int .i64 swap, .slice B2 looks.length d2, .int .i64 wrong, .slice B4 needs.length d4] 26 (0, 0))) ∧ Aside0 (Below w.heap.size w wr))
  case atStart => exact ⟨0, Nat.zero_le _, by omega, rfl, rfl, BA4, BB4, HW4⟩
  case round =>
    clear BA4 BB4 HW4
    obtain ⟨k, hk, hgk, rfl, rfl, BA4, BB4, HW4⟩ := hrel
    have hx0 := (blk_cell BA4.out 0).trans rfl
    have hy0 := (blk_cell BB4.out 0).trans rfl
    by_cases hlt : k < parts.length
    · have hlz : (k : Int) < (parts.length : Int) := by omega
      obtain ⟨ad, A1, a1, e, hp0, hp1, hp2, hp3, hl1, hi1⟩ := at_T50 HA0.out (k : Int) (by omega) hlz
      cases e
      obtain ⟨bd, B1, b1, e, hq0, hq1, hq2, hq3, hl2, hi2⟩ := at_T50 HB0.out (k : Int) (by omega) hlz
      cases e
      rw [Int.toNat_natCast] at hp0 hp1 hp2 hp3 hq0 hq1 hq2 hq3
      replace hp0 := (HW4.out.cell (World.block_lt_of_cell? w _ hp0)).trans hp0
      replace hp1 := (HW4.out.cell (World.block_lt_of_cell? w _ hp1)).trans hp1
      replace hp2 := (HW4.out.cell (World.block_lt_of_cell? w _ hp2)).trans hp2
      replace hp3 := (HW4.out.cell (World.block_lt_of_cell? w _ hp3)).trans hp3
      replace hq0 := (HW4.out.cell (World.block_lt_of_cell? w _ hq0)).trans hq0
      replace hq1 := (HW4.out.cell (World.block_lt_of_cell? w _ hq1)).trans hq1
      replace hq2 := (HW4.out.cell (World.block_lt_of_cell? w _ hq2)).trans hq2
      replace hq3 := (HW4.out.cell (World.block_lt_of_cell? w _ hq3)).trans hq3
      have hE : rd_T50 parts (k : Int) ∈ parts := by
        have : rd_T50 parts (k : Int) = parts.getD k z50 := by simp [rd_T50]
        rw [this, List.getD, List.getElem?_eq_getElem hlt]; exact List.getElem_mem hlt
      obtain ⟨ke, he⟩ := HBF.out _ hE
      have HE := Aside0.mk he
      have HI1 := Aside0.mk hi1
      have HI2 := Aside0.mk hi2
      clear he hE hi1 hi2
      generalize rd_T50 parts (k : Int) = y at *
      go_upto_region 5 with (fail)
      obtain ⟨wo, hwo⟩ : ∃ wo : World, wo = wr := ⟨_, rfl⟩
      rw [← hwo] at BA4 BB4 HW4 hx0 hy0 hp0 hp1 hp2 hp3 hq0 hq1 hq2 hq3 ⊢
      clear hwo
      go_cut [7, 8] (fun v7 v8 wc => ∃ p q : Nat, v7 = .pointer (some ⟨p, 0, none⟩) ∧ v8 = .pointer (some ⟨q, 0, none⟩) ∧ Aside0 (wc.heap[p]? = some (.cells #[.slice A1 y.f0.length a1, .bool y.f1, .int .i64 y.f2, .int .i64 y.f3] 50 (0, 0))) ∧ Aside0 (wc.heap[q]? = some (.cells #[.slice B1 y.f0.length b1, .bool y.f1, .int .i64 y.f2, .int .i64 y.f3] 50 (0, 0))) ∧ Aside0 (Below wo.heap.size wo wc))
      case first =>
        have hx0a := alloc_keeps hx0
        have hx0b := fun o => alloc_keeps (hx0a o)
        have hy0a := alloc_keeps hy0
        have hy0b := fun o => alloc_keeps (hy0a o)
        have hp0a := alloc_keeps hp0
        have hp0b := fun o => alloc_keeps (hp0a o)
        have hp1a := alloc_keeps hp1
        have hp1b := fun o => alloc_keeps (hp1a o)
        have hp2a := alloc_keeps hp2
        have hp2b := fun o => alloc_keeps (hp2a o)
        have hp3a := alloc_keeps hp3
        have hp3b := fun o => alloc_keeps (hp3a o)
        have hq0a := alloc_keeps hq0
        have hq0b := fun o => alloc_keeps (hq0a o)
        have hq1a := alloc_keeps hq1
        have hq1b := fun o => alloc_keeps (hq1a o)
        have hq2a := alloc_keeps hq2
        have hq2b := fun o => alloc_keeps (hq2a o)
        have hq3a := alloc_keeps hq3
        have hq3b := fun o => alloc_keeps (hq3a o)
        go_region
        all_goals
          go_wp2
          go_meet
          case rel => first
            | exact ⟨_, _, rfl, rfl, ⟨blk_drew (blk_alloc (blk_new wo (.cells #[.slice A1 y.f0.length a1, .bool y.f1, .int .i64 y.f2, .int .i64 y.f3] 50 (0, 0))) _)⟩, ⟨blk_drew (by have h_ := blk_new (wo.alloc (.cells #[.slice A1 y.f0.length a1, .bool y.f1, .int .i64 y.f2, .int .i64 y.f3] 50 (0, 0))) (.cells #[.slice B1 y.f0.length b1, .bool y.f1, .int .i64 y.f2, .int .i64 y.f3] 50 (0, 0)); simpa using h_)⟩, ⟨below_drew1 (below_alloc (below_alloc (Below.refl _ _) _) _)⟩⟩
            | exact ⟨_, _, rfl, rfl, ⟨blk_drew (by have h_ := blk_new (wo.alloc (.cells #[.slice B1 y.f0.length b1, .bool y.f1, .int .i64 y.f2, .int .i64 y.f3] 50 (0, 0))) (.cells #[.slice A1 y.f0.length a1, .bool y.f1, .int .i64 y.f2, .int .i64 y.f3] 50 (0, 0)); simpa using h_)⟩, ⟨blk_drew (blk_alloc (blk_new wo (.cells #[.slice B1 y.f0.length b1, .bool y.f1, .int .i64 y.f2, .int .i64 y.f3] 50 (0, 0))) _)⟩, ⟨below_drew1 (below_alloc (below_alloc (Below.refl _ _) _) _)⟩⟩
      case rest =>
        obtain ⟨p, q, rfl, rfl, BP, BQ, HWc⟩ := hcut
        have BA5 := Aside0.mk (blk_below BA4.out HWc.out)
        have BB5 := Aside0.mk (blk_below BB4.out HWc.out)
        have HW5 := Aside0.mk (below_step HW4.out HWc.out)
        clear hx0 hy0 hp0 hp1 hp2 hp3 hq0 hq1 hq2 hq3 BA4 BB4 HW4 HWc
        have hp0 := (blk_cell BP.out 0).trans rfl
        have hp1 := (blk_cell BP.out 1).trans rfl
        have hp2 := (blk_cell BP.out 2).trans rfl
        have hp3 := (blk_cell BP.out 3).trans rfl
        have hq0 := (blk_cell BQ.out 0).trans rfl
        have hq1 := (blk_cell BQ.out 1).trans rfl
        have hq2 := (blk_cell BQ.out 2).trans rfl
        have hq3 := (blk_cell BQ.out 3).trans rfl
        go_wp2_with (fail)
        refine (swarfkit_EqualInts.calls ke A1 a1 y.f0 B1 b1 y.f0 true _ (Kd.C_below HI1.out HW5.out) hl1 (Kd.C_below HI2.out HW5.out) hl2 HE.out).mono ?_
        rintro e w6 ⟨rfl, ⟨m6, rfl⟩⟩
        go_wp2
        go_roundg (parts.length - (k + 1))
        case measure => omega
        case rel => exact ⟨k + 1, by omega, by omega, by first | rfl | simp, by go_num, ⟨BA5.out⟩, ⟨BB5.out⟩, ⟨pw_below_drewN HW5.out m6⟩⟩
    · have : k = parts.length := by omega
      subst this
      go_upto_region 7 with (fail)
      obtain ⟨wo, hwo⟩ : ∃ wo : World, wo = wr := ⟨_, rfl⟩
      rw [← hwo] at BA4 BB4 HW4 hx0 hy0 ⊢
      clear hwo hx0 hy0 hlt hk hgk
      go_wp2
      go_loopg [5, 9] looks.length (fun gk v5 v9 wr => ∃ k : Nat, k ≤ looks.length ∧ looks.length - k ≤ gk ∧ v5 = .bool true ∧ v9 = .int .i64 k ∧ Aside0 (wr.heap[ga]? = some (.cells #[.slice A0 parts.length c0, .int .i64 swap, .slice A2 looks.length c2, .int .i64 wrong, .slice A4 needs.length c4] 26 (0, 0))) ∧ Aside0 (wr.heap[gb]? = some (.cells #[.slice B0 parts.length d0, .int .i64 swap, .slice B2 looks.length d2, .int .i64 wrong, .slice B4 needs.length d4] 26 (0, 0))) ∧ Aside0 (Below w.heap.size w wr))
      case atStart => exact ⟨0, Nat.zero_le _, by omega, rfl, rfl, BA4, BB4, HW4⟩
      case round =>
        clear BA4 BB4 HW4
        obtain ⟨k, hk, hgk, rfl, rfl, BA4, BB4, HW4⟩ := hrel
        have hx2 := (blk_cell BA4.out 2).trans rfl
        have hy2 := (blk_cell BB4.out 2).trans rfl
        by_cases hlt : k < looks.length
        · have hlz : (k : Int) < (looks.length : Int) := by omega
          obtain ⟨ad, e, hp0, hp1⟩ := at_T61 HA2.out (k : Int) (by omega) hlz
          cases e
          obtain ⟨bd, e, hq0, hq1⟩ := at_T61 HB2.out (k : Int) (by omega) hlz
          cases e
          rw [Int.toNat_natCast] at hp0 hp1 hq0 hq1
          replace hp0 := (HW4.out.cell (World.block_lt_of_cell? w _ hp0)).trans hp0
          replace hp1 := (HW4.out.cell (World.block_lt_of_cell? w _ hp1)).trans hp1
          replace hq0 := (HW4.out.cell (World.block_lt_of_cell? w _ hq0)).trans hq0
          replace hq1 := (HW4.out.cell (World.block_lt_of_cell? w _ hq1)).trans hq1
          generalize rd_T61 looks (k : Int) = y at *
          go_upto_region 10 with (fail)
          go_quiet (fail)
          go_wp2
          go_roundg (looks.length - (k + 1))
          case measure => omega
          case rel => exact ⟨k + 1, by omega, by omega, by first | rfl | simp, by go_num, ⟨by first | exact BA4.out | exact blk_drewN BA4.out _⟩, ⟨by first | exact BB4.out | exact blk_drewN BB4.out _⟩, ⟨pw_below_drewN HW4.out _⟩⟩
        · have : k = looks.length := by omega
          subst this
          go_wp2
          go_ret
          exact ⟨rfl, HW4.out⟩
end Go.Proofs.Ytkkmfcdikkiodaa.PC4
namespace Go.Proofs.Ytkkmfcdikkiodaa.PC4
set_option linter.unusedVariables false
open Go.RowKit Go.Proofs.YtkkmfcdikkiodaaW.PrintWords Go.Proofs.YtkkmfcdikkiodaaW.PrintLast Go.Proofs.YtkkmfcdikkiodaaW.PrintMore
def feedX (s x : Int) : Int := Go.bits .xor .u64 s (IntKind.u64.wrap (IntKind.u64.wrap x * 15485907386658061715))
def feedAll (l : List Int) : Int := l.foldl (fun s x => feedN (feedX s x)) 88172645463325252
def swarfkit_FeedOf.f (l0 : List Int) : Option (Int) := if l0.length ≤ 140737488351232 then some (feedAll l0) else none
structure FeedNew (w0 w W : World) (g : Nat) (x : Int) : Prop where
  is : IsS79 w0 W g x
  be : Below w0.heap.size w0 W
  bw : Below w.heap.size w W
  ge : w.heap.size ≤ g
theorem FeedNew.next {w0 w W : World} {g : Nat} {x : Int} (h : FeedNew w0 w W g x) (y : Int) : FeedNew w0 w (W.setCell ⟨g, 0, none⟩ (.int .u64 y)) g y :=
  ⟨h.is.set_0 y, below_set h.be h.is.ge, below_set h.bw h.ge, h.ge⟩
theorem FeedNew.drew {w0 w W : World} {g : Nat} {x : Int} (h : FeedNew w0 w W g x) : FeedNew w0 w W.drew g x := ⟨h.is.drew, h.be.drew, h.bw.drew, h.ge⟩
theorem below_next {w0 w w1 w2 : World} {g : Nat} (hb : Below w.heap.size w w1) (h1 : Below w0.heap.size w0 w1) (h2 : Below w0.heap.size w0 w2) (hk : KeepBut w1 w2 g none) (hg : w.heap.size ≤ g) : Below w.heap.size w w2 :=
  ⟨(h2.os.trans h1.os.symm).trans hb.os, (h2.tape.trans h1.tape.symm).trans hb.tape, (h2.output.trans h1.output.symm).trans hb.output, Nat.le_trans hb.size hk.1,
    fun k hlt => (hk.2 k (Nat.lt_of_lt_of_le hlt hb.size) (by omega) (by simp)).trans (hb.block k hlt)⟩
theorem feedAll_step (l : List Int) (i : Nat) (h : i < l.length) : feedAll (l.take (i + 1)) = feedN (feedX (feedAll (l.take i)) (rd l (i : Int))) := by
  unfold feedAll
  rw [List.take_succ_eq_append_getElem h, List.foldl_append]
  simp [rd, List.getD, h]
set_option maxHeartbeats 4000000 in
set_option maxRecDepth 100000 in
theorem swarfkit_FeedOf.calls (A0 : Option Addr) (c0 : Nat) (l0 : List Int) (r : Int) (w0 w : World) (hB : Below w0.heap.size w0 w) (hr0 : Kd.C (Kd.int .i64) w0 A0 l0.length l0) (hc0 : l0.length ≤ c0) (h : swarfkit_FeedOf.f l0 = some r) :
    Calls Try.prog 18 #[.slice A0 l0.length c0] w fun e w' => ∃ g_ : Nat, e = .returned (.pointer (some ⟨g_, 0, none⟩)) ∧ IsS79 w0 w' g_ r ∧ Below w0.heap.size w0 w' ∧ Below w.heap.size w w' := by
  simp only [swarfkit_FeedOf.f] at h
  by_cases hl : l0.length ≤ 140737488351232
  case neg => rw [if_neg hl] at h; cases h
  rw [if_pos hl] at h
  obtain rfl := Option.some.inj h
  clear h
  have hu79 := Try.underlying79
  have HB := Aside0.mk hB
  have HR0 := Aside0.mk hr0
  clear hB hr0
  go_enter Try.func18, Try.ntmps18
  go_wp2
  have F := Aside0.mk (FeedNew.mk (IsS79.new w0 w (88172645463325252) HB.out) (below_alloc HB.out _) (below_alloc (Below.refl _ _) _) (Nat.le_refl _))
  go_loopw [4] (fun i wr => ∃ k : Nat, k ≤ l0.length ∧ i = .int .i64 k ∧ Aside0 (FeedNew w0 w wr w.heap.size (feedAll (l0.take k)))) (fun i _ => l0.length - (intOf i).toNat)
  case atStart => exact ⟨0, Nat.zero_le _, rfl, F⟩
  case round =>
    clear F
    obtain ⟨k, hk, rfl, F⟩ := hrel
    have hcell := (blk_cell F.out.is.1 0).trans rfl
    have hfree := blk_frozen F.out.is.1 0
    by_cases hlt : k < l0.length
    · have hlz : (k : Int) < (l0.length : Int) := by omega
      obtain ⟨ad, e, hx⟩ := Kd.at_int HR0.out (k : Int) (by omega) hlz
      cases e
      rw [Int.toNat_natCast] at hx
      replace hx := (F.out.be.cell (World.block_lt_of_cell? w0 _ hx)).trans hx
      have HF := Aside0.mk (feedAll_step l0 k hlt)
      generalize feedAll (l0.take k) = s at *
      generalize rd l0 (k : Int) = x at *
      go_wp2
      go_region
      clear hcell hfree hx
      have F1 := Aside0.mk (F.out.next (feedX s x)).drew
      generalize hx1 : bits BinOp.xor IntKind.u64 s (IntKind.u64.wrap (IntKind.u64.wrap x * 15485907386658061715)) = x1
      have hy1 : feedX s x = x1 := hx1
      rw [hy1] at F1 HF
      generalize hw1 : (wr.setCell ⟨w.heap.size, 0, none⟩ (.int .u64 x1)).drew = w1
      rw [hw1] at F1
      clear hx1 hw1 hy1 F
      have HC := Aside0.mk (swarfkit_Feed_next.calls w.heap.size x1 (feedM (feedN x1)) (feedN x1) w0 w1 F1.out.is F1.out.be rfl)
      go_wp2_with (go_at_call 56; refine HC.out.mono ?_; rintro e w2 ⟨rfl, hI2, hB2, hK2⟩; have F2 := Aside0.mk (FeedNew.mk hI2 hB2 (below_next F1.out.bw F1.out.be hB2 hK2 F1.out.ge) F1.out.ge); clear hI2 hB2 hK2 HC)
      go_roundw
      case rel => exact ⟨k + 1, by omega, by go_num, by rw [HF.out]; exact F2⟩
      case measure => simp [intOf]; omega
    · have : k = l0.length := by omega
      subst this
      go_wp2
      go_ret
      rw [List.take_length] at F
      exact ⟨_, rfl, F.out.is, F.out.be, F.out.bw⟩
end Go.Proofs.Ytkkmfcdikkiodaa.PC4
namespace Go.Proofs.Ytkkmfcdikkiodaa.PC4
set_option linter.unusedVariables false
set_option linter.unusedSimpArgs false
open Go.RowKit Go.Proofs.YtkkmfcdikkiodaaW.PrintWords Go.Proofs.YtkkmfcdikkiodaaW.PrintLast Go.Proofs.YtkkmfcdikkiodaaW.PrintMore
theorem S_agg {w : World} {base : Nat} {v0 v2 v4 : Value} {r1 : List S50} {r3 : List S61} {r5 : List Int} {o1 o2 o3 : Nat → Prop} (ho0 : Kd.S k50 50 w base o1 v0 r1) (ho1 : Kd.R k61 61 w base o2 v2 r3) (ho2 : Kd.R (Kd.int .i64) 3 w base o3 v4 r5) :
    ∃ m0 d0 m2 d2 m4 d4, v0 = .slice m0 r1.length d0 ∧ v2 = .slice m2 r3.length d2 ∧ v4 = .slice m4 r5.length d4 ∧ Kd.C k50 w m0 r1.length r1 ∧ r1.length ≤ d0 ∧ Kd.C k61 w m2 r3.length r3 ∧ r3.length ≤ d2 ∧ Kd.C (Kd.int .i64) w m4 r5.length r5 ∧ r5.length ≤ d4 := by
  obtain ⟨m0, d0, rfl⟩ := Kd.S_slice ho0
  obtain ⟨m2, d2, rfl⟩ := Kd.R_slice ho1
  obtain ⟨m4, d4, rfl⟩ := Kd.R_slice ho2
  exact ⟨m0, d0, m2, d2, m4, d4, rfl, rfl, rfl, (Kd.S_reads' ho0).2.2, (Kd.S_reads' ho0).2.1, (Kd.R_reads' ho1).2.2, (Kd.R_reads' ho1).2.1, (Kd.R_reads' ho2).2.2, (Kd.R_reads' ho2).2.1⟩
structure CarV where
  A0 : Option Addr
  c0 : Nat
  parts : List S50
  swap : Int
  A2 : Option Addr
  c2 : Nat
  looks : List S61
  wrong : Int
  A4 : Option Addr
  c4 : Nat
  needs : List Int
structure CarV.Ok (x : CarV) (w : World) : Prop where
  p : Kd.C k50 w x.A0 x.parts.length x.parts
  pc : x.parts.length ≤ x.c0
  l : Kd.C k61 w x.A2 x.looks.length x.looks
  lc : x.looks.length ≤ x.c2
  n : Kd.C (Kd.int .i64) w x.A4 x.needs.length x.needs
  nc : x.needs.length ≤ x.c4
structure SameOK (x : CarV) : Prop where
  p : x.parts.length ≤ 1000000
  l : x.looks.length ≤ 1000000
  n : ∃ k, swarfkit_EqualInts.f k x.needs x.needs = some true
  b : ∀ p, p ∈ x.parts → ∃ k, swarfkit_EqualInts.f k p.f0 p.f0 = some true
structure WorksEq (x : CarV) : Prop where
  copy : ∃ k, swarfkit_CopyCar.f k x.parts x.swap x.looks x.wrong x.needs = some (x.parts, x.swap, x.looks, x.wrong, x.needs)
  work : ∃ a n e, strip_Work.f x.parts x.swap x.looks x.wrong x.needs = some (a, n, e) ∧ (∃ k, swarfref04_Work.f k x.parts x.swap x.looks x.wrong x.needs = some (a, n, e)) ∧ ∃ k, swarfkit_EqualInts.f k a a = some true
  same : SameOK x
theorem cells_at {w : World} {g t : Nat} {cs : Array Value} (hb : w.heap[g]? = some (.cells cs t (0, 0))) (o : Nat) (ys : Array Value) (h : ∀ j v, ys[j]? = some v → cs[o + j]? = some v) : ∀ j v, ys[j]? = some v → w.cell? ⟨g, o + j, none⟩ = some v :=
  fun j v hj => (blk_cell hb (o + j)).trans (h j v hj)
theorem CarV.Ok.below {x : CarV} {w w' : World} (h : x.Ok w) (hb : Below w.heap.size w w') : x.Ok w' :=
  ⟨Kd.C_below h.p hb, h.pc, Kd.C_below h.l hb, h.lc, Kd.C_below h.n hb, h.nc⟩
set_option maxHeartbeats 8000000 in
set_option maxRecDepth 100000 in
theorem works_walk (x : CarV) (A1 : Option Addr) (c1 : Nat) (l1 : List Int) (w : World) (hx : x.Ok w) (hr1 : Kd.C (Kd.int .i64) w A1 l1.length l1) (hc1 : l1.length ≤ c1)
    (hu : ∃ k, swarflaw04_huge.f k x.parts x.swap x.looks x.wrong x.needs = some false) (h6 : x.parts.length ≤ 6 ∨ 6 < x.parts.length ∧ ∃ k e, swarfref04_Check.f k x.parts x.swap x.looks x.wrong x.needs = some e ∧ e ≠ 0)
    {feed f2 : Int} {kc : Nat} {mp : List S50} {ms : Int} {ml : List S61} {mw : Int} {mn_ : List Int} {st : List Bool} (hf : swarfkit_FeedOf.f l1 = some feed) (hcar : swarfkit_CarOf.f kc feed 6 4 = some (mp, ms, ml, mw, mn_, st, f2))
    (hqx : WorksEq x) (hqm : ∀ m0 d0 m2 d2 m4 d4, WorksEq ⟨m0, d0, mp, ms, m2, d2, ml, mw, m4, d4, mn_⟩) {ka : Nat} (ha : swarflaw04_awake.f ka = some true) :
    Calls Try.prog 3 #[.agg #[.slice x.A0 x.parts.length x.c0, .int .i64 x.swap, .slice x.A2 x.looks.length x.c2, .int .i64 x.wrong, .slice x.A4 x.needs.length x.c4], .slice A1 l1.length c1] w fun e w' => e = .returned (.bool true) ∧ Below w.heap.size w w' := by
  have hu26 := Try.underlying26
  obtain ⟨ku, hu⟩ := hu
  have HX := Aside0.mk hx
  have HU := Aside0.mk hu
  have HR1 := Aside0.mk hr1
  have HF := Aside0.mk hf
  have HC := Aside0.mk hcar
  have HQx := Aside0.mk hqx
  have HQm := Aside0.mk hqm
  have HA := Aside0.mk ha
  clear hx hu hr1 hf hcar hqx hqm ha
  go_enter Try.func3, Try.ntmps3
  go_wp2_with ((with_reducible refine gate_dst (N := 2) rfl ?_); refine box_event ?hg (N := 2) ?hd (cs := #[.slice x.A0 x.parts.length x.c0, .int .i64 x.swap, .slice x.A2 x.looks.length x.c2, .int .i64 x.wrong, .slice x.A4 x.needs.length x.c4]) (t := 26) ?hr ?_; (case hd => rfl); (case hg => rfl); (case hr => first | (go_simp; done) | (go_simp; rfl)); intro gb hg w2 hbox hb2; have hz0_ := (blk_cell hbox 0).trans rfl; have hz1_ := (blk_cell hbox 1).trans rfl; have hz2_ := (blk_cell hbox 2).trans rfl; have hz3_ := (blk_cell hbox 3).trans rfl; have hz4_ := (blk_cell hbox 4).trans rfl; have BK := Aside0.mk hbox; have HB := Aside0.mk hb2; have HG := Aside0.mk hg; clear hg hbox hb2)
  refine (swarflaw04_huge.calls ku x.A0 x.c0 x.parts x.swap x.A2 x.c2 x.looks x.wrong x.A4 x.c4 x.needs false w2 (HX.out.below HB.out).p HX.out.pc (HX.out.below HB.out).l HX.out.lc (HX.out.below HB.out).n HX.out.nc HU.out).mono ?_
  rintro e w3 ⟨rfl, hb3⟩
  have HB3 := Aside0.mk (below_step HB.out hb3)
  have BK3 := Aside0.mk (blk_below BK.out hb3)
  clear hz0_ hz1_ hz2_ hz3_ hz4_ hb3 HB BK
  have hz0_ := (blk_cell BK3.out 0).trans rfl
  have hz1_ := (blk_cell BK3.out 1).trans rfl
  have hz2_ := (blk_cell BK3.out 2).trans rfl
  have hz3_ := (blk_cell BK3.out 3).trans rfl
  have hz4_ := (blk_cell BK3.out 4).trans rfl
  rcases h6 with h6 | ⟨h6, kk, ee, hck, hne⟩
  all_goals
    first
      | (
        have h6b : decide ((6 : Int) < (x.parts.length : Int)) = false := decide_eq_false (by omega)
        go_wp2_with (fail)
        clear h6b h6)
      | (
        have HCK := Aside0.mk hck
        have hnb : (ee == 0) = false := beq_eq_false_iff_ne.2 hne
        clear hck hne
        have h6b : decide ((6 : Int) < (x.parts.length : Int)) = true := decide_eq_true (by omega)
        go_wp2_with (fail)
        refine (swarfref04_Check.calls kk x.A0 x.c0 x.parts x.swap x.A2 x.c2 x.looks x.wrong x.A4 x.c4 x.needs ee w3 (HX.out.below HB3.out).p HX.out.pc (HX.out.below HB3.out).l HX.out.lc (HX.out.below HB3.out).n HX.out.nc HCK.out).mono ?_
        rintro e w3 ⟨rfl, hb4⟩
        have HBn := Aside0.mk (below_step HB3.out hb4)
        have BKn := Aside0.mk (blk_below BK3.out hb4)
        clear hz0_ hz1_ hz2_ hz3_ hz4_ hb4 HB3 BK3
        have hz0_ := (blk_cell BKn.out 0).trans rfl
        have hz1_ := (blk_cell BKn.out 1).trans rfl
        have hz2_ := (blk_cell BKn.out 2).trans rfl
        have hz3_ := (blk_cell BKn.out 3).trans rfl
        have hz4_ := (blk_cell BKn.out 4).trans rfl
        go_wp2_with (fail)
        have HB3 := HBn
        have BK3 := BKn
        clear HBn BKn
        clear h6b hnb h6)
    refine (swarfkit_FeedOf.calls A1 c1 l1 feed w3 w3 (Below.refl _ _) (Kd.C_below HR1.out HB3.out) hc1 HF.out).mono ?_
    rintro e w4 ⟨g, rfl, hi4, hb4, _⟩
    have HI4 := Aside0.mk hi4
    have BK4 := Aside0.mk (blk_below BK3.out hb4)
    have HB4 := Aside0.mk hb4
    clear hz0_ hz1_ hz2_ hz3_ hz4_ hi4 hb4
    go_wp2_with (fail)
    refine (swarfkit_CarOf.calls kc g feed 6 4 mp ms ml mw mn_ st f2 w3 w4 HI4.out HB4.out HC.out).mono ?_
    rintro e w5 ⟨v0, v2, v4, v5, rfl, ho0, ho1, ho2, ho3, _, hb5, _⟩
    obtain ⟨m0, d0, rfl⟩ := Kd.S_slice ho0
    obtain ⟨m2, d2, rfl⟩ := Kd.R_slice ho1
    obtain ⟨m4, d4, rfl⟩ := Kd.R_slice ho2
    obtain ⟨m5, d5, rfl⟩ := Kd.R_slice ho3
    have MX := Aside0.mk (show (⟨m0, d0, mp, ms, m2, d2, ml, mw, m4, d4, mn_⟩ : CarV).Ok w5 from ⟨(Kd.S_reads' ho0).2.2, (Kd.S_reads' ho0).2.1, (Kd.R_reads' ho1).2.2, (Kd.R_reads' ho1).2.1, (Kd.R_reads' ho2).2.2, (Kd.R_reads' ho2).2.1⟩)
    have BK5 := Aside0.mk (blk_below BK3.out hb5)
    have HB5 := Aside0.mk (below_step HB3.out hb5)
    clear ho0 ho1 ho2 ho3 hb5 BK4 HB4 HI4 BK3 HB3
    go_upto_region 4 with (fail)
    obtain ⟨gm, hgm⟩ : ∃ b, b = w5.heap.size := ⟨_, rfl⟩
    have BM := Aside0.mk (blk_new w5 (.cells #[.slice m0 mp.length d0, .int .i64 ms, .slice m2 ml.length d2, .int .i64 mw, .slice m4 mn_.length d4] 26 (0, 0)))
    have hbw : Below w5.heap.size w5 (w5.alloc (.cells #[.slice m0 mp.length d0, .int .i64 ms, .slice m2 ml.length d2, .int .i64 mw, .slice m4 mn_.length d4] 26 (0, 0))) := below_alloc (Below.refl _ _) _
    generalize hw6 : w5.alloc (.cells #[.slice m0 mp.length d0, .int .i64 ms, .slice m2 ml.length d2, .int .i64 mw, .slice m4 mn_.length d4] 26 (0, 0)) = w6 at *
    rw [← hgm] at BM ⊢
    have BK6 := Aside0.mk (blk_below BK5.out hbw)
    have HB6 := Aside0.mk (below_step HB5.out hbw)
    have MX6 := Aside0.mk (MX.out.below hbw)
    clear hbw hw6 hgm BK5 HB5 MX
    have hz0_ := (blk_cell BK6.out 0).trans rfl
    have hz1_ := (blk_cell BK6.out 1).trans rfl
    have hz2_ := (blk_cell BK6.out 2).trans rfl
    have hz3_ := (blk_cell BK6.out 3).trans rfl
    have hz4_ := (blk_cell BK6.out 4).trans rfl
    have hy0_ := (blk_cell BM.out 0).trans rfl
    have hy1_ := (blk_cell BM.out 1).trans rfl
    have hy2_ := (blk_cell BM.out 2).trans rfl
    have hy3_ := (blk_cell BM.out 3).trans rfl
    have hy4_ := (blk_cell BM.out 4).trans rfl
    go_wp2
    obtain ⟨ga, hga⟩ : ∃ b, b = w6.heap.size := ⟨_, rfl⟩
    have BA := Aside0.mk (blk_new w6 (.cells #[.slice x.A0 x.parts.length x.c0, .int .i64 x.swap, .slice x.A2 x.looks.length x.c2, .int .i64 x.wrong, .slice x.A4 x.needs.length x.c4, .slice m0 mp.length d0, .int .i64 ms, .slice m2 ml.length d2, .int .i64 mw, .slice m4 mn_.length d4] 26 (0, 0)))
    have hbw : Below w6.heap.size w6 (w6.alloc (.cells #[.slice x.A0 x.parts.length x.c0, .int .i64 x.swap, .slice x.A2 x.looks.length x.c2, .int .i64 x.wrong, .slice x.A4 x.needs.length x.c4, .slice m0 mp.length d0, .int .i64 ms, .slice m2 ml.length d2, .int .i64 mw, .slice m4 mn_.length d4] 26 (0, 0))) := below_alloc (Below.refl _ _) _
    generalize hw7 : w6.alloc (.cells #[.slice x.A0 x.parts.length x.c0, .int .i64 x.swap, .slice x.A2 x.looks.length x.c2, .int .i64 x.wrong, .slice x.A4 x.needs.length x.c4, .slice m0 mp.length d0, .int .i64 ms, .slice m2 ml.length d2, .int .i64 mw, .slice m4 mn_.length d4] 26 (0, 0)) = w7 at *
    rw [← hga] at BA ⊢
    have HB7 := Aside0.mk (below_step HB6.out hbw)
    have X7 := Aside0.mk (HX.out.below HB7.out)
    have M7 := Aside0.mk (MX6.out.below hbw)
    clear hbw hw7 hga BK6 HB6 MX6 BM hz0_ hz1_ hz2_ hz3_ hz4_ hy0_ hy1_ hy2_ hy3_ hy4_
    have HE : Aside0 (∀ k : Nat, k < 2 → ∃ y : CarV, y.Ok w7 ∧ WorksEq y ∧ ∀ j v, (#[.slice y.A0 y.parts.length y.c0, .int .i64 y.swap, .slice y.A2 y.looks.length y.c2, .int .i64 y.wrong, .slice y.A4 y.needs.length y.c4] : Array Value)[j]? = some v → w7.cell? ⟨ga, k * 5 + j, none⟩ = some v) := by
      refine ⟨fun k hk => ?_⟩
      by_cases h0 : k = 0
      · subst h0
        refine ⟨x, X7.out, HQx.out, cells_at BA.out _ _ (fun j v hj => ?_)⟩
        rcases j with _ | _ | _ | _ | _ | j <;> first | exact hj | (simp at hj)
      · have h1 : k = 1 := by omega
        subst h1
        refine ⟨⟨m0, d0, mp, ms, m2, d2, ml, mw, m4, d4, mn_⟩, M7.out, HQm.out _ _ _ _ _ _, cells_at BA.out _ _ (fun j v hj => ?_)⟩
        rcases j with _ | _ | _ | _ | _ | j <;> first | exact hj | (simp at hj)
    clear BA
    go_loopg [8] 2 (fun gk v8 wr => ∃ k : Nat, k ≤ 2 ∧ 2 - k ≤ gk ∧ v8 = .int .i64 k ∧ Aside0 (Below w7.heap.size w7 wr))
    case atStart => exact ⟨0, by omega, by omega, rfl, ⟨Below.refl _ _⟩⟩
    case round =>
      obtain ⟨k, hk, hgk, rfl, HBr⟩ := hrel
      by_cases hlt : k < 2
      · obtain ⟨y, hy, hq, hcells⟩ := HE.out k hlt
        have hlz : (k : Int) < 2 := by omega
        have YO := Aside0.mk hy
        have YQ := Aside0.mk hq
        have hc0 := (HBr.out.cell (World.block_lt_of_cell? w7 _ (hcells 0 _ rfl))).trans (hcells 0 _ rfl)
        have hc1 := (HBr.out.cell (World.block_lt_of_cell? w7 _ (hcells 1 _ rfl))).trans (hcells 1 _ rfl)
        have hc2 := (HBr.out.cell (World.block_lt_of_cell? w7 _ (hcells 2 _ rfl))).trans (hcells 2 _ rfl)
        have hc3 := (HBr.out.cell (World.block_lt_of_cell? w7 _ (hcells 3 _ rfl))).trans (hcells 3 _ rfl)
        have hc4 := (HBr.out.cell (World.block_lt_of_cell? w7 _ (hcells 4 _ rfl))).trans (hcells 4 _ rfl)
        rw [Nat.add_zero] at hc0
        clear hy hq hcells
        obtain ⟨kc_, hcopy⟩ := YQ.out.copy
        obtain ⟨a, n, e_, hwk, ⟨kr, hrf⟩, ⟨ke, heq⟩⟩ := YQ.out.work
        have hsame := YQ.out.same
        have FC := Aside0.mk hcopy
        have FW := Aside0.mk hwk
        have FR := Aside0.mk hrf
        have FE := Aside0.mk heq
        have FS := Aside0.mk hsame
        clear hcopy hwk hrf heq hsame YQ
        go_wp2_with (fail)
        have YOr := Aside0.mk (YO.out.below HBr.out)
        refine (swarfkit_CopyCar.calls kc_ y.A0 y.c0 y.parts y.swap y.A2 y.c2 y.looks y.wrong y.A4 y.c4 y.needs y.parts y.swap y.looks y.wrong y.needs wr YOr.out.p YOr.out.pc YOr.out.l YOr.out.lc YOr.out.n YOr.out.nc FC.out).mono ?_
        rintro e w8 ⟨v0, v2, v4, rfl, ho0, ho1, ho2, hb8⟩
        obtain ⟨m0, d0, m2, d2, m4, d4, rfl, rfl, rfl, hC0, hl0, hC2, hl2, hC4, hl4⟩ := S_agg ho0 ho1 ho2
        have OX := Aside0.mk (show (⟨m0, d0, y.parts, y.swap, m2, d2, y.looks, y.wrong, m4, d4, y.needs⟩ : CarV).Ok w8 from ⟨hC0, hl0, hC2, hl2, hC4, hl4⟩)
        have hb8' := below_step HBr.out hb8
        replace hc0 := (hb8.cell (World.block_lt_of_cell? wr _ hc0)).trans hc0
        replace hc1 := (hb8.cell (World.block_lt_of_cell? wr _ hc1)).trans hc1
        replace hc2 := (hb8.cell (World.block_lt_of_cell? wr _ hc2)).trans hc2
        replace hc3 := (hb8.cell (World.block_lt_of_cell? wr _ hc3)).trans hc3
        replace hc4 := (hb8.cell (World.block_lt_of_cell? wr _ hc4)).trans hc4
        have HB8 := Aside0.mk hb8'
        clear hb8 hb8' HBr YOr ho0 ho1 ho2 hC0 hl0 hC2 hl2 hC4 hl4
        go_upto_region 9 with (fail)
        obtain ⟨go, hgo⟩ : ∃ b, b = w8.heap.size := ⟨_, rfl⟩
        have BO := Aside0.mk (blk_new w8 (.cells #[.slice m0 y.parts.length d0, .int .i64 y.swap, .slice m2 y.looks.length d2, .int .i64 y.wrong, .slice m4 y.needs.length d4] 26 (0, 0)))
        have hbw : Below w8.heap.size w8 (w8.alloc (.cells #[.slice m0 y.parts.length d0, .int .i64 y.swap, .slice m2 y.looks.length d2, .int .i64 y.wrong, .slice m4 y.needs.length d4] 26 (0, 0))) := below_alloc (Below.refl _ _) _
        generalize hw9 : w8.alloc (.cells #[.slice m0 y.parts.length d0, .int .i64 y.swap, .slice m2 y.looks.length d2, .int .i64 y.wrong, .slice m4 y.needs.length d4] 26 (0, 0)) = w9 at *
        rw [← hgo] at BO ⊢
        have HB9 := Aside0.mk (below_step HB8.out hbw)
        have OX9 := Aside0.mk (OX.out.below hbw)
        replace hc0 := (hbw.cell (World.block_lt_of_cell? w8 _ hc0)).trans hc0
        replace hc1 := (hbw.cell (World.block_lt_of_cell? w8 _ hc1)).trans hc1
        replace hc2 := (hbw.cell (World.block_lt_of_cell? w8 _ hc2)).trans hc2
        replace hc3 := (hbw.cell (World.block_lt_of_cell? w8 _ hc3)).trans hc3
        replace hc4 := (hbw.cell (World.block_lt_of_cell? w8 _ hc4)).trans hc4
        clear hbw hw9 hgo HB8 OX
        have ho0_ := (blk_cell BO.out 0).trans rfl
        have ho1_ := (blk_cell BO.out 1).trans rfl
        have ho2_ := (blk_cell BO.out 2).trans rfl
        have ho3_ := (blk_cell BO.out 3).trans rfl
        have ho4_ := (blk_cell BO.out 4).trans rfl
        go_wp2_with (fail)
        refine (strip_Work.calls m0 d0 y.parts y.swap m2 d2 y.looks y.wrong m4 d4 y.needs a n e_ w9 OX9.out.p OX9.out.pc OX9.out.l OX9.out.lc OX9.out.n OX9.out.nc FW.out).mono ?_
        rintro e w10 ⟨va, rfl, hra, hb10⟩
        obtain ⟨Aa, ca, rfl⟩ := Kd.R_slice hra
        have RA := Aside0.mk (Kd.R_reads' hra).2.2
        have la := (Kd.R_reads' hra).2.1
        replace hc0 := (hb10.cell (World.block_lt_of_cell? w9 _ hc0)).trans hc0
        replace hc1 := (hb10.cell (World.block_lt_of_cell? w9 _ hc1)).trans hc1
        replace hc2 := (hb10.cell (World.block_lt_of_cell? w9 _ hc2)).trans hc2
        replace hc3 := (hb10.cell (World.block_lt_of_cell? w9 _ hc3)).trans hc3
        replace hc4 := (hb10.cell (World.block_lt_of_cell? w9 _ hc4)).trans hc4
        have BO10 := Aside0.mk (blk_below BO.out hb10)
        have HB10 := Aside0.mk (below_step HB9.out hb10)
        have OX10 := Aside0.mk (OX9.out.below hb10)
        clear hra hb10 ho0_ ho1_ ho2_ ho3_ ho4_ BO HB9 OX9
        go_wp2_with (fail)
        have YO10 := Aside0.mk (YO.out.below HB10.out)
        refine (swarfref04_Work.calls kr y.A0 y.c0 y.parts y.swap y.A2 y.c2 y.looks y.wrong y.A4 y.c4 y.needs a n e_ w10 YO10.out.p YO10.out.pc YO10.out.l YO10.out.lc YO10.out.n YO10.out.nc FR.out).mono ?_
        rintro e w11 ⟨vb, rfl, hrb, hb11⟩
        obtain ⟨Ab, cb, rfl⟩ := Kd.V_slice hrb
        have RB := Aside0.mk (Kd.V_reads' hrb).2.2
        have lb := (Kd.V_reads' hrb).2.1
        have RA11 := Aside0.mk (Kd.C_below RA.out hb11)
        replace hc0 := (hb11.cell (World.block_lt_of_cell? w10 _ hc0)).trans hc0
        replace hc1 := (hb11.cell (World.block_lt_of_cell? w10 _ hc1)).trans hc1
        replace hc2 := (hb11.cell (World.block_lt_of_cell? w10 _ hc2)).trans hc2
        replace hc3 := (hb11.cell (World.block_lt_of_cell? w10 _ hc3)).trans hc3
        replace hc4 := (hb11.cell (World.block_lt_of_cell? w10 _ hc4)).trans hc4
        have BO11 := Aside0.mk (blk_below BO10.out hb11)
        have HB11 := Aside0.mk (below_step HB10.out hb11)
        have OX11 := Aside0.mk (OX10.out.below hb11)
        have YO11 := Aside0.mk (YO10.out.below hb11)
        clear hrb hb11 BO10 HB10 OX10 YO10 RA
        have ho0_ := (blk_cell BO11.out 0).trans rfl
        have ho1_ := (blk_cell BO11.out 1).trans rfl
        have ho2_ := (blk_cell BO11.out 2).trans rfl
        have ho3_ := (blk_cell BO11.out 3).trans rfl
        have ho4_ := (blk_cell BO11.out 4).trans rfl
        go_upto_region 11 with (fail)
        have hd := below_drew1 (Below.refl w11.heap.size w11)
        have RA12 := Aside0.mk (Kd.C_below RA11.out hd)
        have RB12 := Aside0.mk (Kd.C_below RB.out hd)
        have HB12 := Aside0.mk (below_step HB11.out hd)
        have OX12 := Aside0.mk (OX11.out.below hd)
        have YO12 := Aside0.mk (YO11.out.below hd)
        clear hd RA11 RB HB11 OX11 YO11
        refine start_ (n := 23) (S := fun w' => w'.cell? ⟨go, 0, none⟩ = some (.slice m0 y.parts.length d0) ∧ w'.cell? ⟨go, 1, none⟩ = some (.int .i64 y.swap) ∧ w'.cell? ⟨go, 2, none⟩ = some (.slice m2 y.looks.length d2) ∧ w'.cell? ⟨go, 3, none⟩ = some (.int .i64 y.wrong) ∧ w'.cell? ⟨go, 4, none⟩ = some (.slice m4 y.needs.length d4) ∧ w'.cell? ⟨ga, k * 5, none⟩ = some (.slice y.A0 y.parts.length y.c0) ∧ w'.cell? ⟨ga, k * 5 + 1, none⟩ = some (.int .i64 y.swap) ∧ w'.cell? ⟨ga, k * 5 + 2, none⟩ = some (.slice y.A2 y.looks.length y.c2) ∧ w'.cell? ⟨ga, k * 5 + 3, none⟩ = some (.int .i64 y.wrong) ∧ w'.cell? ⟨ga, k * 5 + 4, none⟩ = some (.slice y.A4 y.needs.length y.c4)) (ds := [20]) #[false, false, false, false, false, false, false, false, false, false, false, false, false, false, false, false, false, false, false, false, false, false, false] (by kernel_rfl) rfl rfl ⟨(blk_cell BO11.out 0).trans rfl, (blk_cell BO11.out 1).trans rfl, (blk_cell BO11.out 2).trans rfl, (blk_cell BO11.out 3).trans rfl, (blk_cell BO11.out 4).trans rfl, hc0, hc1, hc2, hc3, hc4⟩ (fun hHeld => ?_)
        generalize w11.drew = w12 at RA12 RB12 HB12 OX12 YO12 hHeld ⊢
        refine pure_ (i := 0) (N := some 65) (v := ?_) (a' := ?_) #[true, false, false, false, false, false, false, false, false, false, false, false, false, false, false, false, false, false, false, false, false, false, false] rfl rfl (by kernel_rfl) (fun _ _ _ h => h) (Or.inl ⟨by rfl, ?_⟩) ?_ ?_
        rotate_left
        · intro w'
          go_simp
          with_reducible rfl
        rotate_left
        · simp only [Act.put, List.setIfInBounds_toArray, List.set_cons_zero, List.set_cons_succ, i64_w, i32_w]
          rfl
        refine pure_ (i := 1) (N := some 66) (v := ?_) (a' := ?_) #[true, true, false, false, false, false, false, false, false, false, false, false, false, false, false, false, false, false, false, false, false, false, false] rfl rfl (by kernel_rfl) (fun _ _ _ h => h) (Or.inl ⟨by rfl, ?_⟩) ?_ ?_
        rotate_left
        · intro w'
          go_simp
          with_reducible rfl
        rotate_left
        · simp only [Act.put, List.setIfInBounds_toArray, List.set_cons_zero, List.set_cons_succ, i64_w, i32_w]
          rfl
        refine pure_ (i := 2) (N := some 67) (v := ?_) (a' := ?_) #[true, true, true, false, false, false, false, false, false, false, false, false, false, false, false, false, false, false, false, false, false, false, false] rfl rfl (by kernel_rfl) (fun _ _ _ h => h) (Or.inl ⟨by rfl, ?_⟩) ?_ ?_
        rotate_left
        · intro w'
          go_simp
          with_reducible rfl
        rotate_left
        · simp only [Act.put, List.setIfInBounds_toArray, List.set_cons_zero, List.set_cons_succ, i64_w, i32_w]
          rfl
        refine pure_ (i := 3) (N := some 68) (v := ?_) (a' := ?_) #[true, true, true, true, false, false, false, false, false, false, false, false, false, false, false, false, false, false, false, false, false, false, false] rfl rfl (by kernel_rfl) (fun _ _ _ h => h) (Or.inl ⟨by rfl, ?_⟩) ?_ ?_
        rotate_left
        · intro w'
          go_simp
          with_reducible rfl
        rotate_left
        · simp only [Act.put, List.setIfInBounds_toArray, List.set_cons_zero, List.set_cons_succ, i64_w, i32_w]
          rfl
        refine pure_ (i := 4) (N := some 69) (v := ?_) (a' := ?_) #[true, true, true, true, true, false, false, false, false, false, false, false, false, false, false, false, false, false, false, false, false, false, false] rfl rfl (by kernel_rfl) (fun _ _ _ h => h) (Or.inl ⟨by rfl, ?_⟩) ?_ ?_
        rotate_left
        · intro w'
          go_simp
          with_reducible rfl
        rotate_left
        · simp only [Act.put, List.setIfInBounds_toArray, List.set_cons_zero, List.set_cons_succ, i64_w, i32_w]
          rfl
        refine pure_ (i := 5) (N := some 70) (v := ?_) (a' := ?_) #[true, true, true, true, true, true, false, false, false, false, false, false, false, false, false, false, false, false, false, false, false, false, false] rfl rfl (by kernel_rfl) (fun _ _ _ h => h) (Or.inl ⟨by rfl, ?_⟩) ?_ ?_
        rotate_left
        · intro w'
          go_simp
          with_reducible rfl
        rotate_left
        · simp only [Act.put, List.setIfInBounds_toArray, List.set_cons_zero, List.set_cons_succ, i64_w, i32_w]
          rfl
        refine pure_ (i := 6) (N := some 71) (v := ?_) (a' := ?_) #[true, true, true, true, true, true, true, false, false, false, false, false, false, false, false, false, false, false, false, false, false, false, false] rfl rfl (by kernel_rfl) (fun _ _ _ h => h) (Or.inl ⟨by rfl, ?_⟩) ?_ ?_
        rotate_left
        · intro w'
          go_simp
          with_reducible rfl
        rotate_left
        · simp only [Act.put, List.setIfInBounds_toArray, List.set_cons_zero, List.set_cons_succ, i64_w, i32_w]
          rfl
        refine pure_ (i := 7) (N := some 72) (v := ?_) (a' := ?_) #[true, true, true, true, true, true, true, true, false, false, false, false, false, false, false, false, false, false, false, false, false, false, false] rfl rfl (by kernel_rfl) (fun _ _ _ h => h) (Or.inl ⟨by rfl, ?_⟩) ?_ ?_
        rotate_left
        · intro w'
          go_simp
          with_reducible rfl
        rotate_left
        · simp only [Act.put, List.setIfInBounds_toArray, List.set_cons_zero, List.set_cons_succ, i64_w, i32_w]
          rfl
        refine pure_ (i := 8) (N := some 73) (v := ?_) (a' := ?_) #[true, true, true, true, true, true, true, true, true, false, false, false, false, false, false, false, false, false, false, false, false, false, false] rfl rfl (by kernel_rfl) (fun _ _ _ h => h) (Or.inl ⟨by rfl, ?_⟩) ?_ ?_
        rotate_left
        · intro w'
          go_simp
          with_reducible rfl
        rotate_left
        · simp only [Act.put, List.setIfInBounds_toArray, List.set_cons_zero, List.set_cons_succ, i64_w, i32_w]
          rfl
        refine pure_ (i := 9) (N := some 74) (v := ?_) (a' := ?_) #[true, true, true, true, true, true, true, true, true, true, false, false, false, false, false, false, false, false, false, false, false, false, false] rfl rfl (by kernel_rfl) (fun _ _ _ h => h) (Or.inl ⟨by rfl, ?_⟩) ?_ ?_
        rotate_left
        · intro w'
          go_simp
          with_reducible rfl
        rotate_left
        · simp only [Act.put, List.setIfInBounds_toArray, List.set_cons_zero, List.set_cons_succ, i64_w, i32_w]
          rfl
        refine pure_ (i := 10) (N := some 75) (v := ?_) (a' := ?_) #[true, true, true, true, true, true, true, true, true, true, true, false, false, false, false, false, false, false, false, false, false, false, false] rfl rfl (by kernel_rfl) (fun _ _ _ h => h) (Or.inl ⟨by rfl, ?_⟩) ?_ ?_
        rotate_left
        · intro w'
          go_simp
          with_reducible rfl
        rotate_left
        · simp only [Act.put, List.setIfInBounds_toArray, List.set_cons_zero, List.set_cons_succ, i64_w, i32_w]
          rfl
        refine one_ (i := 11) (N := some 76) #[true, true, true, true, true, true, true, true, true, true, true, true, false, false, false, false, false, false, false, false, false, false, false] rfl rfl (by kernel_rfl) (by decide) (fun K hK => ?_)
        refine goes_ Try.func22 (by kernel_rfl) rfl #[.slice Aa a.length ca, .slice Ab a.length cb] (by rfl) rfl rfl (by (try simp only [List.map_toArray, List.map_cons, List.map_nil]); first | done | rfl) ?_
        with_reducible refine (swarfkit_EqualInts.calls ke Aa ca a Ab cb a true _ RA12.out la RB12.out lb FE.out).mono ?_
        rintro e w13 ⟨rfl, ⟨m12, rfl⟩⟩
        refine ⟨_, rfl, ?_⟩
        refine hK.out _ _ ⟨hHeld.1, hHeld.2.1, hHeld.2.2.1, hHeld.2.2.2.1, hHeld.2.2.2.2.1, hHeld.2.2.2.2.2.1, hHeld.2.2.2.2.2.2.1, hHeld.2.2.2.2.2.2.2.1, hHeld.2.2.2.2.2.2.2.2.1, hHeld.2.2.2.2.2.2.2.2.2⟩ (fun hHeld => ?_)
        clear hK K
        refine norm_ (a' := ?_) ?_ ?_
        rotate_left
        · show Act.put _ (some 76) _ = _
          simp only [Act.put, List.setIfInBounds_toArray, List.set_cons_zero, List.set_cons_succ, i64_w, i32_w]
          rfl
        refine pure_ (i := 12) (N := some 77) (v := ?_) (a' := ?_) #[true, true, true, true, true, true, true, true, true, true, true, true, true, false, false, false, false, false, false, false, false, false, false] rfl rfl (by kernel_rfl) (fun _ _ _ h => h) (Or.inl ⟨by rfl, ?_⟩) ?_ ?_
        rotate_left
        · intro w'
          go_simp
          with_reducible rfl
        rotate_left
        · simp only [Act.put, List.setIfInBounds_toArray, List.set_cons_zero, List.set_cons_succ, i64_w, i32_w]
          rfl
        refine pure_ (i := 13) (N := some 78) (v := ?_) (a' := ?_) #[true, true, true, true, true, true, true, true, true, true, true, true, true, true, false, false, false, false, false, false, false, false, false] rfl rfl (by kernel_rfl) (fun _ _ _ h => h) (Or.inl ⟨by rfl, ?_⟩) ?_ ?_
        rotate_left
        · intro w'
          go_simp
          with_reducible rfl
        rotate_left
        · simp only [Act.put, List.setIfInBounds_toArray, List.set_cons_zero, List.set_cons_succ, i64_w, i32_w]
          rfl
        refine pure_ (i := 14) (N := some 79) (v := ?_) (a' := ?_) #[true, true, true, true, true, true, true, true, true, true, true, true, true, true, true, false, false, false, false, false, false, false, false] rfl rfl (by kernel_rfl) (fun _ _ _ h => h) (Or.inl ⟨by rfl, ?_⟩) ?_ ?_
        rotate_left
        · intro w'
          go_simp
          with_reducible rfl
        rotate_left
        · simp only [Act.put, List.setIfInBounds_toArray, List.set_cons_zero, List.set_cons_succ, i64_w, i32_w]
          rfl
        refine pure_ (i := 16) (N := some 81) (v := ?_) (a' := ?_) #[true, true, true, true, true, true, true, true, true, true, true, true, true, true, true, false, true, false, false, false, false, false, false] rfl rfl (by kernel_rfl) (fun _ _ _ h => h) (Or.inl ⟨by rfl, ?_⟩) ?_ ?_
        rotate_left
        · intro w'
          go_simp
          with_reducible rfl
        rotate_left
        · simp only [Act.put, List.setIfInBounds_toArray, List.set_cons_zero, List.set_cons_succ, i64_w, i32_w]
          rfl
        refine pure_ (i := 17) (N := some 82) (v := ?_) (a' := ?_) #[true, true, true, true, true, true, true, true, true, true, true, true, true, true, true, false, true, true, false, false, false, false, false] rfl rfl (by kernel_rfl) (fun _ _ _ h => h) (Or.inl ⟨by rfl, ?_⟩) ?_ ?_
        rotate_left
        · intro w'
          go_simp
          with_reducible rfl
        rotate_left
        · simp only [Act.put, List.setIfInBounds_toArray, List.set_cons_zero, List.set_cons_succ, i64_w, i32_w]
          rfl
        refine pure_ (i := 18) (N := some 83) (v := ?_) (a' := ?_) #[true, true, true, true, true, true, true, true, true, true, true, true, true, true, true, false, true, true, true, false, false, false, false] rfl rfl (by kernel_rfl) (fun _ _ _ h => h) (Or.inl ⟨by rfl, ?_⟩) ?_ ?_
        rotate_left
        · intro w'
          go_simp
          with_reducible rfl
        rotate_left
        · simp only [Act.put, List.setIfInBounds_toArray, List.set_cons_zero, List.set_cons_succ, i64_w, i32_w]
          rfl
        refine take_ (i := 15) (N := some 80) (v := ?_) (a' := ?_) #[true, true, true, true, true, true, true, true, true, true, true, true, true, true, true, true, true, true, true, false, false, false, false] rfl rfl (by kernel_rfl) (fun _ _ _ h => h) (Or.inl ⟨by rfl, ?_⟩) hHeld ?_ ?_
        rotate_left
        · rintro w' ⟨s0, s1, s2, s3, s4, s5, s6, s7, s8, s9⟩
          go_simp
          with_reducible rfl
        rotate_left
        · simp only [Act.put, List.setIfInBounds_toArray, List.set_cons_zero, List.set_cons_succ, i64_w, i32_w]
          rfl
        refine take_ (i := 19) (N := some 84) (v := ?_) (a' := ?_) #[true, true, true, true, true, true, true, true, true, true, true, true, true, true, true, true, true, true, true, true, false, false, false] rfl rfl (by kernel_rfl) (fun _ _ _ h => h) (Or.inl ⟨by rfl, ?_⟩) hHeld ?_ ?_
        rotate_left
        · rintro w' ⟨s0, s1, s2, s3, s4, s5, s6, s7, s8, s9⟩
          go_simp
          with_reducible rfl
        rotate_left
        · simp only [Act.put, List.setIfInBounds_toArray, List.set_cons_zero, List.set_cons_succ, i64_w, i32_w]
          rfl
        refine last_ (i := 20) (N := some 85) #[true, true, true, true, true, true, true, true, true, true, true, true, true, true, true, true, true, true, true, true, true, false, false] rfl rfl (by kernel_rfl) (by decide) (fun K hK => ?_)
        have hd13 := pw_below_drewN (Below.refl w12.heap.size w12) m12
        refine goes_ Try.func23 (by kernel_rfl) rfl #[.agg #[.slice m0 y.parts.length d0, .int .i64 y.swap, .slice m2 y.looks.length d2, .int .i64 y.wrong, .slice m4 y.needs.length d4], .agg #[.slice y.A0 y.parts.length y.c0, .int .i64 y.swap, .slice y.A2 y.looks.length y.c2, .int .i64 y.wrong, .slice y.A4 y.needs.length y.c4]] (by rfl) rfl rfl (by (try simp only [List.map_toArray, List.map_cons, List.map_nil]); first | done | rfl) ?_
        with_reducible refine (equalCars_same m0 d0 y.parts y.swap m2 d2 y.looks y.wrong m4 d4 y.needs y.A0 y.c0 y.A2 y.c2 y.A4 y.c4 _ (OX12.out.below hd13).p OX12.out.pc (OX12.out.below hd13).l OX12.out.lc (OX12.out.below hd13).n OX12.out.nc (YO12.out.below hd13).p YO12.out.pc (YO12.out.below hd13).l YO12.out.lc (YO12.out.below hd13).n YO12.out.nc FS.out.p FS.out.l FS.out.n FS.out.b).mono ?_
        rintro e w14 ⟨rfl, hb14⟩
        have HB14 := Aside0.mk (below_step (below_step HB12.out hd13) hb14)
        clear hb14 hd13
        refine ⟨_, rfl, ?_⟩
        refine hK.out _ _ ?_
        clear hK K
        refine norm_ (a' := ?_) ?_ ?_
        rotate_left
        · show Act.put _ (some 85) _ = _
          simp only [Act.put, List.setIfInBounds_toArray, List.set_cons_zero, List.set_cons_succ, i64_w, i32_w]
          rfl
        refine pure_ (i := 21) (N := some 86) (v := ?_) (a' := ?_) #[true, true, true, true, true, true, true, true, true, true, true, true, true, true, true, true, true, true, true, true, true, true, false] rfl rfl (by kernel_rfl) (fun _ _ _ h => h) (Or.inl ⟨by rfl, ?_⟩) ?_ ?_
        rotate_left
        · intro w'
          go_simp
          with_reducible rfl
        rotate_left
        · simp only [Act.put, List.setIfInBounds_toArray, List.set_cons_zero, List.set_cons_succ, i64_w, i32_w]
          rfl
        refine pure_ (i := 22) (N := some 87) (v := ?_) (a' := ?_) #[true, true, true, true, true, true, true, true, true, true, true, true, true, true, true, true, true, true, true, true, true, true, true] rfl rfl (by kernel_rfl) (fun _ _ _ h => h) (Or.inl ⟨by rfl, ?_⟩) ?_ ?_
        rotate_left
        · intro w'
          go_simp
          with_reducible rfl
        rotate_left
        · simp only [Act.put, List.setIfInBounds_toArray, List.set_cons_zero, List.set_cons_succ, i64_w, i32_w]
          rfl
        refine done_ (by kernel_rfl) ?_
        clear hc0 hc1 hc2 hc3 hc4 BO11 OX12 YO12 RA12 RB12
        go_wp2
        go_roundg (2 - (k + 1))
        case measure => omega
        case rel => exact ⟨k + 1, by omega, by omega, by go_num, HB14⟩
      · have : k = 2 := by omega
        subst this
        clear HE
        go_wp2_with (fail)
        refine (swarflaw04_awake.calls ka true _ HA.out).mono ?_
        rintro e w8 ⟨rfl, hb8⟩
        have HBe := Aside0.mk (HB7.out.trans ((below_step HBr.out hb8).mono HB7.out.size))
        clear hb8
        go_wp2
        go_ret
        exact ⟨rfl, HBe.out⟩
set_option maxHeartbeats 8000000 in
set_option maxRecDepth 100000 in
theorem works_awake (x : CarV) (A1 : Option Addr) (c1 : Nat) (l1 : List Int) (w : World) (hx : x.Ok w) {b : Bool}
    (hu : ∃ k, swarflaw04_huge.f k x.parts x.swap x.looks x.wrong x.needs = some b) (h6 : b = true ∨ (b = false ∧ 6 < x.parts.length ∧ ∃ k, swarfref04_Check.f k x.parts x.swap x.looks x.wrong x.needs = some 0)) {ka : Nat} (ha : swarflaw04_awake.f ka = some true) :
    Calls Try.prog 3 #[.agg #[.slice x.A0 x.parts.length x.c0, .int .i64 x.swap, .slice x.A2 x.looks.length x.c2, .int .i64 x.wrong, .slice x.A4 x.needs.length x.c4], .slice A1 l1.length c1] w fun e w' => e = .returned (.bool true) ∧ Below w.heap.size w w' := by
  have hu26 := Try.underlying26
  obtain ⟨ku, hu⟩ := hu
  have HX := Aside0.mk hx
  have HU := Aside0.mk hu
  have HA := Aside0.mk ha
  have HH6 := Aside0.mk h6
  clear hx hu ha h6
  go_enter Try.func3, Try.ntmps3
  go_wp2_with ((with_reducible refine gate_dst (N := 2) rfl ?_); refine box_event ?hg (N := 2) ?hd (cs := #[.slice x.A0 x.parts.length x.c0, .int .i64 x.swap, .slice x.A2 x.looks.length x.c2, .int .i64 x.wrong, .slice x.A4 x.needs.length x.c4]) (t := 26) ?hr ?_; (case hd => rfl); (case hg => rfl); (case hr => first | (go_simp; done) | (go_simp; rfl)); intro gb hg w2 hbox hb2; have hz0_ := (blk_cell hbox 0).trans rfl; have hz1_ := (blk_cell hbox 1).trans rfl; have hz2_ := (blk_cell hbox 2).trans rfl; have hz3_ := (blk_cell hbox 3).trans rfl; have hz4_ := (blk_cell hbox 4).trans rfl; have BK := Aside0.mk hbox; have HB := Aside0.mk hb2; have HG := Aside0.mk hg; clear hg hbox hb2)
  refine (swarflaw04_huge.calls ku x.A0 x.c0 x.parts x.swap x.A2 x.c2 x.looks x.wrong x.A4 x.c4 x.needs b w2 (HX.out.below HB.out).p HX.out.pc (HX.out.below HB.out).l HX.out.lc (HX.out.below HB.out).n HX.out.nc HU.out).mono ?_
  rintro e w3 ⟨rfl, hb3⟩
  have HB3 := Aside0.mk (below_step HB.out hb3)
  have BK3 := Aside0.mk (blk_below BK.out hb3)
  clear hz0_ hz1_ hz2_ hz3_ hz4_ hb3 HB BK
  have hz0_ := (blk_cell BK3.out 0).trans rfl
  have hz1_ := (blk_cell BK3.out 1).trans rfl
  have hz2_ := (blk_cell BK3.out 2).trans rfl
  have hz3_ := (blk_cell BK3.out 3).trans rfl
  have hz4_ := (blk_cell BK3.out 4).trans rfl
  rcases HH6.out with rfl | ⟨rfl, h7, kk, hck⟩
  · clear HH6
    go_wp2_with (fail)
    refine (swarflaw04_awake.calls ka true _ HA.out).mono ?_
    rintro e w8 ⟨rfl, hb8⟩
    have HBe := Aside0.mk (below_step HB3.out hb8)
    clear hb8
    go_wp2
    go_ret
    exact ⟨rfl, HBe.out⟩
  · have HCK := Aside0.mk hck
    have h6b : decide ((6 : Int) < (x.parts.length : Int)) = true := decide_eq_true (by omega)
    clear hck HH6
    go_wp2_with (fail)
    refine (swarfref04_Check.calls kk x.A0 x.c0 x.parts x.swap x.A2 x.c2 x.looks x.wrong x.A4 x.c4 x.needs 0 w3 (HX.out.below HB3.out).p HX.out.pc (HX.out.below HB3.out).l HX.out.lc (HX.out.below HB3.out).n HX.out.nc HCK.out).mono ?_
    rintro e w4 ⟨rfl, hb4⟩
    have HB4 := Aside0.mk (below_step HB3.out hb4)
    clear hz0_ hz1_ hz2_ hz3_ hz4_ hb4 HB3 BK3
    go_wp2_with (fail)
    refine (swarflaw04_awake.calls ka true _ HA.out).mono ?_
    rintro e w8 ⟨rfl, hb8⟩
    have HBe := Aside0.mk (below_step HB4.out hb8)
    clear hb8
    go_wp2
    go_ret
    exact ⟨rfl, HBe.out⟩
end Go.Proofs.Ytkkmfcdikkiodaa.PC4
namespace Go.Proofs.Ytkkmfcdikkiodaa.PC4
set_option linter.unusedVariables false
open Go.RowKit Go.Proofs.YtkkmfcdikkiodaaW.PrintWords Go.Proofs.YtkkmfcdikkiodaaW.PrintLast Go.Proofs.YtkkmfcdikkiodaaW.PrintMore
structure TruthSet (parts : List S50) (T : List Nat) : Prop where
  ne : T ≠ []
  few : parts.length ≤ 9
  pok : ∀ i, i < parts.length → PartOK i (parts.getD i z50)
  lt : ∀ s, s ∈ T → s < 65536
  ok : ∀ s, s ∈ T → ∀ i, i < parts.length → s.testBit i = true → ∀ x, x ∈ (parts.getD i z50).f0 → s.testBit x.toNat = true
def partV (T : List Nat) (i : Nat) : Int := verdictS (setsI T) (rawHas (i : Int))
def carV (parts : List S50) (T : List Nat) : Int := verdictS (setsI T) (rawAll (badMask parts : Nat))
theorem truthSet {parts : List S50} {looks : List S61} {wrong : Int} (h9 : parts.length ≤ 9) (hp : ∀ i, i < parts.length → PartOK i (parts.getD i z50)) (hne : truthsL parts looks wrong ≠ []) : TruthSet parts (truthsL parts looks wrong) :=
  ⟨hne, h9, hp, fun s hs => by have h1 := ((mem_truths s).1 hs).1; have h2 := pow_le_512 h9; omega, fun s hs => (okM_iff hp s).1 ((mem_truths s).1 hs).2.1⟩
theorem CarGood.set {a1 a2 : Int} {parts : List S50} {swap : Int} {looks : List S61} {wrong : Int} {needs : List Int} {st : List Bool} (h : CarGood a1 a2 parts swap looks wrong needs st) (h9 : a1 ≤ 9) : TruthSet parts (truthsL parts looks wrong) :=
  truthSet (by have := h.few; omega) h.p.ok (fun e => by have := h.truth; rw [e] at this; cases this)
theorem CarGood.out {a1 a2 : Int} {parts : List S50} {swap : Int} {looks : List S61} {wrong : Int} {needs : List Int} {st : List Bool} (h : CarGood a1 a2 parts swap looks wrong needs st) (h9 : a1 ≤ 9) (h12 : a2 ≤ 12) :
    strip_Out.f parts swap looks wrong needs = some (outL parts.length (truthsL parts looks wrong), 0) := by
  unfold strip_Out.f outE
  rw [if_pos (h.fits h9 h12), if_pos (h.check h9 h12), if_neg (h.set h9).ne]
end Go.Proofs.Ytkkmfcdikkiodaa.PC4
namespace Go.Proofs.Ytkkmfcdikkiodaa.PC4
open Go.RowKit Go.Proofs.YtkkmfcdikkiodaaW.PrintWords Go.Proofs.YtkkmfcdikkiodaaW.PrintLast Go.Proofs.YtkkmfcdikkiodaaW.PrintMore
attribute [local go_sem] max2_int min2_int max_two min_two max_three min_three max_four min_four
set_option linter.unusedVariables false
set_option linter.unusedSimpArgs false
def swarfref04_IsClean.l0 : Nat → List Bool → Int → List (S50) → Int → List (S61) → Int → List Int → Option (Bool)
 | 0, _, _, _, _, _, _, _ => none
 | k + 1, x1, x5, x271000, x271001, x271002, x271003, x271004 => if x5 < (x1.length : Int) then (if 0 ≤ x5 then (if x5 < (x271000.length : Int) then (if (rd_T50 x271000 x5).f1 = true then (if rdOf false x1 x5 = true then (swarfref04_IsClean.l0 k x1 (wrap64 (x5 + 1)) x271000 x271001 x271002 x271003 x271004) else (some false)) else (swarfref04_IsClean.l0 k x1 (wrap64 (x5 + 1)) x271000 x271001 x271002 x271003 x271004)) else (none)) else (none)) else (some true)
def swarfref04_IsClean.f (k : Nat) (l0_0 : List (S50)) (a0_1 : Int) (l0_2 : List (S61)) (a0_3 : Int) (l0_4 : List Int) (l1 : List Bool) : Option (Bool) := swarfref04_IsClean.l0 k l1 0 l0_0 a0_1 l0_2 a0_3 l0_4
theorem swarfref04_IsClean.mono_l : ∀ k, (∀ y0 y1 y2 y3 y4 y5 y6, LeO (swarfref04_IsClean.l0 k y0 y1 y2 y3 y4 y5 y6) (swarfref04_IsClean.l0 (k + 1) y0 y1 y2 y3 y4 y5 y6))
 | 0 => fun _ _ _ _ _ _ _ r h => by simp [swarfref04_IsClean.l0] at h
 | k + 1 => by
  have ih0 := swarfref04_IsClean.mono_l k
  ·
   intro y0 y1 y2 y3 y4 y5 y6
   unfold swarfref04_IsClean.l0
   repeat' first
   | (with_reducible exact ih0 _ _ _ _ _ _ _)
   | (with_reducible exact LeO.refl _)
   | (with_reducible exact LeO.none _)
   | (with_reducible refine LeO.ite ?_ ?_)
   | (with_reducible refine LeO.bind ?_ (fun _ => ?_))
   | exact ih0 _ _ _ _ _ _ _
   | exact LeO.none _
   | refine LeO.ite ?_ ?_
   | refine LeO.bind ?_ (fun _ => ?_)
theorem swarfref04_IsClean.mono : ∀ a0 a1 a2 a3 a4 a5 k, LeO (swarfref04_IsClean.f k a0 a1 a2 a3 a4 a5) (swarfref04_IsClean.f (k + 1) a0 a1 a2 a3 a4 a5) := by
 intro a0 a1 a2 a3 a4 a5 k
 have ih0 := swarfref04_IsClean.mono_l k
 unfold swarfref04_IsClean.f
 repeat' first
   | (with_reducible exact ih0 _ _ _ _ _ _ _)
   | (with_reducible exact LeO.refl _)
   | (with_reducible exact LeO.none _)
   | (with_reducible refine LeO.ite ?_ ?_)
   | (with_reducible refine LeO.bind ?_ (fun _ => ?_))
   | exact ih0 _ _ _ _ _ _ _
   | exact LeO.none _
   | refine LeO.ite ?_ ?_
   | refine LeO.bind ?_ (fun _ => ?_)
set_option maxHeartbeats 8000000 in
set_option maxRecDepth 100000 in
theorem swarfref04_IsClean.calls (k : Nat) (A0_0 : Option Addr) (c0_0 : Nat) (l0_0 : List (S50)) (a0_1 : Int) (A0_2 : Option Addr) (c0_2 : Nat) (l0_2 : List (S61)) (a0_3 : Int) (A0_4 : Option Addr) (c0_4 : Nat) (l0_4 : List Int) (A1 : Option Addr) (c1 : Nat) (l1 : List Bool) (r : Bool) (w : World) (hr0_0 : Kd.C k50 w A0_0 l0_0.length l0_0) (hc0_0 : l0_0.length ≤ c0_0) (hr0_2 : Kd.C k61 w A0_2 l0_2.length l0_2) (hc0_2 : l0_2.length ≤ c0_2) (hr0_4 : Kd.C (Kd.int .i64) w A0_4 l0_4.length l0_4) (hc0_4 : l0_4.length ≤ c0_4) (hr1 : Kd.C Kd.bool w A1 l1.length l1) (hc1 : l1.length ≤ c1) (h : swarfref04_IsClean.f k l0_0 a0_1 l0_2 a0_3 l0_4 l1 = some r) :
  Calls Try.prog 29 #[.agg #[.slice A0_0 l0_0.length c0_0, .int .i64 a0_1, .slice A0_2 l0_2.length c0_2, .int .i64 a0_3, .slice A0_4 l0_4.length c0_4], .slice A1 l1.length c1] w fun e w' => e = .returned (.bool r) ∧ Below w.heap.size w w' := by
 have hu26 := Try.underlying26
 have HR0_0 := Aside0.mk hr0_0
 have HC0_0 := Aside0.mk hc0_0
 clear hr0_0 hc0_0
 have HR0_2 := Aside0.mk hr0_2
 have HC0_2 := Aside0.mk hc0_2
 clear hr0_2 hc0_2
 have HR0_4 := Aside0.mk hr0_4
 have HC0_4 := Aside0.mk hc0_4
 clear hr0_4 hc0_4
 have HR1 := Aside0.mk hr1
 have HC1 := Aside0.mk hc1
 clear hr1 hc1
 have HB := Aside0.mk (Below.refl w.heap.size w)
 have H : (swarfref04_IsClean.l0 k l1 0 l0_0 a0_1 l0_2 a0_3 l0_4) = some r := h
 clear h
 have H' := Aside0.mk H
 clear H
 go_enter Try.func29, Try.ntmps29
 go_wp2_with (first | ((with_reducible refine gate_dst (N := 2) rfl ?_); refine box_event ?hg (N := 2) ?hd (cs := #[.slice A0_0 l0_0.length c0_0, .int .i64 a0_1, .slice A0_2 l0_2.length c0_2, .int .i64 a0_3, .slice A0_4 l0_4.length c0_4]) (t := 26) ?hr ?_; (case hd => rfl); (case hg => rfl); (case hr => first | (go_simp; done) | (go_simp; rfl)); intro gb270 hg w3 hbox hb; have BK270 := Aside0.mk (hbox); have GW270 := Aside0.mk ((by rw [hg]; exact (below_size (below_x HB.out)) : w.heap.size ≤ gb270)); have GE270 := Aside0.mk ((by rw [hg]; exact (below_size (below_x HB.out)) : w.heap.size ≤ gb270)); replace HB := Aside0.mk (below_step (below_x HB.out) hb); clear hb hbox hg))
 go_loopg [5] k (fun kq v5 w' => ∃ (x5_1 : Int), v5 = .int .i64 x5_1 ∧ Aside0 (swarfref04_IsClean.l0 kq l1 x5_1 l0_0 a0_1 l0_2 a0_3 l0_4 = some r) ∧ Aside0 (kq ≤ k) ∧ Aside0 (w'.heap[gb270]? = some (.cells #[(.slice A0_0 l0_0.length c0_0), .int .i64 a0_1, (.slice A0_2 l0_2.length c0_2), .int .i64 a0_3, (.slice A0_4 l0_4.length c0_4)] 26 (0, 0))) ∧ Aside0 (Below w.heap.size w w'))
 case atStart => exact ⟨(0), (by first | rfl | (simp; done) | (simp [*]; done)), H', ⟨Nat.le_refl _⟩, ⟨blk_x BK270.out⟩, ⟨by exact below_y HB.out⟩⟩
 case round =>
  clear H'
  obtain ⟨x5_1, rfl, HA, HK1, BK270, HB⟩ := hrel
  cases gk with
  | zero => exact absurd HA.out (by simp [swarfref04_IsClean.l0])
  | succ k1 =>
   have H := HA.out
   clear HA
   simp only [swarfref04_IsClean.l0] at H
   by_cases c4 : x5_1 < (l1.length : Int)
   ·
    rw [if_pos c4] at H
    have c4b0 : decide (x5_1 < (l1.length : Int)) = true := decide_eq_true c4
    clear c4
    by_cases c5 : 0 ≤ x5_1
    ·
     rw [if_pos c5] at H
     have c5b0 : decide (0 ≤ x5_1) = true := decide_eq_true c5
     clear c5
     by_cases c6 : x5_1 < (l0_0.length : Int)
     ·
      rw [if_pos c6] at H
      have c6b0 : decide (x5_1 < (l0_0.length : Int)) = true := decide_eq_true c6
      clear c6
      obtain ⟨bq7, hbq7⟩ : ∃ b_ : Bool, b_ = ((rd_T50 l0_0 x5_1).f1) := ⟨_, rfl⟩
      replace H : (if bq7 = true then (if rdOf false l1 x5_1 = true then (swarfref04_IsClean.l0 k1 l1 (wrap64 (x5_1 + 1)) l0_0 a0_1 l0_2 a0_3 l0_4) else (some false)) else (swarfref04_IsClean.l0 k1 l1 (wrap64 (x5_1 + 1)) l0_0 a0_1 l0_2 a0_3 l0_4)) = some r := by rw [← hbq7] at H; exact H
      have Nbq7 := Aside0.mk hbq7
      clear hbq7
      by_cases c8 : bq7 = true
      ·
       subst c8
       have H1 : (if rdOf false l1 x5_1 = true then (swarfref04_IsClean.l0 k1 l1 (wrap64 (x5_1 + 1)) l0_0 a0_1 l0_2 a0_3 l0_4) else (some false)) = some r := by rw [if_pos rfl] at H; exact H
       clear H
       have H := H1
       clear H1
       obtain ⟨bq9, hbq9⟩ : ∃ b_ : Bool, b_ = (rdOf false l1 x5_1) := ⟨_, rfl⟩
       replace H : (if bq9 = true then (swarfref04_IsClean.l0 k1 l1 (wrap64 (x5_1 + 1)) l0_0 a0_1 l0_2 a0_3 l0_4) else (some false)) = some r := by rw [← hbq9] at H; exact H
       have Nbq9 := Aside0.mk hbq9
       clear hbq9
       by_cases c10 : bq9 = true
       ·
        subst c10
        have H1 : (swarfref04_IsClean.l0 k1 l1 (wrap64 (x5_1 + 1)) l0_0 a0_1 l0_2 a0_3 l0_4) = some r := by rw [if_pos rfl] at H; exact H
        clear H
        have H := H1
        clear H1
        have H' := Aside0.mk H
        clear H
        obtain ⟨_, _, _, _, _⟩ := cz5 BK270
        have hfz11_0 := blk_frozen BK270.out
        have p271 : 0 ≤ (x5_1 : Int) := of_x
        have q271 : x5_1 < (l0_0.length : Int) := of_x
        obtain ⟨ad271, A271_0, c271_0, e271, hx271_0, hx271_1, hx271_2, hx271_3, hl271_0, hi271_0⟩ := at_T50 HR0_0.out x5_1 p271 q271
        (try rw [← Nbq7.out] at hx271_1)
        (try rw [← Nbq9.out] at hx271_1)
        cases e271
        replace hx271_0 := cell_x HB hx271_0
        replace hx271_1 := cell_x HB hx271_1
        replace hx271_2 := cell_x HB hx271_2
        replace hx271_3 := cell_x HB hx271_3
        have HR271_0 := Aside0.mk hi271_0
        have HC271_0 := Aside0.mk hl271_0
        clear hi271_0 hl271_0
        replace p271 := eq_true p271
        replace q271 := eq_true q271
        have p272 : 0 ≤ (x5_1 : Int) := of_x
        have q272 : x5_1 < (l1.length : Int) := of_x
        obtain ⟨ad272, e272, hx272_0⟩ := Kd.at_bool HR1.out x5_1 p272 q272
        (try rw [← Nbq7.out] at hx272_0)
        (try rw [← Nbq9.out] at hx272_0)
        cases e272
        replace hx272_0 := cell_x HB hx272_0
        replace p272 := eq_true p272
        replace q272 := eq_true q272
        go_wp2
        go_roundg k1
        case measure => have := HK1.out; omega
        case rel => exact ⟨(wrap64 (x5_1 + 1)), (by first | rfl | (simp; done) | (simp [*]; done)), H', ⟨by have := HK1.out; omega⟩, ⟨blk_x BK270.out⟩, ⟨by exact below_y HB.out⟩⟩
       ·
        replace c10 := Bool.eq_false_iff.mpr c10
        subst c10
        have H1 : (some false) = some r := by rw [if_neg (show ¬ (false = true) by decide)] at H; exact H
        clear H
        have H := H1
        clear H1
        obtain rfl := Option.some.inj H
        obtain ⟨_, _, _, _, _⟩ := cz5 BK270
        have hfz12_0 := blk_frozen BK270.out
        have p271 : 0 ≤ (x5_1 : Int) := of_x
        have q271 : x5_1 < (l0_0.length : Int) := of_x
        obtain ⟨ad271, A271_0, c271_0, e271, hx271_0, hx271_1, hx271_2, hx271_3, hl271_0, hi271_0⟩ := at_T50 HR0_0.out x5_1 p271 q271
        (try rw [← Nbq7.out] at hx271_1)
        (try rw [← Nbq9.out] at hx271_1)
        cases e271
        replace hx271_0 := cell_x HB hx271_0
        replace hx271_1 := cell_x HB hx271_1
        replace hx271_2 := cell_x HB hx271_2
        replace hx271_3 := cell_x HB hx271_3
        have HR271_0 := Aside0.mk hi271_0
        have HC271_0 := Aside0.mk hl271_0
        clear hi271_0 hl271_0
        replace p271 := eq_true p271
        replace q271 := eq_true q271
        have p272 : 0 ≤ (x5_1 : Int) := of_x
        have q272 : x5_1 < (l1.length : Int) := of_x
        obtain ⟨ad272, e272, hx272_0⟩ := Kd.at_bool HR1.out x5_1 p272 q272
        (try rw [← Nbq7.out] at hx272_0)
        (try rw [← Nbq9.out] at hx272_0)
        cases e272
        replace hx272_0 := cell_x HB hx272_0
        replace p272 := eq_true p272
        replace q272 := eq_true q272
        go_wp2
        go_ret
        exact ⟨by first | rfl | (simp [errW_none, errW_some] <;> rfl) | (simp [*, errW_none, errW_some] <;> rfl), by exact below_y HB.out⟩
      ·
       replace c8 := Bool.eq_false_iff.mpr c8
       subst c8
       have H1 : (swarfref04_IsClean.l0 k1 l1 (wrap64 (x5_1 + 1)) l0_0 a0_1 l0_2 a0_3 l0_4) = some r := by rw [if_neg (show ¬ (false = true) by decide)] at H; exact H
       clear H
       have H := H1
       clear H1
       have H' := Aside0.mk H
       clear H
       obtain ⟨_, _, _, _, _⟩ := cz5 BK270
       have hfz13_0 := blk_frozen BK270.out
       have p271 : 0 ≤ (x5_1 : Int) := of_x
       have q271 : x5_1 < (l0_0.length : Int) := of_x
       obtain ⟨ad271, A271_0, c271_0, e271, hx271_0, hx271_1, hx271_2, hx271_3, hl271_0, hi271_0⟩ := at_T50 HR0_0.out x5_1 p271 q271
       (try rw [← Nbq7.out] at hx271_1)
       cases e271
       replace hx271_0 := cell_x HB hx271_0
       replace hx271_1 := cell_x HB hx271_1
       replace hx271_2 := cell_x HB hx271_2
       replace hx271_3 := cell_x HB hx271_3
       have HR271_0 := Aside0.mk hi271_0
       have HC271_0 := Aside0.mk hl271_0
       clear hi271_0 hl271_0
       replace p271 := eq_true p271
       replace q271 := eq_true q271
       go_wp2
       go_roundg k1
       case measure => have := HK1.out; omega
       case rel => exact ⟨(wrap64 (x5_1 + 1)), (by first | rfl | (simp; done) | (simp [*]; done)), H', ⟨by have := HK1.out; omega⟩, ⟨blk_x BK270.out⟩, ⟨by exact below_y HB.out⟩⟩
     ·
      rw [if_neg c6] at H
      exact absurd H (by simp)
    ·
     rw [if_neg c5] at H
     exact absurd H (by simp)
   ·
    rw [if_neg c4] at H
    have c4b0 : decide (x5_1 < (l1.length : Int)) = false := decide_eq_false c4
    clear c4
    obtain rfl := Option.some.inj H
    go_wp2
    go_ret
    exact ⟨by first | rfl | (simp [errW_none, errW_some] <;> rfl) | (simp [*, errW_none, errW_some] <;> rfl), by exact below_y HB.out⟩
end Go.Proofs.Ytkkmfcdikkiodaa.PC4
namespace Go.Proofs.Ytkkmfcdikkiodaa.PC4
set_option linter.unusedVariables false
open Go.RowKit Go.Proofs.YtkkmfcdikkiodaaW.PrintWords Go.Proofs.YtkkmfcdikkiodaaW.PrintLast Go.Proofs.YtkkmfcdikkiodaaW.PrintMore
theorem Ev.succ {α : Type} {g : Nat → Option α} {r : α} (h : Ev (fun k => g (k + 1)) r) : Ev g r := Ev.step (fun _ => rfl) h
theorem Res.succ {α : Type} {g : Nat → Option α} {P : α → Prop} (h : Res (fun k => g (k + 1)) P) : Res g P := Res.step (fun _ => rfl) h
theorem Res.of {α : Type} {g : Nat → Option α} {P : α → Prop} {r : α} (h : Ev g r) (hp : P r) : Res g P := ⟨r, h, hp⟩
theorem Res.now {α : Type} {P : α → Prop} {r : α} (hp : P r) : Res (fun _ => some r) P := ⟨r, Ev.now r, hp⟩
theorem Res.mono {α : Type} {g : Nat → Option α} {P Q : α → Prop} (h : Res g P) (k : ∀ r, P r → Q r) : Res g Q := by
  obtain ⟨r, h1, h2⟩ := h
  exact ⟨r, h1, k r h2⟩
theorem Ev.take {α β : Type} {o : Option α} {a : α} {f : Nat → α → Option β} {r : β} (h : o = some a) (k : Ev (fun n => f n a) r) : Ev (fun n => o.bind (f n)) r := by subst h; exact k
theorem Res.take {α β : Type} {o : Option α} {a : α} {f : Nat → α → Option β} {P : β → Prop} (h : o = some a) (k : Res (fun n => f n a) P) : Res (fun n => o.bind (f n)) P := by subst h; exact k
theorem wrapS {i : Nat} (h : i < 4611686018427387904) : wrap64 ((i : Int) + 1) = ((i + 1 : Nat) : Int) := by rw [wrap64_id (by omega) (by omega)]; omega
theorem wrapP {i : Nat} (h0 : 0 < i) (h : i < 4611686018427387904) : wrap64 ((i : Int) - 1) = ((i - 1 : Nat) : Int) := by rw [wrap64_id (by omega) (by omega)]; omega
theorem rd50 (l : List S50) (k : Nat) : rd_T50 l (k : Int) = l.getD k z50 := by simp [rd_T50]
theorem rd61 (l : List S61) (k : Nat) : rd_T61 l (k : Int) = l.getD k z61 := by simp [rd_T61]
theorem rdB (l : List Bool) (k : Nat) : rdOf false l (k : Int) = l.getD k false := by simp [rdOf]
theorem getD_mem {α : Type} (l : List α) (k : Nat) (d : α) (h : k < l.length) : l.getD k d ∈ l := by
  rw [List.getD, List.getElem?_eq_getElem h]; exact List.getElem_mem h
theorem getD_get {α : Type} (l : List α) (k : Nat) (d : α) (h : k < l.length) : l.getD k d = l[k] := by
  rw [List.getD, List.getElem?_eq_getElem h]; rfl
theorem ext_getD {α : Type} (d : α) {a b : List α} (hl : a.length = b.length) (h : ∀ i, i < a.length → a.getD i d = b.getD i d) : a = b := by
  apply List.ext_getElem hl
  intro i h1 h2
  have := h i h1
  rwa [getD_get _ _ _ h1, getD_get _ _ _ h2] at this
theorem ints_f (l : List Int) (h : l.length < 17592186044416) : swarfkit_Ints.f l = some l := by
  unfold swarfkit_Ints.f
  simp (disch := omega) only [Option.bind_some, List.length_nil, List.nil_append, if_pos]
theorem copyCar_l0 (parts : List S50) (swap : Int) (looks : List S61) (wrong : Int) (needs : List Int) (s2 : Int) (l2 : List S61) (w2 : Int) (n2 : List Int) (hl : parts.length ≤ 100000) (hb : ∀ p, p ∈ parts → p.f0.length ≤ 100000) (d : Nat) :
    ∀ (i : Nat), i + d = parts.length → Ev (fun K => swarfkit_CopyCar.l0 K (i : Int) parts swap looks wrong needs (parts.take i) s2 l2 w2 n2) (parts, s2, l2, w2, n2) := by
  induction d with
  | zero =>
    intro i hi
    refine Ev.succ ?_
    simp (disch := omega) only [swarfkit_CopyCar.l0, if_neg]
    rw [List.take_of_length_le (by omega)]
    exact Ev.now _
  | succ d ih =>
    intro i hi
    have hlt : i < parts.length := by omega
    have ihk := ih (i + 1) (by omega)
    have hp := hb _ (getD_mem parts i z50 hlt)
    have htl : (parts.take i).length ≤ i := List.length_take_le _ _
    refine Ev.succ ?_
    simp (disch := omega) only [swarfkit_CopyCar.l0, if_pos, wrapS, rd50, ints_f, Option.bind_some]
    rw [List.take_succ_eq_append_getElem hlt] at ihk
    rw [getD_get _ _ _ hlt]
    exact ihk
theorem copyCar_ev (parts : List S50) (swap : Int) (looks : List S61) (wrong : Int) (needs : List Int) (hl : parts.length ≤ 100000) (hb : ∀ p, p ∈ parts → p.f0.length ≤ 100000) (h2 : looks.length ≤ 100000) (h3 : needs.length ≤ 100000) :
    Ev (fun K => swarfkit_CopyCar.f K parts swap looks wrong needs) (parts, swap, looks, wrong, needs) := by
  unfold swarfkit_CopyCar.f
  simp (disch := omega) only [Option.bind_some, List.length_nil, List.nil_append, if_pos, ints_f]
  exact copyCar_l0 parts swap looks wrong needs swap looks wrong needs hl hb parts.length 0 (by omega)
theorem CarGood.copy {a1 a2 : Int} {parts : List S50} {swap : Int} {looks : List S61} {wrong : Int} {needs : List Int} {st : List Bool} (h : CarGood a1 a2 parts swap looks wrong needs st) (h9 : a1 ≤ 9) (h12 : a2 ≤ 12) :
    Ev (fun K => swarfkit_CopyCar.f K parts swap looks wrong needs) (parts, swap, looks, wrong, needs) := by
  have hf := h.few
  have hl := h.ll
  have hn := h.nl
  refine copyCar_ev parts swap looks wrong needs (by omega) (fun p hp => ?_) (by omega) (by omega)
  obtain ⟨i, hi, rfl⟩ := List.getElem_of_mem hp
  have hk2 := h.p.ok i hi
  rw [getD_get _ _ _ hi] at hk2
  have : (parts[i]).f0.length ≤ i := hk2.len
  omega
end Go.Proofs.Ytkkmfcdikkiodaa.PC4
namespace Go.Proofs.Ytkkmfcdikkiodaa.PC4
open Go.RowKit Go.Proofs.YtkkmfcdikkiodaaW.PrintWords Go.Proofs.YtkkmfcdikkiodaaW.PrintLast Go.Proofs.YtkkmfcdikkiodaaW.PrintMore
attribute [local go_sem] max2_int min2_int max_two min_two max_three min_three max_four min_four
set_option linter.unusedVariables false
set_option linter.unusedSimpArgs false
def swarflaw04_said.f (a0 : Int) (a1 : Int) : Option (Int) := if a0 = a1 then (some 1) else (if a0 = 0 then (some 2) else (some 3))
set_option maxHeartbeats 8000000 in
set_option maxRecDepth 100000 in
theorem swarflaw04_said.calls (a0 : Int) (a1 : Int) (r : Int) (w : World) (h : swarflaw04_said.f a0 a1 = some r) :
  Calls Try.prog 30 #[.int .i64 a0, .int .i64 a1] w fun e w' => e = .returned (.int .i64 r) ∧ Drawn0 w w' := by
 have H : (if a0 = a1 then (some 1) else (if a0 = 0 then (some 2) else (some 3))) = some r := h
 clear h
 by_cases c3 : a0 = a1
 ·
  rw [if_pos c3] at H
  have c3b0 : (a0 == a1) = true := beq_iff_eq.mpr c3
  have c3b1 : (a0 != a1) = false := bne_eq_false_iff_eq.mpr c3
  clear c3
  obtain rfl := Option.some.inj H
  go_enter Try.func30, Try.ntmps30
  go_wp2
  go_ret
  exact ⟨by first | rfl | (simp; done) | (simp [*]; done), by repeat (first | exact Drawn0.refl _ | apply Drawn0.step)⟩
 ·
  rw [if_neg c3] at H
  have c3b0 : (a0 == a1) = false := beq_eq_false_iff_ne.mpr c3
  have c3b1 : (a0 != a1) = true := bne_iff_ne.mpr c3
  by_cases c4 : a0 = 0
  ·
   rw [if_pos c4] at H
   have c4b0 : (a0 == 0) = true := beq_iff_eq.mpr c4
   have c4b1 : (a0 != 0) = false := bne_eq_false_iff_eq.mpr c4
   clear c4
   obtain rfl := Option.some.inj H
   go_enter Try.func30, Try.ntmps30
   go_wp2
   go_ret
   exact ⟨by first | rfl | (simp; done) | (simp [*]; done), by repeat (first | exact Drawn0.refl _ | apply Drawn0.step)⟩
  ·
   rw [if_neg c4] at H
   have c4b0 : (a0 == 0) = false := beq_eq_false_iff_ne.mpr c4
   have c4b1 : (a0 != 0) = true := bne_iff_ne.mpr c4
   obtain rfl := Option.some.inj H
   go_enter Try.func30, Try.ntmps30
   go_wp2
   go_ret
   exact ⟨by first | rfl | (simp; done) | (simp [*]; done), by repeat (first | exact Drawn0.refl _ | apply Drawn0.step)⟩
end Go.Proofs.Ytkkmfcdikkiodaa.PC4
namespace Go.Proofs.Ytkkmfcdikkiodaa.PC4
set_option linter.unusedVariables false
set_option linter.unusedSimpArgs false
open Go.RowKit Go.Proofs.YtkkmfcdikkiodaaW.PrintWords Go.Proofs.YtkkmfcdikkiodaaW.PrintLast Go.Proofs.YtkkmfcdikkiodaaW.PrintMore
def tset (parts : List S50) (looks : List S61) (wrong : Int) (m : Nat) : List Nat := (List.range m).filter fun s => okM parts s && decide ((wrongM s looks : Int) ≤ wrong)
def bitsTo (n i m : Nat) : List Bool := (List.range n).map fun j => decide (j < i) && m.testBit j
theorem bitsTo_len (n i m : Nat) : (bitsTo n i m).length = n := by simp [bitsTo]
theorem bitsTo_get {n i m j : Nat} (h : j < n) : (bitsTo n i m).getD j false = (decide (j < i) && m.testBit j) := by
  rw [getD_get _ _ _ (by rw [bitsTo_len]; exact h)]
  simp [bitsTo]
theorem bitsTo_full {n m : Nat} {j : Nat} (h : j < n) : (bitsTo n n m).getD j false = m.testBit j := by
  rw [bitsTo_get h, decide_eq_true h, Bool.true_and]
theorem stM_bits {n m : Nat} (h : m < 2 ^ n) : stM (bitsTo n n m) = m := by
  apply Nat.eq_of_testBit_eq
  intro i
  rw [stM_bit]
  by_cases hi : i < n
  · exact bitsTo_full hi
  · rw [List.getD, List.getElem?_eq_none (by rw [bitsTo_len]; omega), Nat.testBit_lt_two_pow (Nat.lt_of_lt_of_le h (Nat.pow_le_pow_right (by decide) (by omega)))]
    rfl
def okTo (parts : List S50) (m i : Nat) : Bool := (List.range i).all fun j => !m.testBit j || (parts.getD j z50).f0.all fun x => m.testBit x.toNat
theorem hasAfter_iff (s i : Nat) : ∀ (l : List S50) (k : Nat), hasAfter s i k l = true ↔ ∃ j, j < l.length ∧ s.testBit (k + j) = true ∧ (i : Int) ∈ (l.getD j z50).f0 := by
  intro l
  induction l with
  | nil => intro k; simp [hasAfter]
  | cons p l ih =>
    intro k
    have e : hasAfter s i k (p :: l) = ((s.testBit k && p.f0.any (fun x => x == (i : Int))) || hasAfter s i (k + 1) l) := rfl
    rw [e, Bool.or_eq_true, Bool.and_eq_true, ih, List.any_eq_true]
    constructor
    · rintro (⟨h1, x, hx, h2⟩ | ⟨j, hj, h1, h2⟩)
      · refine ⟨0, by simp, by simpa using h1, ?_⟩
        rw [List.getD_cons_zero]
        rw [beq_iff_eq] at h2
        rw [← h2]; exact hx
      · exact ⟨j + 1, by simpa using hj, by rwa [show k + (j + 1) = k + 1 + j by omega], by simpa using h2⟩
    · rintro ⟨j, hj, h1, h2⟩
      cases j with
      | zero => exact .inl ⟨by simpa using h1, (i : Int), by simpa using h2, by simp⟩
      | succ j => exact .inr ⟨j, by simpa using hj, by rwa [show k + 1 + j = k + (j + 1) by omega], by simpa using h2⟩
structure DoOK (parts : List S50) (s i : Nat) (l : List Bool) : Prop where
  len : l.length = parts.length
  hi : ∀ j, i ≤ j → j < parts.length → l.getD j false = s.testBit j
  lo : ∀ j, j < i → (l.getD j false = true ↔ ∃ k, k < parts.length ∧ s.testBit k = true ∧ (j : Int) ∈ (parts.getD k z50).f0)
  sm : ∀ j, j < i → s.testBit j = false
section
variable {parts : List S50} {swap : Int} {looks : List S61} {wrong : Int} {needs : List Int} (out : List Int) (ho : out.length = parts.length) (h9 : parts.length ≤ 16) (hp : ∀ i, i < parts.length → (parts.getD i z50).f0.length ≤ 1000 ∧ ∀ x, x ∈ (parts.getD i z50).f0 → 0 ≤ x ∧ x < i)
include hp h9 in
theorem toDo_l1 (i : Nat) (hi : i < parts.length) {r : List Bool} (d : Nat) : ∀ (k : Nat) (l : List Bool), k + d = (parts.getD i z50).f0.length → l.length = parts.length → l.getD i false = true →
    (∀ l' : List Bool, l'.length = parts.length → (∀ j, l'.getD j false = true ↔ l.getD j false = true ∨ (j : Int) ∈ (parts.getD i z50).f0.drop k) → Ev (fun K => swarfref04_ToDo.l0 K out l' ((i : Int) - 1) parts swap looks wrong needs) r) →
    Ev (fun K => swarfref04_ToDo.l1 K out l (i : Int) (k : Int) parts swap looks wrong needs) r := by
  have hpi := hp i hi
  have hrd := rd50 parts i
  have hw : wrap64 ((i : Int) - 1) = (i : Int) - 1 := wrap64_id (by omega) (by omega)
  generalize parts.getD i z50 = p at *
  induction d with
  | zero =>
    intro k l hk hl hb hT
    refine Ev.succ ?_
    simp (disch := omega) only [swarfref04_ToDo.l1, if_pos, if_neg, hrd, hw]
    refine hT l hl (fun j => ?_)
    rw [List.drop_of_length_le (by omega)]
    simp
  | succ d ih =>
    intro k l hk hl hb hT
    have hxk := hpi.2 _ (getD_mem p.f0 k 0 (by omega))
    have hdrop := drop_cons_rd p.f0 k (by omega) 0
    have hb2 : rdOf false l (i : Int) = true := by rw [rdB]; exact hb
    have hset : (l.set (p.f0.getD k 0).toNat true).length = parts.length := by simpa using hl
    refine Ev.succ ?_
    simp (disch := omega) only [swarfref04_ToDo.l1, if_pos, hrd, hb2, if_true, rd_getD, wrapS]
    have hg : ∀ j, (l.set (p.f0.getD k 0).toNat true).getD j false = true ↔ l.getD j false = true ∨ (j : Int) = p.f0.getD k 0 := by
      intro j
      rw [List.getD, List.getElem?_set]
      by_cases e : (p.f0.getD k 0).toNat = j
      · rw [if_pos e, if_pos (by omega)]
        have : (j : Int) = p.f0.getD k 0 := by omega
        simp [this]
      · rw [if_neg e]
        have : ¬ (j : Int) = p.f0.getD k 0 := by omega
        rw [← List.getD]
        simp only [this, or_false]
    refine ih (k + 1) _ (by omega) hset ((hg i).2 (.inl hb)) (fun l' hl' h' => hT l' hl' (fun j => ?_))
    rw [h' j, hg j, hdrop, List.mem_cons, or_assoc]
include ho hp h9 in
theorem toDo_l0 (m : Nat) : ∀ (s : Nat) (l : List Bool), m ≤ parts.length → DoOK parts s m l → Res (fun K => swarfref04_ToDo.l0 K out l ((m : Int) - 1) parts swap looks wrong needs) (fun r => DoOK parts (leftGo parts out m s) 0 r) := by
  induction m with
  | zero =>
    intro s l hm hD
    refine Res.succ ?_
    simp (disch := omega) only [swarfref04_ToDo.l0, if_neg]
    exact Res.now hD
  | succ m ih =>
    intro s l hm hD
    have hm1 : ((m + 1 : Nat) : Int) - 1 = (m : Int) := by omega
    have hlen := hD.len
    have hlo := hD.lo m (by omega)
    have hha := hasAfter_iff s m parts 0
    simp only [Nat.zero_add] at hha
    have hdo : l.getD m false = hasAfter s m 0 parts := by
      rw [Bool.eq_iff_iff, hlo, hha]
    have e : leftGo parts out (m + 1) s = leftGo parts out m (if ((parts.getD m z50).f1 || hasAfter s m 0 parts) && !(out.getD m 0 == 1) then s ||| 2 ^ m else s) := rfl
    rw [e]
    have key : ∀ b : Bool, b = (((parts.getD m z50).f1 || hasAfter s m 0 parts) && !(out.getD m 0 == 1)) → Res (fun K => swarfref04_ToDo.j1 K out (l.set m b) (m : Int) parts swap looks wrong needs) (fun r => DoOK parts (leftGo parts out m (if (((parts.getD m z50).f1 || hasAfter s m 0 parts) && !(out.getD m 0 == 1)) = true then s ||| 2 ^ m else s)) 0 r) := by
      intro b hb
      rw [← hb]
      have hsl : (l.set m b).length = parts.length := by simpa using hlen
      have hsg : ∀ j, j ≠ m → (l.set m b).getD j false = l.getD j false := fun j hj => by
        rw [List.getD, List.getElem?_set, if_neg (fun e => hj e.symm)]; rfl
      have hsm : (l.set m b).getD m false = b := by
        rw [List.getD, List.getElem?_set, if_pos rfl, if_pos (by omega)]; rfl
      have hbit : ∀ j, (s ||| 2 ^ m).testBit j = (s.testBit j || decide (m = j)) := fun j => by rw [Nat.testBit_or, Nat.testBit_two_pow]
      refine Res.succ ?_
      simp only [swarfref04_ToDo.j1]
      cases b with
      | false =>
        simp only [Bool.false_eq_true, if_false]
        have hD2 : DoOK parts s m (l.set m false) := by
          refine ⟨hsl, fun j h1 h2 => ?_, fun j h1 => ?_, fun j h1 => hD.sm j (by omega)⟩
          · by_cases e : j = m
            · subst e; rw [hsm, hD.sm j (by omega)]
            · rw [hsg j e]; exact hD.hi j (by omega) h2
          · rw [hsg j (by omega)]; exact hD.lo j (by omega)
        have := ih s _ (by omega) hD2
        refine Res.succ ?_
        have hb2 : rdOf false (l.set m false) (m : Int) = false := by rw [rdB]; exact hsm
        have hw : wrap64 ((m : Int) - 1) = (m : Int) - 1 := wrap64_id (by omega) (by omega)
        have hlt : (m : Int) < (parts.length : Int) := by omega
        have h0 : (0 : Int) ≤ (m : Int) := by omega
        have hlt2 : (m : Int) < ((l.set m false).length : Int) := by omega
        have hrd := rd50 parts m
        by_cases hbl : (0 : Int) < (((parts.getD m z50).f0.length : Nat) : Int)
        · simp only [swarfref04_ToDo.l1, h0, hlt, hlt2, hrd, hbl, hb2, if_true, Bool.false_eq_true, if_false, hw]
          exact this
        · simp only [swarfref04_ToDo.l1, h0, hlt, hlt2, hrd, hbl, hb2, if_true, Bool.false_eq_true, if_false, hw]
          exact this
      | true =>
        simp only [if_true]
        obtain ⟨r, h1, h2⟩ : ∃ r, (∀ l', l'.length = parts.length → (∀ j, l'.getD j false = true ↔ (l.set m true).getD j false = true ∨ (j : Int) ∈ (parts.getD m z50).f0.drop 0) → Ev (fun K => swarfref04_ToDo.l0 K out l' ((m : Int) - 1) parts swap looks wrong needs) r) ∧ DoOK parts (leftGo parts out m (s ||| 2 ^ m)) 0 r := by
          let l1 : List Bool := (List.range parts.length).map fun j => (l.set m true).getD j false || decide ((j : Int) ∈ (parts.getD m z50).f0)
          have hl1 : l1.length = parts.length := by simp [l1]
          have hg1 : ∀ j, j < parts.length → l1.getD j false = ((l.set m true).getD j false || decide ((j : Int) ∈ (parts.getD m z50).f0)) := fun j hj => by
            rw [getD_get _ _ _ (by rw [hl1]; exact hj)]; simp [l1]
          have hD2 : DoOK parts (s ||| 2 ^ m) m l1 := by
            refine ⟨hl1, fun j h1 h2 => ?_, fun j h1 => ?_, fun j h1 => ?_⟩
            · rw [hg1 j h2, hbit]
              have hnm : ¬ (j : Int) ∈ (parts.getD m z50).f0 := fun e => by have := (hp m (by omega)).2 _ e; omega
              rw [decide_eq_false hnm, Bool.or_false]
              by_cases e : j = m
              · subst e; rw [hsm]; simp
              · rw [hsg j e, hD.hi j (by omega) h2]
                have : ¬ m = j := fun h => e h.symm
                simp [this]
            · rw [hg1 j (by omega), Bool.or_eq_true, decide_eq_true_eq, hsg j (by omega), hD.lo j (by omega)]
              constructor
              · rintro (⟨k, hk, h2, h3⟩ | h2)
                · exact ⟨k, hk, by rw [hbit, h2]; rfl, h3⟩
                · exact ⟨m, by omega, by rw [hbit]; simp, h2⟩
              · rintro ⟨k, hk, h2, h3⟩
                rw [hbit, Bool.or_eq_true, decide_eq_true_eq] at h2
                rcases h2 with h2 | h2
                · exact .inl ⟨k, hk, h2, h3⟩
                · subst h2; exact .inr h3
            · rw [hbit, hD.sm j (by omega)]
              have : ¬ m = j := by omega
              simp [this]
          obtain ⟨r, e1, e2⟩ := ih (s ||| 2 ^ m) l1 (by omega) hD2
          refine ⟨r, fun l' hl' h' => ?_, e2⟩
          have : l' = l1 := by
            refine ext_getD false (by rw [hl', hl1]) (fun j hj => ?_)
            rw [hl'] at hj
            rw [Bool.eq_iff_iff, h' j, hg1 j hj, Bool.or_eq_true, decide_eq_true_eq, List.drop_zero]
          rw [this]
          exact e1
        exact ⟨r, toDo_l1 (swap := swap) (looks := looks) (wrong := wrong) (needs := needs) out h9 hp m (by omega) _ 0 (l.set m true) (Nat.zero_add _) hsl hsm h1, h2⟩
    have hrd := rd50 parts m
    have hrb : rdOf false l (m : Int) = hasAfter s m 0 parts := by rw [rdB]; exact hdo
    have hro : rd out (m : Int) = out.getD m 0 := rd_getD _ _
    rw [hm1]
    refine Res.succ ?_
    have hge : (m : Int) ≥ 0 := by omega
    simp (disch := omega) only [swarfref04_ToDo.l0, if_pos, hrb, hrd, hro, Int.toNat_natCast]
    cases hh : hasAfter s m 0 parts with
    | true =>
      simp only [if_true]
      rw [hh] at key
      have := key (out.getD m 0 != 1) (by simp [bne])
      rw [hh] at *
      exact this
    | false =>
      rw [hh] at key
      simp only [Bool.false_eq_true, if_false]
      cases hb : (parts.getD m z50).f1 with
      | true =>
        rw [hb] at key
        simp only [if_true]
        exact key (out.getD m 0 != 1) (by simp [bne])
      | false =>
        rw [hb] at key
        simp only [Bool.false_eq_true, if_false]
        exact key false (by simp)
include ho hp h9 in
theorem toDo_ev : Res (fun K => swarfref04_ToDo.f K parts swap looks wrong needs out) (fun r => r.length = parts.length ∧ ∀ j, r.getD j false = (leftM parts out).testBit j) := by
  have h := toDo_l0 (swap := swap) (looks := looks) (wrong := wrong) (needs := needs) out ho h9 hp parts.length 0 (List.replicate parts.length false) (Nat.le_refl _) ⟨by simp, fun j h1 h2 => by omega, fun j h1 => ?_, fun j h1 => by simp⟩
  · unfold swarfref04_ToDo.f
    have hw : wrap64 ((parts.length : Int) - 1) = (parts.length : Int) - 1 := wrap64_id (by omega) (by omega)
    simp (disch := omega) only [if_pos, hw, Int.toNat_natCast]
    refine h.mono (fun r hr => ⟨hr.len, fun j => ?_⟩)
    by_cases hj : j < parts.length
    · exact hr.hi j (Nat.zero_le _) hj
    · rw [List.getD, List.getElem?_eq_none (by rw [hr.len]; omega)]
      have hlt : leftM parts out < 2 ^ parts.length := leftM_lt parts out
      rw [Nat.testBit_lt_two_pow (Nat.lt_of_lt_of_le hlt (Nat.pow_le_pow_right (by decide) (by omega)))]
      rfl
  · constructor
    · intro e
      rw [getD_get _ _ _ (by simpa using h1)] at e
      simp at e
    · rintro ⟨k, _, h2, _⟩
      simp at h2
end
end Go.Proofs.Ytkkmfcdikkiodaa.PC4
